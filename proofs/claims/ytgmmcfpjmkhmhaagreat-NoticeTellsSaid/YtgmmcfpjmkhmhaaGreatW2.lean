/-
  More operations of the abstract walk, second part.
  A region in the abstract walk: one walk in the order of the text serves every order that the region may draw.
  A region in the abstract walk is what the model's region does, in whatever order it is carried out.
  Code in the abstract walk: sequences, branches, blocks, loops, regions; the state is kept small and its names are kept low.
  A region, and a whole function, in the abstract walk.
  A law's arguments as data of the abstract walk; the law's contract as the row's statement wants it.
  The row's step out of a contract; what a table of types must say, as a program.
  Codes of types of data, typed values of the walk, its states; what they stand for.
  The operations of the typed walk.
  Each operation of the typed walk is what the abstract walk's operation does.
  Each operation of the typed walk is what the abstract walk's operation does: the rest.
  The typed walk's append; all operations together.
  Contracts with typed functions; calls of the typed walk.
  More operations of the typed walk.
-/
import Derived.Test.YtgmmcfpjmkhmhaaGreatW1
import Derived.Laws.MakeOwn
import Derived.ChangeSame
import Derived.Carry
import Derived.OpenShut
import Derived.WalkKit
import Derived.ProofKit
namespace Go.Gb
open Go.RowKit

def aMake (T : Tab) (i : Nat) (t : TypeId) (l c : AV) : Option Out :=
  (T t).bind fun ti => match ti.k, l, c with
  | .slice e, .t (.sc (.int _ n)), .t (.sc (.int _ m)) => (T e).bind fun ei =>
      some ⟨.own (nid i) 0 n.toNat, [(nid i, some ⟨ei.size, wkRows (List.replicate n.toNat (ei.zero.map cv))⟩)], [0 ≤ n ∧ n ≤ m ∧ m.toNat * ei.bytes ≤ 140737488355328 ∧ m.toNat ≤ maxLen ∧ 0 < ei.size]⟩
  | _, _, _ => none

def aNilCheck (x : AV) : Option Out :=
  match x with
  | .ptr k r f => pv (.ptr k r f)
  | .rptr r f => pv (.rptr r f)
  | _ => none

def isX2 : Op → Bool
  | .nilCheck _ => true
  | .makeSlice _ _ _ => true
  | _ => false

def absExt2 (T : Tab) (i : Nat) (o : Oper) (_n : Int) (ρ : Operand → AV) (_get : Nat → Option AObj) : Option Out :=
  match o.op with
  | .nilCheck x => aNilCheck (ρ x)
  | .makeSlice t l c => aMake T i t (ρ l) (ρ c)
  | _ => none

def absExtA (T : Tab) (i : Nat) (o : Oper) (n : Int) (ρ : Operand → AV) (get : Nat → Option AObj) : Option Out :=
  bif isX2 o.op then absExt2 T i o n ρ get else absExt T i o n ρ get

section
variable {T : Tab}
theorem absExt2_congr {i : Nat} {o : Oper} {n : Int} {ρ ρ' : Operand → AV} {get : Nat → Option AObj} (h : ∀ x ∈ o.op.operands, ρ x = ρ' x) : absExt2 T i o n ρ get = absExt2 T i o n ρ' get := by
  obtain ⟨dst, op, ty, pos, after, guard⟩ := o
  cases op <;> simp only [Op.operands] at h <;> simp only [absExt2]
  case nilCheck x => rw [h x (by simp)]
  case makeSlice t l c => rw [h l (by simp), h c (by simp)]

theorem absExtA_congr {i : Nat} {o : Oper} {n : Int} {ρ ρ' : Operand → AV} {get : Nat → Option AObj} (h : ∀ x ∈ o.op.operands, ρ x = ρ' x) : absExtA T i o n ρ get = absExtA T i o n ρ' get := by
  unfold absExtA
  rw [absExt_congr h, absExt2_congr h]
end

section
variable {P : Program} {T : Tab} {w0 : World} {O0 : Was} {β : Nat → Option Blk} {I : Nat → Prop} {obj : Nat → Option AObj} {w : World} {i : Nat}

theorem madeCells_get (z : Array Value) (n j : Nat) (h : j < n) : (madeCells z n)[j]? = some (z[j % z.size]!) := by
  simp [madeCells, Array.getElem?_map, h]

theorem aMake_sound (hT : TabOk P T) (h : Mem P w0 O0 β I obj w) (hn : β (nid i) = none) {t : TypeId} {l c : AV} {u v : Value} {out : Out} (ha : aMake T i t l c = some out) (hob : out.ob) (hl : VR P β w I l u) (hc : VR P β w I c v)
    {r : Operand → Value} {x y : Operand} (hu : r x = u) (hv : r y = v) {dst : Option Tmp} {ty : TypeId} {pos : String} {after : Array Edge} {guard : Option (Nat × Bool)} :
    Did P w0 O0 β I obj w i out ((execOp r ⟨dst, .makeSlice t x y, ty, pos, after, guard⟩).run P w) := by
  unfold aMake at ha
  cases hti : T t with
  | none => simp [hti] at ha
  | some ti =>
    simp only [hti, Option.bind_some] at ha
    split at ha
    · rename_i e kl n kc m hkd
      cases hei : T e with
      | none => simp [hei] at ha
      | some ei =>
        simp only [hei, Option.bind_some, Option.some.injEq] at ha
        subst ha
        obtain ⟨n0, nm, m47, m63, mpos⟩ := hob
        simp only [VR, TR] at hl hc
        obtain ⟨rfl, _⟩ := hl
        obtain ⟨rfl, _⟩ := hc
        have he := hT e ei hei
        have hund := kind_slice (hT t ti hti) hkd
        obtain ⟨info, d, z, g1, g2, g3, g4, g5, g6, g7, g8⟩ := he.ex
        obtain ⟨n, rfl⟩ : ∃ n' : Nat, n = (n' : Int) := ⟨n.toNat, by omega⟩
        obtain ⟨m, rfl⟩ : ∃ m' : Nat, m = (m' : Int) := ⟨m.toNat, by omega⟩
        simp only [Int.toNat_natCast] at m47 m63 ⊢
        have hb : (info.bytes : Int) * (m : Int) ≤ 281474976710656 := by
          have : ((info.bytes * m : Nat) : Int) ≤ 281474976710656 := by rw [g4, Nat.mul_comm]; omega
          rwa [Int.natCast_mul] at this
        have hrun := run_make (P := P) w t e info z hund g1 g5 kl kc n m n0 nm hb (by simp only [maxLen] at m63; omega)
        simp only [Int.toNat_natCast, g3] at hrun
        have hzs : z.cells.size = ei.size := by rw [← Array.length_toList, g6]; exact he.len
        have hcs : (madeCells z.cells (m * ei.size)).size = m * ei.size := size_madeCells _ _
        obtain ⟨hS, hM⟩ := Mem.alloc (i := nid i) (o := ⟨ei.size, List.replicate n (ei.zero.map cv)⟩) (c := madeCells z.cells (m * ei.size)) (e := e) h hn (by
          refine ORows.zeros ei.zero ei.size he.len (fun v hv => oneCell_of_B (List.all_eq_true.1 he.one v hv)) n _ 0 (fun i j hi hj => ?_)
          have hlt : 0 + i * ei.size + j < m * ei.size := by
            have : (i + 1) * ei.size ≤ m * ei.size := Nat.mul_le_mul_right _ (by omega)
            rw [Nat.add_mul] at this
            omega
          rw [madeCells_get _ _ _ hlt, hzs]
          have e1 : (0 + i * ei.size + j) % ei.size = j := by rw [Nat.zero_add, Nat.mul_comm, Nat.mul_add_mod, Nat.mod_eq_of_lt hj]
          rw [e1, ← g6, Array.getElem?_toList, getElem!_pos z.cells j (by rw [hzs]; exact hj), Array.getElem?_eq_getElem])
        refine ⟨_, _, _, I, .inl (by simp [execOp, hu, hv, hrun]; rfl), hS, hM.wkAt, ?_⟩
        simp only [VR]
        refine .inr ⟨w.heap.size, ei.size, _, _, 0, by simp [ins]; rfl, rfl, by omega, ?_, by simp⟩
        rw [hcs, Nat.zero_add]; exact Nat.le_refl _
    · cases ha

theorem absExt2_sound (hT : TabOk P T) (h : Mem P w0 O0 β I obj w) (hn : β (nid i) = none) {o : Oper} {n : Int} {ρ : Operand → AV} {get : Nat → Option AObj} {out : Out} (_hg : ∀ k o, get k = some o → obj k = some o)
    {r : Operand → Value} (hρ : ∀ x, VR P β w I (ρ x) (r x)) (ha : absExt2 T i o n ρ get = some out) (hob : out.ob) : Did P w0 O0 β I obj w i out ((execOp r o).run P w) := by
  obtain ⟨dst, op, ty, pos, after, guard⟩ := o
  unfold absExt2 at ha
  split at ha
  · rename_i x heq
    simp only at heq; subst heq
    have hx := hρ x
    unfold aNilCheck at ha
    split at ha
    · rename_i k q f hk
      simp only [pv, Option.some.injEq] at ha
      subst ha
      rw [hk] at hx
      have hx2 := hx
      simp only [VR] at hx2
      obtain ⟨b, sz, m, _, e1⟩ := hx2
      exact ⟨r x, w, β, I, .inl (by simp [execOp, e1]), Step.refl .., h, hx⟩
    · rename_i q f hk
      simp only [pv, Option.some.injEq] at ha
      subst ha
      rw [hk] at hx
      have hx2 := hx
      simp only [VR] at hx2
      obtain ⟨b, o', e1, _⟩ := hx2
      exact ⟨r x, w, β, I, .inl (by simp [execOp, e1]), Step.refl .., h, hx⟩
    · cases ha
  · rename_i t l c heq
    simp only at heq; subst heq
    exact aMake_sound hT h hn ha hob (hρ l) (hρ c) rfl rfl
  · cases ha

theorem absExtA_sound (hT : TabOk P T) (h : Mem P w0 O0 β I obj w) (hn : β (nid i) = none) {o : Oper} {n : Int} {ρ : Operand → AV} {get : Nat → Option AObj} {out : Out} (hg : ∀ k o, get k = some o → obj k = some o)
    {r : Operand → Value} (hρ : ∀ x, VR P β w I (ρ x) (r x)) (ha : absExtA T i o n ρ get = some out) (hob : out.ob) : Did P w0 O0 β I obj w i out ((execOp r o).run P w) := by
  unfold absExtA at ha
  cases hx : isX2 o.op with
  | true => rw [hx] at ha; exact absExt2_sound (n := n) hT h hn hg hρ ha hob
  | false => rw [hx] at ha; exact absExt_sound hT h hn hg hρ ha hob
end
end Go.Gb

namespace Go.Gb
open Go.RowKit

/-- The slots, the objects; 'ok t = some b': what the slot t holds stands only if b. -/
structure St where
  env : Nat → AV
  obj : Nat → Option AObj
  ok : Nat → Option Bool

structure Ann where
  orc : Orc
  rd : List Nat
  wr : List Nat
  sym : Bool

def absAny (P : Program) (T : Tab) (i : Nat) (o : Oper) (orc : Orc) (ρ : Operand → AV) (get : Nat → Option AObj) : Option Out :=
  match orc with
  | .ext n => absExtA T i o n ρ get
  | .frz ids fr orc' => absFrz P T i o ids fr orc' ρ get
  | orc => match o.op with
    | .call { callee := .value f, args := args, argTypes := _ } => absCallX P i (ρ f) (args.toList.map ρ) orc get
    | _ => absOp T i o orc ρ get

def setE {α : Type} (env : Nat → α) (dst : Option Tmp) (v : α) : Nat → α := fun t => if dst = some t then v else env t

def St.app (σ : St) (dst : Option Tmp) (p : Out × Option Bool) : St := ⟨setE σ.env dst p.1.v, updo σ.obj p.1.upd, setE σ.ok dst p.2⟩

/-- Whether an operation is to be carried out: what its guard comes to. -/
def want (ops : Array Oper) (o : Oper) (env : Nat → AV) (ok : Nat → Option Bool) : Option Bool :=
  match o.guard with
  | none => some true
  | some (j, b) => match (ops[j]?).bind (·.dst) with
    | some t => match env t, ok t with
      | .t (.sc (.bool v)), none => some (v == b)
      | .t (.sc (.bool v)), some g => some (g && (v == b))
      | .undef, some false => some false
      | _, _ => none
    | none => none

/-- What an operand asks: that it stands. -/
def need1 (ok : Nat → Option Bool) : Operand → List Prop
  | .tmp t => match ok t with
    | none => []
    | some b => [b = true]
  | _ => []

def needs (env : Nat → AV) (ok : Nat → Option Bool) (o : Op) : List Prop :=
  match o with
  | .pick c a b => match opv env c with
    | .t (.sc (.bool e)) => need1 ok c ++ ((need1 ok a).map (fun p => e = true → p) ++ (need1 ok b).map (fun p => e = false → p))
    | _ => [False]
  | o => o.operands.toList.flatMap (need1 ok)

def restr (rd : List Nat) (obj : Nat → Option AObj) : Nat → Option AObj := fun k => if k ∈ rd then obj k else none

section
variable (P : Program) (T : Tab) (ops : Array Oper) (ann : Nat → Ann)

def opAt (i : Nat) (σ : St) : Option (Out × Option Bool) :=
  (ops[i]?).bind fun o => (want ops o σ.env σ.ok).bind fun g => match (ann i).sym with
    | true => (absAny P T i o (ann i).orc (opv σ.env) (restr (ann i).rd σ.obj)).bind fun out =>
        if out.upd.isEmpty then some (⟨out.v, [], (needs σ.env σ.ok o.op ++ out.obs).map fun p => g = true → p⟩, some g) else none
    | false => match g with
      | true => (absAny P T i o (ann i).orc (opv σ.env) (restr (ann i).rd σ.obj)).bind fun out =>
          if out.upd.all (fun p => p.1 == nid i || (ann i).wr.contains p.1) then some (⟨out.v, out.upd, needs σ.env σ.ok o.op ++ out.obs⟩, none) else none
      | false => some (⟨.undef, [], []⟩, some false)

def eOp (i : Nat) (K : St → Prop) (σ : St) : Prop := ∃ o out, ops[i]? = some o ∧ opAt P T ops ann i σ = some out ∧ out.1.ob ∧ K (σ.app o.dst out)

def eLex (Q : St → Prop) : List Nat → St → Prop
  | [], σ => Q σ
  | i :: r, σ => eOp P T ops ann i (eLex Q r) σ

def eAny (md : Region.Mode) (Q : St → Prop) : Nat → Array Bool → St → Prop
  | 0, listed, σ => Region.ready md ops listed = [] ∧ Q σ
  | fuel + 1, listed, σ => (Region.ready md ops listed = [] → Q σ) ∧ ∀ i ∈ Region.ready md ops listed, eOp P T ops ann i (eAny md Q fuel (listed.setIfInBounds i true)) σ
end

def disj (a b : List Nat) : Bool := a.all fun x => !b.contains x

/-- Two operations touch nothing in common that either of them changes. -/
def fpApart (ann : Nat → Ann) (i j : Nat) : Bool :=
  disj (nid i :: (ann i).wr) (ann j).rd && disj (nid i :: (ann i).wr) (nid j :: (ann j).wr) && disj (nid j :: (ann j).wr) (ann i).rd

/-- The operations that wait, at last, for operation i. -/
def depsOn (md : Region.Mode) (ops : Array Oper) (i : Nat) : List Nat :=
  (List.range ops.size).foldl (fun D j => match ops[j]? with
    | some oj => bif oj.after.any (fun e => Region.binds md e && (e.on == i || D.contains e.on)) then j :: D else D
    | none => D) []

def depOk (md : Region.Mode) (ops : Array Oper) (listed : Array Bool) (i j : Nat) : Bool :=
  (depsOn md ops i).contains j && (depsOn md ops i).all fun d => !listed.getD d true

def fpFree (md : Region.Mode) (ops : Array Oper) (ann : Nat → Ann) (listed : Array Bool) (i : Nat) : Bool :=
  match ops[i]? with
  | some oi => (List.range ops.size).all fun j => j == i || listed.getD j true || match ops[j]? with
    | some oj => oj.after.any (fun e => Region.binds md e && e.on == i) || (oi.apart ops oj && fpApart ann i j) || depOk md ops listed i j
    | none => true
  | none => false

def lexFrom' (md : Region.Mode) (ops : Array Oper) (ann : Nat → Ann) : Nat → Nat → Array Bool → Bool
  | 0, _, listed => (Region.ready md ops listed).isEmpty
  | fuel + 1, k, listed => (Region.ready md ops listed).contains k && fpFree md ops ann listed k && lexFrom' md ops ann fuel (k + 1) (listed.setIfInBounds k true)

def lexOK (ops : Array Oper) (ann : Nat → Ann) : Bool := lexFrom' .any ops ann ops.size 0 (Array.replicate ops.size false)

section
variable {P : Program} {T : Tab} {ops : Array Oper} {ann : Nat → Ann} {md : Region.Mode} {Q : St → Prop}

theorem eOp_mono {i : Nat} {K K' : St → Prop} {σ : St} (h : ∀ σ, K σ → K' σ) (hh : eOp P T ops ann i K σ) : eOp P T ops ann i K' σ :=
  let ⟨o, out, h1, h2, h3, h4⟩ := hh
  ⟨o, out, h1, h2, h3, h _ h4⟩

theorem absAny_congr {i : Nat} {o : Oper} {orc : Orc} {ρ ρ' : Operand → AV} {get : Nat → Option AObj} (h : ∀ x ∈ o.op.operands, ρ x = ρ' x) : absAny P T i o orc ρ get = absAny P T i o orc ρ' get := by
  have hop := absOp_congr (T := T) (i := i) (orc := orc) (get := get) h
  unfold absAny
  split
  · exact absExtA_congr h
  · exact absFrz_congr h
  · obtain ⟨dst, op, ty, pos, after, guard⟩ := o
    simp only at h ⊢
    split
    · rename_i f args tys
      simp only [Op.operands, Call.operands] at h
      have h1 : args.toList.map ρ = args.toList.map ρ' := List.map_congr_left fun x hx => h x (by simp; exact .inr (by simpa using hx))
      rw [h1, h f (by simp)]
    · exact hop

theorem opAt_keys {i : Nat} {σ : St} {out : Out × Option Bool} (h : opAt P T ops ann i σ = some out) : ∀ p ∈ out.1.upd, p.1 = nid i ∨ p.1 ∈ (ann i).wr := by
  unfold opAt at h
  cases ho : ops[i]? with
  | none => simp [ho] at h
  | some o =>
    simp only [ho, Option.bind_some] at h
    cases hw : want ops o σ.env σ.ok with
    | none => simp [hw] at h
    | some g =>
      simp only [hw, Option.bind_some] at h
      split at h
      · cases ha : absAny P T i o (ann i).orc (opv σ.env) (restr (ann i).rd σ.obj) with
        | none => simp [ha] at h
        | some out' =>
          simp only [ha, Option.bind_some] at h
          split at h
          · injection h with h; subst h; simp
          · cases h
      · split at h
        · cases ha : absAny P T i o (ann i).orc (opv σ.env) (restr (ann i).rd σ.obj) with
          | none => simp [ha] at h
          | some out' =>
            simp only [ha, Option.bind_some] at h
            split at h
            · rename_i hall
              injection h with h; subst h
              intro p hp
              have := List.all_eq_true.1 hall p hp
              simpa using this
            · cases h
        · injection h with h; subst h; simp

theorem updo_other {obj : Nat → Option AObj} : ∀ (upd : List (Nat × Option AObj)) (k : Nat), (∀ p ∈ upd, p.1 ≠ k) → updo obj upd k = obj k
  | [], _, _ => rfl
  | (j, o) :: r, k, h => by
    simp only [updo]
    rw [if_neg (fun e => h (j, o) (by simp) e.symm), updo_other r k (fun p hp => h p (by simp [hp]))]

theorem updo_same_or {obj obj' : Nat → Option AObj} : ∀ (upd : List (Nat × Option AObj)) (k : Nat), obj k = obj' k → updo obj upd k = updo obj' upd k
  | [], _, h => h
  | (j, o) :: r, k, h => by simp only [updo, updo_same_or r k h]

theorem disj_spec {a b : List Nat} (h : disj a b = true) {x : Nat} (ha : x ∈ a) (hb : x ∈ b) : False := by
  have := List.all_eq_true.1 h x ha
  simp [hb] at this

theorem needs_congr {env env' : Nat → AV} {ok ok' : Nat → Option Bool} {o : Op} (h : ∀ t, .tmp t ∈ o.operands → env t = env' t ∧ ok t = ok' t) : needs env ok o = needs env' ok' o := by
  have h1 : ∀ x ∈ o.operands, need1 ok x = need1 ok' x := fun x hx => by
    cases x with
    | tmp t => simp only [need1, (h t hx).2]
    | _ => rfl
  unfold needs
  split
  · rename_i c a b
    have hc : opv env c = opv env' c := by
      cases c with
      | tmp t => exact (h t (by simp [Op.operands])).1
      | _ => rfl
    rw [hc, h1 c (by simp [Op.operands]), h1 a (by simp [Op.operands]), h1 b (by simp [Op.operands])]
  · have : ∀ l : List Operand, (∀ x ∈ l, need1 ok x = need1 ok' x) → l.flatMap (need1 ok) = l.flatMap (need1 ok') := by
      intro l
      induction l with
      | nil => intro _; rfl
      | cons x xs ih => intro hx; simp only [List.flatMap_cons, hx x (by simp), ih (fun y hy => hx y (by simp [hy]))]
    exact this _ fun x hx => h1 x (by simpa using hx)

/-- One operation, apart from another, finds the same whether the other has been carried out or not. -/
theorem opAt_app {j : Nat} {oi oj : Oper} {out : Out × Option Bool} {σ : St} (hj : ops[j]? = some oj) (hd : ∀ d, oi.dst = some d → d ∉ oj.looksAt ops) (hk : ∀ p ∈ out.1.upd, p.1 ∉ (ann j).rd) :
    opAt P T ops ann j (σ.app oi.dst out) = opAt P T ops ann j σ := by
  unfold opAt
  simp only [hj, Option.bind_some]
  have henv : ∀ t, t ∈ oj.looksAt ops → (σ.app oi.dst out).env t = σ.env t := fun t ht => by
    simp only [St.app, setE]
    rw [if_neg (fun e => hd t e ht)]
  have hokk : ∀ t, t ∈ oj.looksAt ops → (σ.app oi.dst out).ok t = σ.ok t := fun t ht => by
    simp only [St.app, setE]
    rw [if_neg (fun e => hd t e ht)]
  have hw : want ops oj (σ.app oi.dst out).env (σ.app oi.dst out).ok = want ops oj σ.env σ.ok := by
    unfold want
    cases hg : oj.guard with
    | none => rfl
    | some gw =>
      obtain ⟨g, b⟩ := gw
      cases ht : (ops[g]?).bind (·.dst) with
      | none => simp only [ht]
      | some t => simp only [ht, henv t (by simp [Oper.looksAt, hg, ht]), hokk t (by simp [Oper.looksAt, hg, ht])]
  have hget : restr (ann j).rd (σ.app oi.dst out).obj = restr (ann j).rd σ.obj := by
    funext k
    simp only [restr]
    split
    · rename_i hkr
      exact updo_other _ _ (fun p hp e => hk p hp (e ▸ hkr))
    · rfl
  have hin : ∀ t, .tmp t ∈ oj.op.operands → t ∈ oj.looksAt ops := fun t ht => by
    simp only [Oper.looksAt]; exact List.mem_append_left _ (List.mem_filterMap.2 ⟨.tmp t, by simpa using ht, rfl⟩)
  have hρ : absAny P T j oj (ann j).orc (opv (σ.app oi.dst out).env) (restr (ann j).rd σ.obj) = absAny P T j oj (ann j).orc (opv σ.env) (restr (ann j).rd σ.obj) := by
    refine absAny_congr fun x hx => ?_
    cases x with
    | tmp t => exact henv t (hin t hx)
    | _ => rfl
  have hnd : needs (σ.app oi.dst out).env (σ.app oi.dst out).ok oj.op = needs σ.env σ.ok oj.op := needs_congr fun t ht => ⟨henv t (hin t ht), hokk t (hin t ht)⟩
  rw [hw, hget, hρ, hnd]

theorem app_comm {σ : St} {di dj : Option Tmp} {a b : Out × Option Bool} (hd : ∀ d, di = some d → dj ≠ some d) (hk : ∀ p ∈ a.1.upd, ∀ q ∈ b.1.upd, p.1 ≠ q.1) : (σ.app di a).app dj b = (σ.app dj b).app di a := by
  have slot : ∀ {α : Type} (e : Nat → α) (x y : α), setE (setE e di x) dj y = setE (setE e dj y) di x := fun e x y => by
    funext t
    simp only [setE]
    by_cases h1 : dj = some t
    · rw [if_pos h1, if_neg (fun e => hd t e h1), if_pos h1]
    · rw [if_neg h1, if_neg h1]
  simp only [St.app, St.mk.injEq]
  refine ⟨slot _ _ _, ?_, slot _ _ _⟩
  funext k
  by_cases h1 : ∃ p ∈ a.1.upd, p.1 = k
  · obtain ⟨p, hp, e⟩ := h1
    rw [updo_other b.1.upd k (fun q hq e2 => hk p hp q hq (e.trans e2.symm))]
    exact updo_same_or _ _ (updo_other b.1.upd k (fun q hq e2 => hk p hp q hq (e.trans e2.symm))).symm
  · have h2 : ∀ p ∈ a.1.upd, p.1 ≠ k := fun p hp e => h1 ⟨p, hp, e⟩
    rw [updo_other a.1.upd k h2]
    exact updo_same_or _ _ (updo_other a.1.upd k h2)

theorem eOp_put {i j : Nat} {oi oj : Oper} {out : Out × Option Bool} {σ : St} {K : St → Prop} (hi : ops[i]? = some oi) (hj : ops[j]? = some oj) (hap : oi.apart ops oj = true) (hfp : fpApart ann i j = true)
    (hy : opAt P T ops ann i σ = some out) (h : eOp P T ops ann j K (σ.app oi.dst out)) :
    eOp P T ops ann j (fun σ' => opAt P T ops ann i σ' = some out ∧ K (σ'.app oi.dst out)) σ := by
  obtain ⟨a1, a2, a3⟩ := Oper.apart_spec hap
  simp only [fpApart, Bool.and_eq_true] at hfp
  obtain ⟨⟨f1, f2⟩, f3⟩ := hfp
  have ki := opAt_keys hy
  have kmem : ∀ p ∈ out.1.upd, p.1 ∈ nid i :: (ann i).wr := fun p hp => by rcases ki p hp with e | e <;> simp [e]
  obtain ⟨o, outj, g1, g2, g3, g4⟩ := h
  rw [hj] at g1; injection g1 with g1; subst g1
  rw [opAt_app hj a1 (fun p hp hr => disj_spec f1 (kmem p hp) hr)] at g2
  have kj := opAt_keys g2
  have kmemj : ∀ p ∈ outj.1.upd, p.1 ∈ nid j :: (ann j).wr := fun p hp => by rcases kj p hp with e | e <;> simp [e]
  refine ⟨oj, outj, hj, g2, g3, ?_, ?_⟩
  · rw [opAt_app hi a3 (fun p hp hr => disj_spec f3 (kmemj p hp) hr)]; exact hy
  · rw [← app_comm a2 (fun p hp q hq e => disj_spec f2 (kmem p hp) (e ▸ kmemj q hq))]; exact g4

theorem depsOn_spec {i : Nat} : ∀ d ∈ depsOn md ops i, ∃ od, ops[d]? = some od ∧ ∃ e ∈ od.after, Region.binds md e = true ∧ (e.on = i ∨ e.on ∈ depsOn md ops i) := by
  have main : ∀ (l : List Nat) (D0 : List Nat), (∀ d ∈ D0, ∃ od, ops[d]? = some od ∧ ∃ e ∈ od.after, Region.binds md e = true ∧ (e.on = i ∨ e.on ∈ D0)) →
      ∀ d ∈ l.foldl (fun D j => match ops[j]? with
        | some oj => bif oj.after.any (fun e => Region.binds md e && (e.on == i || D.contains e.on)) then j :: D else D
        | none => D) D0, ∃ od, ops[d]? = some od ∧ ∃ e ∈ od.after, Region.binds md e = true ∧ (e.on = i ∨ e.on ∈ l.foldl (fun D j => match ops[j]? with
        | some oj => bif oj.after.any (fun e => Region.binds md e && (e.on == i || D.contains e.on)) then j :: D else D
        | none => D) D0) := by
    intro l
    induction l with
    | nil => intro D0 h; exact h
    | cons j l ih =>
      intro D0 h
      simp only [List.foldl_cons]
      refine ih _ ?_
      cases hj : ops[j]? with
      | none => exact h
      | some oj =>
        simp only
        cases hb : oj.after.any (fun e => Region.binds md e && (e.on == i || D0.contains e.on)) with
        | false => simp only [cond_false]; exact h
        | true =>
          simp only [cond_true]
          intro d hd
          rcases List.mem_cons.1 hd with rfl | hd
          · obtain ⟨e, he, hb'⟩ := Array.any_eq_true'.1 hb
            simp only [Bool.and_eq_true, Bool.or_eq_true, beq_iff_eq, List.contains_iff_mem] at hb'
            exact ⟨oj, hj, e, he, hb'.1, hb'.2.imp id fun h => List.mem_cons_of_mem _ h⟩
          · obtain ⟨od, g1, e, g2, g3, g4⟩ := h d hd
            exact ⟨od, g1, e, g2, g3, g4.imp id fun h => List.mem_cons_of_mem _ h⟩
  exact main _ [] (fun d hd => by simp at hd)

theorem fpFree_spec {i : Nat} {oi : Oper} {listed : Array Bool} (hi : ops[i]? = some oi) (h : fpFree md ops ann listed i = true) (j : Nat) (oj : Oper) (hj : ops[j]? = some oj) (hne : j ≠ i) (hun : listed.getD j true = false)
    (hno : ∀ e ∈ oj.after, Region.binds md e = true → e.on ≠ i) : (oi.apart ops oj = true ∧ fpApart ann i j = true) ∨ depOk md ops listed i j = true := by
  simp only [fpFree, hi, List.all_eq_true, List.mem_range] at h
  have h1 := h j (Array.getElem?_eq_some_iff.1 hj).1
  simp only [hj, Bool.or_eq_true, beq_iff_eq, hne, false_or, hun, Bool.false_eq_true, Bool.and_eq_true] at h1
  rcases h1 with (h1 | h1) | h1
  · obtain ⟨e, he, hb⟩ := Array.any_eq_true'.1 h1
    simp only [Bool.and_eq_true, beq_iff_eq] at hb
    exact absurd hb.2 (hno e he hb.1)
  · exact .inl h1
  · exact .inr h1

theorem eAny_first {i : Nat} {oi : Oper} {out : Out × Option Bool} (D : List Nat) (hi : ops[i]? = some oi) (hD : ∀ d ∈ D, ∃ od, ops[d]? = some od ∧ ∃ e ∈ od.after, Region.binds md e = true ∧ (e.on = i ∨ e.on ∈ D)) :
    ∀ (fuel : Nat) (listed : Array Bool) (σ : St), (∀ d ∈ D, listed.getD d true = false) →
      (∀ j oj, ops[j]? = some oj → j ≠ i → listed.getD j true = false → j ∉ D → (∀ e ∈ oj.after, Region.binds md e = true → e.on ≠ i) → oi.apart ops oj = true ∧ fpApart ann i j = true) →
      i ∈ Region.ready md ops listed → opAt P T ops ann i σ = some out → out.1.ob →
      eAny P T ops ann md Q fuel (listed.setIfInBounds i true) (σ.app oi.dst out) → eAny P T ops ann md Q (fuel + 1) listed σ := by
  intro fuel
  induction fuel with
  | zero =>
    intro listed σ _ _ hr hy hob H
    refine ⟨fun h => (by rw [h] at hr; cases hr), fun j hj => ?_⟩
    by_cases hji : j = i
    · subst hji; exact ⟨oi, out, hi, hy, hob, H⟩
    · have := ready_mono hj hji
      rw [H.1] at this
      cases this
  | succ fuel ih =>
    intro listed σ hDu hfree hr hy hob H
    refine ⟨fun h => (by rw [h] at hr; cases hr), fun j hj => ?_⟩
    by_cases hji : j = i
    · subst hji; exact ⟨oi, out, hi, hy, hob, H⟩
    · have h1 := H.2 j (ready_mono hj hji)
      obtain ⟨hjun, oj, hoj, hall⟩ := mem_ready.1 hj
      have hnl : ∀ k, listed.getD k true = false → ∀ e ∈ oj.after, Region.binds md e = true → e.on ≠ k := fun k h0 e he hb heq => by
        have h1 := hall e he hb
        rw [heq] at h1
        rcases Nat.lt_or_ge k listed.size with h' | h'
        · simp [h'] at h0 h1; rw [h0] at h1; cases h1
        · simp [Array.getElem?_eq_none h'] at h1
      have hnot : ∀ e ∈ oj.after, Region.binds md e = true → e.on ≠ i := hnl i (mem_ready.1 hr).1
      have hjD : j ∉ D := fun hm => by
        obtain ⟨od, g1, e, g2, g3, g4⟩ := hD j hm
        rw [hoj] at g1; injection g1 with g1; subst g1
        rcases g4 with g4 | g4
        · exact hnot e g2 g3 g4
        · exact hnl _ (hDu _ g4) e g2 g3 rfl
      obtain ⟨hap, hfp⟩ := hfree j oj hoj hji hjun hjD hnot
      have h2 := eOp_put hi hoj hap hfp hy h1
      have hfree' : ∀ k ok, ops[k]? = some ok → k ≠ i → (listed.setIfInBounds j true).getD k true = false → k ∉ D →
          (∀ e ∈ ok.after, Region.binds md e = true → e.on ≠ i) → oi.apart ops ok = true ∧ fpApart ann i k = true := fun k ok hk hki hun hkD hno => by
        refine hfree k ok hk hki ?_ hkD hno
        by_cases hjk : j = k
        · subst hjk; exact hjun
        · rw [getD_set_ne true hjk] at hun; exact hun
      have hDu' : ∀ d ∈ D, (listed.setIfInBounds j true).getD d true = false := fun d hd => by
        have hne : j ≠ d := fun e => hjD (by rw [e]; exact hd)
        rw [getD_set_ne true hne]; exact hDu d hd
      refine eOp_mono (fun σ' h3 => ih (listed.setIfInBounds j true) σ' hDu' hfree' (ready_mono hr (Ne.symm hji)) h3.1 hob ?_) h2
      rw [Array.setIfInBounds_comm _ _ hji]
      exact h3.2

theorem eAny_lex : ∀ (n k : Nat) (listed : Array Bool) (σ : St), lexFrom' md ops ann n k listed = true → eLex P T ops ann Q ((List.range n).map (k + ·)) σ → eAny P T ops ann md Q n listed σ
  | 0, k, listed, σ, hB, h => ⟨by simpa [lexFrom'] using hB, by simpa [eLex] using h⟩
  | n + 1, k, listed, σ, hB, h => by
    simp only [lexFrom', Bool.and_eq_true] at hB
    obtain ⟨⟨hr, hfp⟩, hB'⟩ := hB
    rw [List.range_succ_eq_map, List.map_cons, List.map_map] at h
    simp only [eLex, Nat.add_zero] at h
    obtain ⟨o, out, h1, h2, h3, h4⟩ := h
    have fin : eAny P T ops ann md Q n (listed.setIfInBounds k true) (σ.app o.dst out) → eAny P T ops ann md Q (n + 1) listed σ := by
      intro H
      cases hd : (depsOn md ops k).all fun d => !listed.getD d true with
      | true =>
        refine eAny_first (depsOn md ops k) h1 depsOn_spec n listed σ (fun d hd' => by simpa using List.all_eq_true.1 hd d hd') (fun j oj hj hne hun hjD hno => ?_) (by simpa using hr) h2 h3 H
        rcases fpFree_spec h1 hfp j oj hj hne hun hno with h | h
        · exact h
        · simp only [depOk, Bool.and_eq_true, List.contains_iff_mem] at h
          exact absurd h.1 hjD
      | false =>
        refine eAny_first [] h1 (fun d hd' => by simp at hd') n listed σ (fun d hd' => by simp at hd') (fun j oj hj hne hun _ hno => ?_) (by simpa using hr) h2 h3 H
        rcases fpFree_spec h1 hfp j oj hj hne hun hno with h | h
        · exact h
        · simp only [depOk, Bool.and_eq_true] at h
          rw [h.2] at hd; cases hd
    refine fin ?_
    refine eAny_lex n (k + 1) _ _ hB' ?_
    have e : (fun x => k + x) ∘ Nat.succ = fun x => k + 1 + x := by funext x; simp only [Function.comp]; omega
    rw [e] at h4
    exact h4
end
end Go.Gb

namespace Go.Gb
open Go.RowKit

/-- What a slot holds, if it stands; what has not been carried out leaves nothing. -/
def SlotR (P : Program) (β : Nat → Option Blk) (w : World) (I : Nat → Prop) (x : AV) (ok : Option Bool) (v : Value) : Prop :=
  match ok with
  | none => VR P β w I x v
  | some b => (b = true → VR P β w I x v) ∧ (b = false → v = undef)

theorem SlotR.mono {P : Program} {β β' : Nat → Option Blk} {w w' : World} {I I' : Nat → Prop} (hb : ∀ k B, β k = some B → β' k = some B) (hs : Same I w w') (hi : ∀ b, I b → I' b) {x : AV} {ok : Option Bool} {v : Value} (h : SlotR P β w I x ok v) : SlotR P β' w' I' x ok v := by
  cases ok with
  | none => exact VR.mono hb hs hi _ _ h
  | some b => exact ⟨fun hh => VR.mono hb hs hi _ _ (h.1 hh), h.2⟩

/-- The abstract state stands for the frame and the world. -/
structure Rel (P : Program) (w0 : World) (O0 : Was) (N : Nat) (β : Nat → Option Blk) (I : Nat → Prop) (σ : St) (a : Act) (w : World) : Prop where
  defers : a.defers = []
  size : a.tmps.size = N
  env : ∀ t, SlotR P β w I (σ.env t) (σ.ok t) (a.tmps.getD t undef)
  mem : Mem P w0 O0 β I σ.obj w

section
variable {P : Program} {T : Tab} {w0 : World} {O0 : Was} {N : Nat} {β : Nat → Option Blk} {I : Nat → Prop} {σ : St} {a : Act} {w : World} {ops : Array Oper} {ann : Nat → Ann}

/-- No new name of the region has been used but for those of operations that have been carried out. -/
def Fr (un : Nat → Prop) (β : Nat → Option Blk) : Prop := ∀ i, un i → β (nid i) = none

theorem opv_one {x : Operand} (h : ∀ t, x = .tmp t → VR P β w I (σ.env t) (a.tmps.getD t undef)) : VR P β w I (opv σ.env x) (a.eval x) := by
  cases x with
  | tmp t => exact h t rfl
  | const v => exact VR.cv
  | global g => simp [opv, VR]
  | func f => simp only [opv, VR, Act.eval]; exact ⟨#[], #[], rfl, by simp [VRl], by simp [VRl]⟩

theorem need1_sound (hr : Rel P w0 O0 N β I σ a w) {x : Operand} (h : ∀ p ∈ need1 σ.ok x, p) : VR P β w I (opv σ.env x) (a.eval x) := by
  refine opv_one fun t hx => ?_
  subst hx
  have h1 := hr.env t
  simp only [need1] at h
  cases hk : σ.ok t with
  | none => rw [hk] at h1; exact h1
  | some b => rw [hk] at h1 h; exact h1.1 (h _ (by simp))

theorem exec_sound (hT : TabOk P T) {i : Nat} {o : Oper} {orc : Orc} {rd : List Nat} {out : Out} (hr : Rel P w0 O0 N β I σ a w) (hn : β (nid i) = none) (ha : absAny P T i o orc (opv σ.env) (restr rd σ.obj) = some out)
    (hob : out.ob) (hnd : ∀ p ∈ needs σ.env σ.ok o.op, p) : Did P w0 O0 β I σ.obj w i out ((execOp a.eval o).run P w) ∨ CallDid P w0 O0 β I σ.obj w i out ((execOp a.eval o).run P w) := by
  have hg : ∀ k ob, restr rd σ.obj k = some ob → σ.obj k = some ob := fun k ob hk => by
    simp only [restr] at hk
    split at hk
    · exact hk
    · cases hk
  by_cases hp : ∃ c x y, o.op = .pick c x y
  · obtain ⟨c, x, y, he⟩ := hp
    obtain ⟨dst, op, ty, pos, after, guard⟩ := o
    simp only at he; subst he
    have ha : absOp T i ⟨dst, .pick c x y, ty, pos, after, guard⟩ orc (opv σ.env) (restr rd σ.obj) = some out := by
      unfold absAny at ha
      split at ha
      · cases ha
      · cases ha
      · exact ha
    simp only [absOp] at ha
    simp only [needs] at hnd
    split at ha
    · rename_i t hc
      rw [hc] at hnd
      simp only [pv, Option.some.injEq] at ha; subst ha
      have h1 := need1_sound hr (x := c) (fun p hp => hnd p (by simp [hp]))
      rw [hc] at h1
      simp only [VR, TR] at h1
      refine .inl ⟨if t then a.eval x else a.eval y, w, β, I, .inl ?_, Step.refl .., hr.mem, ?_⟩
      · simp only [execOp, h1.1, asBool]; simp
      · rw [pickV_eq]
        cases t
        · exact need1_sound hr fun p hp => hnd (false = false → p) (by simp only [List.mem_append, List.mem_map]; exact .inr (.inr ⟨p, hp, rfl⟩)) rfl
        · exact need1_sound hr fun p hp => hnd (true = true → p) (by simp only [List.mem_append, List.mem_map]; exact .inr (.inl ⟨p, hp, rfl⟩)) rfl
    · cases ha
  · have hnd' : ∀ x ∈ o.op.operands, ∀ p ∈ need1 σ.ok x, p := fun x hx p hp' => hnd p (by
      unfold needs
      split
      · rename_i c x y he; exact absurd ⟨c, x, y, he⟩ hp
      · exact List.mem_flatMap.2 ⟨x, by simpa using hx, hp'⟩)
    have hρ : ∀ x, VR P β w I ((fun x => open Classical in if x ∈ o.op.operands then opv σ.env x else .undef) x) (a.eval x) := fun x => by
      by_cases hx : x ∈ o.op.operands
      · simp only [hx, if_true]; exact need1_sound hr (hnd' x hx)
      · simp only [hx, if_false, VR]
    rw [absAny_congr (ρ' := fun x => open Classical in if x ∈ o.op.operands then opv σ.env x else .undef) (fun x hx => by simp only [hx, if_true])] at ha
    generalize (fun x => open Classical in if x ∈ o.op.operands then opv σ.env x else AV.undef) = ρ at ha hρ
    unfold absAny at ha
    split at ha
    · exact .inl (absExtA_sound hT hr.mem hn hg hρ ha hob)
    · exact .inl (absFrz_sound hT hr.mem hn hg hρ ha hob)
    · split at ha
      · rename_i f args tys heq
        obtain ⟨dst, op, ty, pos, after, guard⟩ := o
        simp only at heq; subst heq
        exact .inr (absCallX_sound hr.mem hn hg ha hob (hρ f) (by rw [Array.toList_map]; exact VRl.map hρ _) rfl rfl)
      · exact .inl (absOp_sound hT hr.mem hn hg hρ ha hob)

theorem wanted_of (hr : Rel P w0 O0 N β I σ a w) {o : Oper} {b : Bool} (hb : want ops o σ.env σ.ok = some b) : Region.wanted o (yielded ops a.tmps) = b := by
  unfold want at hb
  unfold Region.wanted
  cases hg : o.guard with
  | none => simp only [hg, Option.some.injEq] at hb ⊢; exact hb
  | some gw =>
    obtain ⟨g, bw⟩ := gw
    simp only [hg] at hb ⊢
    unfold yielded
    cases ht : (ops[g]?).bind (·.dst) with
    | none => simp [ht] at hb
    | some t =>
      simp only [ht] at hb
      have he := hr.env t
      have val : ∀ v : Bool, a.tmps.getD t undef = .bool v → a.tmps[t]? = some (.bool v) := fun v hv => by
        cases hh : a.tmps[t]? with
        | none => simp [hh, undef] at hv
        | some u => simp [hh] at hv; rw [hv]
      split at hb
      · rename_i v e1 e2
        rw [e1, e2] at he
        simp only [SlotR, VR, TR] at he
        injection hb with hb; subst hb
        simp only [Option.bind_some, val v he.1]
        cases v <;> cases bw <;> rfl
      · rename_i v q e1 e2
        rw [e1, e2] at he
        simp only [SlotR, VR, TR] at he
        injection hb with hb; subst hb
        cases q with
        | true =>
          simp only [Option.bind_some, val v (he.1 rfl).1]
          cases v <;> cases bw <;> rfl
        | false =>
          have h0 := he.2 rfl
          simp only [Option.bind_some]
          cases hh : a.tmps[t]? with
          | none => simp
          | some u => simp [hh, undef] at h0; subst h0; simp
      · rename_i e1 e2
        rw [e1, e2] at he
        injection hb with hb; subst hb
        have h0 := he.2 rfl
        simp only [Option.bind_some]
        cases hh : a.tmps[t]? with
        | none => simp
        | some u => simp [hh, undef] at h0; subst h0; simp
      · cases hb

theorem AllP_mem : ∀ (l : List Prop), AllP l → ∀ p ∈ l, p
  | [], _, _, hp => by simp at hp
  | [q], h, p, hp => by rw [List.mem_singleton] at hp; rw [hp]; exact h
  | q :: r :: l, h, p, hp => by
    rcases List.mem_cons.1 hp with e | hp
    · rw [e]; exact h.1
    · exact AllP_mem (r :: l) h.2 p hp

theorem wpOp_of_eOp (hT : TabOk P T) {i : Nat} {K : St → Prop} {Q : Exit → Act → World → Prop} {K' : Act → World → Prop} {un : Nat → Prop} (hd : ∀ (j : Nat) (o : Oper) (d : Tmp), ops[j]? = some o → o.dst = some d → d < N)
    (hr : Rel P w0 O0 N β I σ a w) (hf : Fr un β) (hi : un i)
    (hK : ∀ σ' a' w' β' I', Rel P w0 O0 N β' I' σ' a' w' → Fr (fun j => un j ∧ j ≠ i) β' → K σ' → K' a' w') (h : eOp P T ops ann i K σ) : wpOp P ops Q i K' a w := by
  obtain ⟨o, ⟨out, okb⟩, h1, h2, h3, h4⟩ := h
  have put : ∀ (v' : Value) (w' : World) (β' : Nat → Option Blk) (I' : Nat → Prop), Step β I w (nid i) β' I' w' → Mem P w0 O0 β' I' (updo σ.obj out.upd) w' → SlotR P β' w' I' out.v okb v' → K' (a.put o.dst v') w' := by
    intro v' w' β' I' k1 k2 k3
    refine hK (σ.app o.dst (out, okb)) _ w' β' I' ⟨?_, ?_, ?_, k2⟩ ?_ h4
    · cases hdst : o.dst <;> simp [Act.put, hr.defers]
    · cases hdst : o.dst <;> simp [Act.put, hr.size]
    · intro t
      have hold := SlotR.mono k1.ext k1.same k1.inc (hr.env t)
      simp only [St.app, setE]
      cases hdst : o.dst with
      | none => simpa [Act.put] using hold
      | some d =>
        simp only [Act.put, Option.some.injEq]
        by_cases hdt : d = t
        · subst hdt
          rw [if_pos rfl, if_pos rfl]
          have hlt : d < a.tmps.size := Nat.lt_of_lt_of_eq (hd i o d h1 hdst) hr.size.symm
          have e : (a.tmps.setIfInBounds d v').getD d undef = v' := by simp [hlt]
          rw [e]
          exact k3
        · rw [if_neg hdt, if_neg hdt]
          simpa [Array.getElem?_setIfInBounds_ne hdt] using hold
    · intro j hj
      rw [k1.other (nid j) (by simp only [nid]; have := hj.2; omega)]
      exact hf j hj.1
  unfold opAt at h2
  simp only [h1, Option.bind_some] at h2
  unfold wpOp
  simp only [h1]
  have hn := hf i hi
  cases hw : want ops o σ.env σ.ok with
  | none => simp [hw] at h2
  | some g =>
    simp only [hw, Option.bind_some] at h2
    rw [wanted_of hr hw]
    have run : ∀ (out' : Out), absAny P T i o (ann i).orc (opv σ.env) (restr (ann i).rd σ.obj) = some out' → (∀ p ∈ needs σ.env σ.ok o.op ++ out'.obs, p) → out'.v = out.v → (out'.upd = out.upd) → (∀ β' w' I' v', VR P β' w' I' out.v v' → SlotR P β' w' I' out.v okb v') →
        o.wp P a w K' Q := by
      intro out' ha hob e1 e2 hslot
      have hDid := exec_sound hT hr hn ha (AllP_of _ fun p hp => hob p (by simp [hp])) (fun p hp => hob p (by simp [hp]))
      unfold Oper.wp
      rcases hDid with ⟨v', w', β', I', hrun, k1, k2, k3⟩ | ⟨F, args, hrun, hcal⟩
      · rw [e1] at k3
        rw [e2] at k2
        rcases hrun with hrun | ⟨hrun, rfl⟩
        · rw [hrun]; exact put v' w' β' I' k1 k2 (hslot _ _ _ _ k3)
        · rw [hrun]; exact put _ w' β' I' k1 k2 (hslot _ _ _ _ k3)
      · rw [hrun]
        refine hcal.mono ?_
        rintro e w' ⟨v', β', I', rfl, k1, k2, k3⟩
        rw [e1] at k3
        rw [e2] at k2
        exact put v' w' β' I' k1 k2 (hslot _ _ _ _ k3)
    split at h2
    · cases ha : absAny P T i o (ann i).orc (opv σ.env) (restr (ann i).rd σ.obj) with
      | none => simp [ha] at h2
      | some out' =>
        simp only [ha, Option.bind_some] at h2
        split at h2
        · rename_i hem
          simp only [Option.some.injEq, Prod.mk.injEq] at h2
          obtain ⟨rfl, rfl⟩ := h2
          have hem' : out'.upd = [] := by simpa using hem
          have h3 := AllP_mem _ h3
          cases g with
          | true =>
            simp only [if_true]
            refine .inl (run out' ha (fun p hp => h3 (true = true → p) (List.mem_map.2 ⟨p, hp, rfl⟩) rfl) rfl hem' fun _ _ _ _ hv => ⟨fun _ => hv, fun h => by cases h⟩)
          | false =>
            simp only [Bool.false_eq_true, if_false]
            exact put _ w β I (Step.refl ..) hr.mem ⟨fun h => (by cases h), fun _ => rfl⟩
        · cases h2
    · split at h2
      · cases ha : absAny P T i o (ann i).orc (opv σ.env) (restr (ann i).rd σ.obj) with
        | none => simp [ha] at h2
        | some out' =>
          simp only [ha, Option.bind_some] at h2
          split at h2
          · simp only [Option.some.injEq, Prod.mk.injEq] at h2
            obtain ⟨rfl, rfl⟩ := h2
            simp only [if_true]
            exact .inl (run out' ha (AllP_mem _ h3) rfl rfl fun _ _ _ _ hv => hv)
          · cases h2
      · simp only [Option.some.injEq, Prod.mk.injEq] at h2
        obtain ⟨rfl, rfl⟩ := h2
        simp only [Bool.false_eq_true, if_false]
        exact put _ w β I (Step.refl ..) hr.mem ⟨fun h => (by cases h), fun _ => rfl⟩

theorem wpAny_of_eAny (hT : TabOk P T) {md : Region.Mode} {Q : St → Prop} {Q' : Exit → Act → World → Prop} (hd : ∀ (j : Nat) (o : Oper) (d : Tmp), ops[j]? = some o → o.dst = some d → d < N)
    (hQ : ∀ σ a w β I, Rel P w0 O0 N β I σ a w → Q σ → Q' .normal a w) : ∀ (fuel : Nat) (listed : Array Bool) (σ : St) (a : Act) (w : World) (β : Nat → Option Blk) (I : Nat → Prop), Rel P w0 O0 N β I σ a w →
      Fr (fun j => listed.getD j true = false) β → eAny P T ops ann md Q fuel listed σ → wpAny P md ops Q' fuel listed a w
  | 0, _, _, _, _, _, _, hr, _, h => ⟨h.1, hQ _ _ _ _ _ hr h.2⟩
  | fuel + 1, listed, σ, a, w, β, I, hr, hf, h => by
    refine ⟨fun h0 => hQ _ _ _ _ _ hr (h.1 h0), fun i hi => ?_⟩
    have hun : listed.getD i true = false := (mem_ready.1 hi).1
    refine wpOp_of_eOp hT hd hr hf hun (fun σ' a' w' β' I' hr' hf' hK => ?_) (h.2 i hi)
    refine wpAny_of_eAny hT hd hQ fuel _ σ' a' w' β' I' hr' (fun j hj => hf' j ?_) hK
    have hj : (listed.setIfInBounds i true).getD j true = false := hj
    by_cases hji : i = j
    · subst hji
      rcases Nat.lt_or_ge i listed.size with h1 | h1
      · simp [h1] at hj
      · simp [Array.getElem?_eq_none h1] at hun
    · rw [getD_set_ne true hji] at hj
      exact ⟨hj, fun e => hji e.symm⟩

theorem wpOps_of_eLex (hT : TabOk P T) {Q : St → Prop} {Q' : Exit → Act → World → Prop} (hd : ∀ (j : Nat) (o : Oper) (d : Tmp), ops[j]? = some o → o.dst = some d → d < N)
    (hQ : ∀ σ a w β I, Rel P w0 O0 N β I σ a w → Q σ → Q' .normal a w) : ∀ (l : List Nat) (σ : St) (a : Act) (w : World) (β : Nat → Option Blk) (I : Nat → Prop), l.Nodup → Rel P w0 O0 N β I σ a w →
      Fr (fun j => j ∈ l) β → eLex P T ops ann Q l σ → wpOps P ops Q' l a w
  | [], _, _, _, _, _, _, hr, _, h => hQ _ _ _ _ _ hr h
  | i :: l, σ, a, w, β, I, hn, hr, hf, h => by
    rw [wpOps_cons]
    refine wpOp_of_eOp hT hd hr hf (by simp) (fun σ' a' w' β' I' hr' hf' hK => ?_) h
    refine wpOps_of_eLex hT hd hQ l σ' a' w' β' I' (List.nodup_cons.1 hn).2 hr' (fun j hj => hf' j ⟨by simp [hj], fun e => ?_⟩) hK
    subst e
    exact (List.nodup_cons.1 hn).1 hj

def dstsOk (N : Nat) (ops : Array Oper) : Bool := ops.all fun o => match o.dst with | some d => decide (d < N) | none => true

theorem dstsOk_spec (h : dstsOk N ops = true) (j : Nat) (o : Oper) (d : Tmp) (hj : ops[j]? = some o) (hd : o.dst = some d) : d < N := by
  have := Array.all_eq_true_iff_forall_mem.1 h o (Array.mem_of_getElem? hj)
  simpa [hd] using this

/-- The state names no object of the region's own. -/
structure Old (σ : St) : Prop where
  env : ∀ t k, k ∈ refs (σ.env t) → k < 1000000
  obj : ∀ k o, σ.obj k = some o → k < 1000000 ∧ ∀ r ∈ o.rows, ∀ x ∈ r, ∀ j ∈ refs x, j < 1000000

mutual
theorem VR.restrict {β' : Nat → Option Blk} (h : ∀ k, k < 1000000 → β' k = β k) : ∀ (x : AV) (v : Value), (∀ k ∈ refs x, k < 1000000) → VR P β w I x v → VR P β' w I x v
  | .t _, _, _, hv => by simpa [VR] using hv
  | .agg cs, _, hk, hv => by
    simp only [VR] at hv ⊢
    obtain ⟨vs, h1, h2⟩ := hv
    exact ⟨vs, h1, VRl.restrict h cs _ (by simpa [refs] using hk) h2⟩
  | .tup cs, _, hk, hv => by
    simp only [VR] at hv ⊢
    obtain ⟨vs, h1, h2⟩ := hv
    exact ⟨vs, h1, VRl.restrict h cs _ (by simpa [refs] using hk) h2⟩
  | .own k _ _, _, hk, hv => by simp only [VR, h k (hk k (by simp [refs]))] at hv ⊢; exact hv
  | .ptr k _ _, _, hk, hv => by simp only [VR, h k (hk k (by simp [refs]))] at hv ⊢; exact hv
  | .rptr _ _, _, _, hv => by simpa [VR] using hv
  | .fn f first caps, _, hk, hv => by
    simp only [VR] at hv ⊢
    obtain ⟨fs, cs, h1, h2, h3⟩ := hv
    exact ⟨fs, cs, h1, VRl.restrict h first _ (fun k hk' => hk k (by simp [refs, hk'])) h2, VRl.restrict h caps _ (fun k hk' => hk k (by simp [refs, hk'])) h3⟩
  | .clo _, _, _, hv => by simpa [VR] using hv
  | .nilsl, _, _, hv => by simpa [VR] using hv
  | .ub, _, _, hv => by simpa [VR] using hv
  | .undef, _, _, _ => by simp [VR]
theorem VRl.restrict {β' : Nat → Option Blk} (h : ∀ k, k < 1000000 → β' k = β k) : ∀ (xs : List AV) (vs : List Value), (∀ k ∈ refsL xs, k < 1000000) → VRl P β w I xs vs → VRl P β' w I xs vs
  | [], [], _, _ => by simp [VRl]
  | x :: xs, v :: vs, hk, hv => by
    simp only [VRl] at hv ⊢
    exact ⟨VR.restrict h x v (fun k hk' => hk k (by simp [refsL, hk'])) hv.1, VRl.restrict h xs vs (fun k hk' => hk k (by simp [refsL, hk'])) hv.2⟩
  | [], _ :: _, _, hv => by simp [VRl] at hv
  | _ :: _, [], _, hv => by simp [VRl] at hv
end

theorem Rel.restrict (ho : Old σ) (hr : Rel P w0 O0 N β I σ a w) : Rel P w0 O0 N (fun k => if k < 1000000 then β k else none) I σ a w := by
  have hb : ∀ k, k < 1000000 → (fun k => if k < 1000000 then β k else none) k = β k := fun k hk => by simp [hk]
  have hslot : ∀ t, SlotR P (fun k => if k < 1000000 then β k else none) w I (σ.env t) (σ.ok t) (a.tmps.getD t undef) := fun t => by
    have h1 := hr.env t
    cases hk : σ.ok t with
    | none => rw [hk] at h1; exact VR.restrict hb _ _ (ho.env t) h1
    | some b => rw [hk] at h1; exact ⟨fun h => VR.restrict hb _ _ (ho.env t) (h1.1 h), h1.2⟩
  refine ⟨hr.defers, hr.size, hslot, ?_⟩
  have hm := hr.mem
  constructor
  · intro k o hk
    obtain ⟨B, hB, hO⟩ := hm.objs k o hk
    obtain ⟨h1, h2⟩ := ho.obj k o hk
    refine ⟨B, by simp only [h1, if_true]; exact hB, ?_⟩
    cases B with
    | none => exact hO
    | «at» b s n =>
      obtain ⟨g1, c, e, g2, g3, g4⟩ := hO
      refine ⟨g1, c, e, g2, g3, ?_⟩
      rw [ORows_iff] at g4 ⊢
      intro i r hir
      obtain ⟨q1, q2⟩ := g4 i r hir
      refine ⟨q1, ?_⟩
      rw [ORow_iff] at q2 ⊢
      intro j x hx
      obtain ⟨v, p1, p2, p3⟩ := q2 j x hx
      exact ⟨v, p1, VR.restrict hb _ _ (h2 r (List.mem_of_getElem? hir) x (List.mem_of_getElem? hx)) p2, p3⟩
  · intro k k' o o' b s n s' n' h1 h2 h3 h4
    simp only [(ho.obj k o h1).1, (ho.obj k' o' h2).1, if_true] at h3 h4
    exact hm.inj k k' o o' b s n s' n' h1 h2 h3 h4
  · intro k o b s n h1 h2
    simp only [(ho.obj k o h1).1, if_true] at h2
    exact hm.own k o b s n h1 h2
  · exact hm.lt
  · exact hm.up
  · exact hm.keep
  · exact hm.le
  · exact hm.os
  · exact hm.tape
  · exact hm.output
  · intro j B hj
    have := O0.lt j B hj
    show (if j < 1000000 then β j else none) = some B
    rw [if_pos (by omega)]; exact hm.anch j B hj

theorem Rel.drew (hr : Rel P w0 O0 N β I σ a w) : Rel P w0 O0 N β I σ a w.drew :=
  ⟨hr.defers, hr.size, fun t => SlotR.mono (w := w) (w' := w.drew) (fun _ _ h => h) (fun _ _ => rfl) (fun _ h => h) (hr.env t), hr.mem.drew⟩

theorem region_wp (hT : TabOk P T) {id : Nat} {Q : St → Prop} (hd : dstsOk N ops = true) (ho : Old σ) (h : eLex P T ops ann Q (List.range ops.size) σ) (hr : Rel P w0 O0 N β I σ a w) :
    (Code.region id ops false).wp P (fun e a' w' => ∃ β' I' σ', Rel P w0 O0 N β' I' σ' a' w' ∧ e = .normal ∧ Q σ') a w := by
  refine wp_region (wpOps_of_eLex hT (dstsOk_spec hd) (Q := Q) (fun σ a w β I hr hq => ⟨β, I, σ, hr, rfl, hq⟩) _ σ a w _ I List.nodup_range (hr.restrict ho) (fun j _ => ?_) h)
  exact if_neg (by simp only [nid]; omega)

theorem region_draw_wp (hT : TabOk P T) (hm : P.follows .mixedOrders = true) {id : Nat} {Q : St → Prop} (hd : dstsOk N ops = true) (hB : lexOK ops ann = true) (ho : Old σ) (h : eLex P T ops ann Q (List.range ops.size) σ) (hr : Rel P w0 O0 N β I σ a w) :
    (Code.region id ops true).wp P (fun e a' w' => ∃ β' I' σ', Rel P w0 O0 N β' I' σ' a' w' ∧ e = .normal ∧ Q σ') a w := by
  refine wp_region_any hm (wpAny_of_eAny hT (md := .any) (ann := ann) (dstsOk_spec hd) (Q := Q) (fun σ a w β I hr hq => ⟨β, I, σ, hr, rfl, hq⟩) _ _ σ a _ _ I (hr.restrict ho).drew (fun j _ => ?_) ?_)
  · exact if_neg (by simp only [nid]; omega)
  · refine eAny_lex ops.size 0 _ σ hB ?_
    have e : (List.range ops.size).map (fun x => 0 + x) = List.range ops.size := by simp
    rw [e]
    exact h
end
end Go.Gb

namespace Go.Gb
open Go.RowKit

/-- What code does, seen in the abstract walk. -/
def Ev (P : Program) (N : Nat) (c : Code) (Q : Exit → St → Prop) (σ : St) : Prop :=
  ∀ (w0 : World) (O0 : Was) (β : Nat → Option Blk) (I : Nat → Prop) (a : Act) (w : World), Rel P w0 O0 N β I σ a w → Old σ →
    c.wp P (fun e a' w' => ∃ β' I' σ', Rel P w0 O0 N β' I' σ' a' w' ∧ Old σ' ∧ Q e σ') a w

def thenE (K : St → Prop) (Q : Exit → St → Prop) : Exit → St → Prop
  | .normal, σ => K σ
  | e, σ => Q e σ

def blockE (id : Nat) (Q : Exit → St → Prop) : Exit → St → Prop
  | .exit j, σ => if j = id then Q .normal σ else Q (.exit j) σ
  | e, σ => Q e σ

/-- A real loop by a number that each round lowers. -/
theorem wp_loop_n {P : Program} {c : Code} {Q : Exit → Act → World → Prop} (J : Nat → Act → World → Prop) (h0 : ∀ a w, ¬ J 0 a w) (round : ∀ n a w, J (n + 1) a w → c.wp P (Exit.then (J n) Q) a w) (n : Nat) (a : Act) (w : World) (h : J n a w) :
    (Code.loop c).wp P Q a w := by
  intro b k cs
  have key : ∀ n a w, J n a w → ∃ e a' w', Q e a' w' ∧ Arrives P (lone (b.at a (.code c :: .inLoop c :: k)) cs w) b k cs e a' w' := by
    intro n
    induction n with
    | zero => intro a w h; exact (h0 a w h).elim
    | succ n ih =>
      intro a w hI
      obtain ⟨e, a₁, w₁, hq, harr⟩ := round n a w hI b (.inLoop c :: k) cs
      cases e with
      | normal =>
        obtain ⟨e₂, a₂, w₂, hq₂, harr₂⟩ := ih a₁ w₁ hq
        exact ⟨e₂, a₂, w₂, hq₂, .of_steps (Steps.trans harr (.one step_inLoop)) harr₂⟩
      | exit id => exact ⟨_, a₁, w₁, hq, .pass (x := .inLoop c) rfl (fun _ _ => .inl (by simp)) harr⟩
      | goto l => exact ⟨_, a₁, w₁, hq, .pass (x := .inLoop c) rfl (fun _ _ => .inl (by simp)) harr⟩
      | ret => exact ⟨_, a₁, w₁, hq, .pass (x := .inLoop c) rfl (fun _ _ => .inl (by simp)) harr⟩
      | panic ch => exact ⟨_, a₁, w₁, hq, .pass (x := .inLoop c) rfl (fun _ _ => .inl (by simp)) harr⟩
      | outgrown => exact ⟨_, a₁, w₁, hq, .pass (x := .inLoop c) rfl (fun _ _ => .inl (by simp)) harr⟩
  obtain ⟨e, a', w', hq, harr⟩ := key n a w h
  exact ⟨e, a', w', hq, .of_steps (.one step_loop) harr⟩

section
variable {P : Program} {N : Nat} {Q : Exit → St → Prop} {σ : St}

theorem Ev.mono {c : Code} {Q' : Exit → St → Prop} (h : Ev P N c Q σ) (hq : ∀ e σ, Q e σ → Q' e σ) : Ev P N c Q' σ :=
  fun w0 O0 β I a w hr ho => wp_mono (h w0 O0 β I a w hr ho) fun _ _ _ ⟨β', I', σ', h1, h2, h3⟩ => ⟨β', I', σ', h1, h2, hq _ _ h3⟩

theorem ev_skip (h : Q .normal σ) : Ev P N .skip Q σ := fun _ _ β I _ _ hr ho => wp_skip ⟨β, I, σ, hr, ho, h⟩
theorem ev_exit {id : Nat} (h : Q (.exit id) σ) : Ev P N (.exit id) Q σ := fun _ _ β I _ _ hr ho => wp_exit ⟨β, I, σ, hr, ho, h⟩
theorem ev_ret (h : Q .ret σ) : Ev P N .ret Q σ := fun _ _ β I _ _ hr ho => wp_ret ⟨β, I, σ, hr, ho, h⟩
theorem ev_label {l : Nat} (h : Q .normal σ) : Ev P N (.label l) Q σ := fun _ _ β I _ _ hr ho => wp_label ⟨β, I, σ, hr, ho, h⟩

theorem ev_seq {x y : Code} (h : Ev P N x (thenE (Ev P N y Q) Q) σ) : Ev P N (.seq x y) Q σ := by
  intro w0 O0 β I a w hr ho
  refine wp_seq (wp_mono (h w0 O0 β I a w hr ho) ?_)
  rintro e a' w' ⟨β', I', σ', h1, h2, h3⟩
  cases e <;> first | exact h3 w0 O0 β' I' a' w' h1 h2 | exact ⟨β', I', σ', h1, h2, h3⟩

theorem ev_cond {c : Operand} {x y : Code} (b : Bool) (hk : ∀ t, c = .tmp t → σ.ok t = none) (hc : opv σ.env c = .t (.sc (.bool b))) (h : Ev P N (bif b then x else y) Q σ) : Ev P N (.cond c x y) Q σ := by
  intro w0 O0 β I a w hr ho
  have h1 := opv_one (P := P) (β := β) (w := w) (I := I) (σ := σ) (a := a) (x := c) (fun t ht => by
    have h1 := hr.env t
    rw [hk t ht] at h1; exact h1)
  rw [hc] at h1
  simp only [VR, TR] at h1
  refine wp_cond (t := b) h1.1 ?_
  cases b <;> exact h w0 O0 β I a w hr ho

/-- A condition of which nothing is known. -/
theorem ev_cond_ub {c : Operand} {x y : Code} (hk : ∀ t, c = .tmp t → σ.ok t = none) (hc : opv σ.env c = .ub) (h1 : Ev P N x Q σ) (h2 : Ev P N y Q σ) : Ev P N (.cond c x y) Q σ := by
  intro w0 O0 β I a w hr ho
  have h3 := opv_one (P := P) (β := β) (w := w) (I := I) (σ := σ) (a := a) (x := c) (fun t ht => by
    have h1 := hr.env t
    rw [hk t ht] at h1; exact h1)
  rw [hc] at h3
  simp only [VR] at h3
  obtain ⟨b, hb⟩ := h3
  refine wp_cond (t := b) hb ?_
  cases b
  · exact h2 w0 O0 β I a w hr ho
  · exact h1 w0 O0 β I a w hr ho

theorem ev_block {id : Nat} {c : Code} (h : Ev P N c (blockE id Q) σ) : Ev P N (.block id c) Q σ := by
  intro w0 O0 β I a w hr ho
  refine wp_block (wp_mono (h w0 O0 β I a w hr ho) ?_)
  rintro e a' w' ⟨β', I', σ', h1, h2, h3⟩
  cases e with
  | exit j =>
    simp only [blockE] at h3
    simp only [Exit.inBlock]
    split
    · rw [if_pos ‹_›] at h3; exact ⟨β', I', σ', h1, h2, h3⟩
    · rw [if_neg ‹_›] at h3; exact ⟨β', I', σ', h1, h2, h3⟩
  | _ => exact ⟨β', I', σ', h1, h2, h3⟩

theorem ev_loop {c : Code} (J : Nat → St → Prop) (h0 : ∀ σ, ¬ J 0 σ) (round : ∀ n σ, J (n + 1) σ → Ev P N c (thenE (J n) Q) σ) (n : Nat) (h : J n σ) : Ev P N (.loop c) Q σ := by
  intro w0 O0 β I a w hr ho
  refine wp_loop_n (fun n a w => ∃ β I σ, Rel P w0 O0 N β I σ a w ∧ Old σ ∧ J n σ) (fun a w ⟨_, _, σ, _, _, h⟩ => h0 σ h) ?_ n a w ⟨β, I, σ, hr, ho, h⟩
  rintro n a w ⟨β, I, σ, hr, ho, hJ⟩
  refine wp_mono (round n σ hJ w0 O0 β I a w hr ho) ?_
  rintro e a' w' ⟨β', I', σ', h1, h2, h3⟩
  cases e <;> exact ⟨β', I', σ', h1, h2, h3⟩
end

/-- The value of a key in a list. -/
def lk {α : Type} : List (Nat × α) → Nat → Option α
  | [], _ => none
  | (j, x) :: r, k => if j = k then some x else lk r k

structure LSt where
  env : List (Nat × AV)
  objs : List (Nat × AObj)

def LSt.st (L : LSt) : St := ⟨fun t => (lk L.env t).getD .undef, fun k => lk L.objs k, fun _ => none⟩

theorem lk_mem {α : Type} : ∀ {l : List (Nat × α)} {k : Nat} {x : α}, lk l k = some x → (k, x) ∈ l
  | (j, y) :: r, k, x, h => by
    simp only [lk] at h
    split at h
    · injection h with h; subst h; rename_i e; subst e; simp
    · exact List.mem_cons_of_mem _ (lk_mem h)

theorem lk_of_mem {α : Type} : ∀ {l : List (Nat × α)} {k : Nat} {x : α}, (l.map (·.1)).Nodup → (k, x) ∈ l → lk l k = some x
  | (j, y) :: r, k, x, hn, h => by
    simp only [List.map_cons, List.nodup_cons] at hn
    simp only [lk]
    rcases List.mem_cons.1 h with h | h
    · injection h with h1 h2; subst h1; subst h2; simp
    · have hne : k ≠ j := fun e => hn.1 (List.mem_map.2 ⟨(k, x), h, e⟩)
      rw [if_neg (Ne.symm hne)]
      exact lk_of_mem hn.2 h

end Go.Gb

namespace Go.Gb
open Go.RowKit

/-- The j-th object that was handed in is handed back. -/
def kept (os' : List (Option RowsT)) (j : Nat) : Prop := ∃ p, os'[j]? = some (some p)

/-- A value that goes out: as data, or as memory that nobody else holds (the object fk). -/
def ExpT (get : Nat → Option AObj) (fk : Option Nat) (os' : List (Option RowsT)) : AV → Tree → Prop
  | .t x, y => y = x
  | .nilsl, y => y = .sl []
  | .own k off len, y => fk ≠ some k ∧ ¬ kept os' k ∧ ∃ o trows, get k = some o ∧ (o.rows.drop off).take len = avRows trows ∧ trows.length = len ∧ y = .sl trows
  | _, _ => False

def ExpL (get : Nat → Option AObj) (fk : Option Nat) (os' : List (Option RowsT)) : List AV → List Tree → Prop
  | [], [] => True
  | x :: xs, y :: ys => ExpT get fk os' x y ∧ ExpL get fk os' xs ys
  | _, _ => False

def ExpRows (get : Nat → Option AObj) (fk : Option Nat) (os' : List (Option RowsT)) : List (List AV) → List (List Tree) → Prop
  | [], [] => True
  | x :: xs, y :: ys => ExpL get fk os' x y ∧ ExpRows get fk os' xs ys
  | _, _ => False

def ExpC (get : Nat → Option AObj) (fk : Option Nat) (os' : List (Option RowsT)) : AV → RC → Prop
  | .agg cs, .d (.a ts) => ExpL get fk os' cs ts
  | x, .d (.s y) => ExpT get fk os' x y
  | .nilsl, .fresh _ rows => rows = []
  | .own k off len, .fresh sz rows => fk = some k ∧ ¬ kept os' k ∧ off = 0 ∧ ∃ o, get k = some o ∧ o.sz = sz ∧ ExpRows get fk os' (o.rows.take len) rows ∧ rows.length = len
  | .own k off len, .whole j len' => k = j ∧ off = 0 ∧ len' = len ∧ kept os' j
  | _, _ => False

def ExpCs (get : Nat → Option AObj) (fk : Option Nat) (os' : List (Option RowsT)) : List AV → List RC → Prop
  | [], [] => True
  | x :: xs, c :: cs => ExpC get fk os' x c ∧ ExpCs get fk os' xs cs
  | _, _ => False

def ExpR (get : Nat → Option AObj) (fk : Option Nat) (os' : List (Option RowsT)) : List AV → RV → Prop
  | [x], .one c => ExpC get fk os' x c
  | x :: y :: r, .tup cs => ExpCs get fk os' (x :: y :: r) cs
  | [], .tup cs => cs = []
  | _, _ => False

/-- The objects that are handed back. -/
def ExpO (get : Nat → Option AObj) (fk : Option Nat) (os' : List (Option RowsT)) : Prop :=
  ∀ (j : Nat) p, os'[j]? = some (some p) → fk ≠ some j ∧ ∃ o, get j = some o ∧ o.sz = p.1 ∧ ExpRows get fk os' (o.rows.take p.2.length) p.2

def resVal (T : Tab) (σ : St) : ResultVar → Option AV
  | .tmp t => match σ.ok t with
    | none => some (σ.env t)
    | some _ => none
  | .cell a t => match σ.ok a with
    | none => match aLoad T t (σ.env a) .none σ.obj with
      | some ⟨v, [], []⟩ => some v
      | _ => none
    | some _ => none

def resVals (T : Tab) (σ : St) : List ResultVar → Option (List AV)
  | [] => some []
  | r :: rs => (resVal T σ r).bind fun v => (resVals T σ rs).bind fun vs => some (v :: vs)

def rdRes (tmps : Array Value) : ResultVar → Sem Value
  | .tmp t => pure (tmps.getD t undef)
  | .cell a t => do loadVar t (← asAddr (tmps.getD a undef))

theorem results_eq (fn : Func) (tmps : Array Value) : results fn tmps = (fn.results.mapM (rdRes tmps)) >>= fun vs => pure (if h : vs.size = 1 then vs[0] else .tuple vs) := by
  unfold results
  congr 2

/-- What a function hands back. -/
def RetQ (T : Tab) (rs : List ResultVar) (rv : RV) (os' : List (Option RowsT)) : Exit → St → Prop
  | .normal, σ => ∃ xs fk, resVals T σ rs = some xs ∧ ExpR σ.obj fk os' xs rv ∧ ExpO σ.obj fk os'
  | .ret, σ => ∃ xs fk, resVals T σ rs = some xs ∧ ExpR σ.obj fk os' xs rv ∧ ExpO σ.obj fk os'
  | _, _ => False

section
variable {P : Program} {T : Tab} {w0 : World} {O0 : Was} {N : Nat} {β : Nat → Option Blk} {I : Nat → Prop} {σ : St} {a : Act} {w : World}

theorem resVal_sound (hT : TabOk P T) (hr : Rel P w0 O0 N β I σ a w) {r : ResultVar} {x : AV} (h : resVal T σ r = some x) :
    ∃ v, (rdRes a.tmps r).run P w = .ok v w ∧ VR P β w I x v := by
  cases r with
  | tmp t =>
    simp only [resVal] at h
    have h1 := hr.env t
    cases hk : σ.ok t with
    | some b => rw [hk] at h; cases h
    | none =>
      rw [hk] at h h1
      injection h with h; subst h
      exact ⟨_, by simp [rdRes], h1⟩
  | cell ad t =>
    simp only [resVal] at h
    have hx := hr.env ad
    cases hk : σ.ok ad with
    | some b => rw [hk] at h; cases h
    | none =>
    rw [hk] at h hx
    simp only at h
    have hx : VR P β w I (σ.env ad) (a.tmps.getD ad undef) := hx
    split at h
    · rename_i v hl
      injection h with h; subst h
      obtain ⟨u, h1, h2, _⟩ := aLoad_sound hT hr.mem (fun _ _ h => h) hl trivial hx
      refine ⟨u, ?_, h2⟩
      have hp : ∃ p, a.tmps.getD ad undef = .pointer (some p) := by
        unfold aLoad at hl
        cases hti : T t with
        | none => simp [hti] at hl
        | some ti =>
          simp only [hti, Option.bind_some] at hl
          split at hl
          · rename_i heq; rw [heq] at hx; simp only [VR] at hx; obtain ⟨b, sz, n, _, h⟩ := hx; exact ⟨_, h⟩
          · rename_i heq; rw [heq] at hx; simp only [VR] at hx; obtain ⟨b, o, h, _⟩ := hx; exact ⟨_, h⟩
          · cases hl
      obtain ⟨p, hp⟩ := hp
      rw [hp] at h1
      simp only [Instr.loadAt, Instr.sureAddr, Sem.run_bind, Sem.run_pure, Result.andThen_ok] at h1
      simp only [rdRes, hp, asAddr, Sem.run_bind, Sem.run_pure, Result.andThen_ok]
      exact h1
    · cases h

theorem resVals_sound (hT : TabOk P T) (hr : Rel P w0 O0 N β I σ a w) : ∀ (rs : List ResultVar) (xs : List AV), resVals T σ rs = some xs →
    ∃ vs, (rs.mapM (rdRes a.tmps)).run P w = .ok vs w ∧ VRl P β w I xs vs
  | [], xs, h => by simp only [resVals, Option.some.injEq] at h; subst h; exact ⟨[], by simp, by simp [VRl]⟩
  | r :: rs, xs, h => by
    simp only [resVals] at h
    cases h1 : resVal T σ r with
    | none => simp [h1] at h
    | some x =>
      cases h2 : resVals T σ rs with
      | none => simp [h1, h2] at h
      | some ys =>
        simp only [h1, h2, Option.bind_some, Option.some.injEq] at h
        subst h
        obtain ⟨v, g1, g2⟩ := resVal_sound hT hr h1
        obtain ⟨vs, g3, g4⟩ := resVals_sound hT hr rs ys h2
        exact ⟨v :: vs, by simp only [List.mapM_cons, Sem.run_bind, g1, Result.andThen_ok, g3, Sem.run_pure], by simp only [VRl]; exact ⟨g2, g4⟩⟩

/-- The memory in which the results are read. -/
def OutI (σ : St) (w0 w : World) (β : Nat → Option Blk) (I : Nat → Prop) (O0 : Was) (fk : Option Nat) (os' : List (Option RowsT)) (b : Nat) : Prop :=
  (I b ∨ O0.imm b ∨ w0.heap.size ≤ b ∨ O0.own b) ∧ b < w.heap.size ∧ ¬ ∃ k s n, (fk = some k ∨ kept os' k) ∧ (∃ o, σ.obj k = some o) ∧ β k = some (.at b s n)

theorem outI_sub (hr : Rel P w0 O0 N β I σ a w) (fk : Option Nat) (os' : List (Option RowsT)) : ∀ b, I b → OutI σ w0 w β I O0 fk os' b := fun b hb =>
  ⟨.inl hb, hr.mem.lt b hb, fun ⟨k, s, n, _, ⟨o, ho⟩, hβ⟩ => (hr.mem.own k o b s n ho hβ).1 hb⟩

theorem expT_sound (hr : Rel P w0 O0 N β I σ a w) {fk : Option Nat} {os' : List (Option RowsT)} {x : AV} {y : Tree} {v : Value} (h : ExpT σ.obj fk os' x y) (hv : VR P β w I x v) : TR w (OutI σ w0 w β I O0 fk os') y v := by
  cases x <;> simp only [ExpT] at h
  case t x => subst h; simp only [VR] at hv; exact TR.mono (fun _ _ => rfl) (outI_sub hr fk os') _ _ hv
  case nilsl => subst h; simp only [VR] at hv; simp only [TR]; exact .inl ⟨trivial, none, 0, hv, fun _ => rfl⟩
  case own k off len =>
    obtain ⟨hne, hnk, o, trows, h1, h2, h3, rfl⟩ := h
    simp only [VR] at hv
    simp only [TR]
    rcases hv with ⟨_, rfl, _, h4⟩ | ⟨b, sz, n, cap, ad, h4, rfl, h5, h6, h7⟩
    · exact .inl ⟨List.eq_nil_of_length_eq_zero (by omega), none, 0, rfl, fun _ => rfl⟩
    · obtain ⟨g1, g2, g3⟩ := hr.mem.own k o b sz n h1 h4
      refine .inr ⟨b, ad, cap, sz, by rw [h3], by omega, ⟨.inr (.inr (g3.elim .inr .inl)), g2, fun ⟨k', s', n', e1, ⟨o', e2⟩, e3⟩ => ?_⟩, ?_⟩
      · have := hr.mem.inj k k' o o' b sz n s' n' h1 e2 h4 e3
        subst this
        exact e1.elim hne hnk
      · by_cases hc : cap = 0
        · have : trows = [] := List.eq_nil_of_length_eq_zero (by omega)
          subst this; simp [TRows]
        · rw [h7 hc]
          obtain ⟨B, hB, hOR⟩ := hr.mem.objs k o h1
          rw [h4] at hB; injection hB with hB; subst hB
          obtain ⟨hs, c, e, hc', _, hOR⟩ := hOR
          have h8 := ORows.take len _ _ _ _ (ORows.drop off _ _ _ _ hOR)
          rw [h2, Nat.zero_add] at h8
          exact TRows.of_own (outI_sub hr fk os') hc' trows _ _ h8

theorem expRow_sound (hr : Rel P w0 O0 N β I σ a w) {fk : Option Nat} {os' : List (Option RowsT)} {β' : Nat → Option Blk} : ∀ {r : List AV} {t : List Tree} {c : Array Value} {off : Nat}, ExpL σ.obj fk os' r t → ORow P β w I r c off → ORow P β' w (OutI σ w0 w β I O0 fk os') (t.map AV.t) c off
  | [], [], _, _, _, _ => trivial
  | x :: xs, y :: ys, c, off, h, ⟨⟨v, h1, h2, h3⟩, h4⟩ => ⟨⟨v, h1, by simp only [VR]; exact expT_sound hr h.1 h2, h3⟩, expRow_sound hr h.2 h4⟩
  | [], _ :: _, _, _, h, _ => h.elim
  | _ :: _, [], _, _, h, _ => h.elim

theorem ExpL.length {get : Nat → Option AObj} {fk : Option Nat} {os' : List (Option RowsT)} : ∀ {r : List AV} {t : List Tree}, ExpL get fk os' r t → t.length = r.length
  | [], [], _ => rfl
  | _ :: _, _ :: _, h => by simp [ExpL.length h.2]
  | [], _ :: _, h => h.elim
  | _ :: _, [], h => h.elim

theorem expRows_sound (hr : Rel P w0 O0 N β I σ a w) {fk : Option Nat} {os' : List (Option RowsT)} {β' : Nat → Option Blk} : ∀ {rs : List (List AV)} {ts : List (List Tree)} {c : Array Value} {off sz : Nat}, ExpRows σ.obj fk os' rs ts → ORows P β w I rs c off sz → ORows P β' w (OutI σ w0 w β I O0 fk os') (avRows ts) c off sz
  | [], [], _, _, _, _, _ => trivial
  | r :: rs, t :: ts, c, off, sz, h, ⟨h1, h2, h3⟩ => ⟨by rw [List.length_map, h.1.length, h1], expRow_sound hr h.1 h2, expRows_sound hr h.2 h3⟩
  | [], _ :: _, _, _, _, h, _ => h.elim
  | _ :: _, [], _, _, _, h, _ => h.elim

theorem ExpRows.nil {get : Nat → Option AObj} {fk : Option Nat} {os' : List (Option RowsT)} {t : List (List Tree)} (h : ExpRows get fk os' [] t) : t = [] := by
  cases t with
  | nil => rfl
  | cons => exact h.elim

theorem expC_sound (hr : Rel P w0 O0 N β I σ a w) {F : Nat → Prop} {βi : Nat → Option Blk} {fk : Option Nat} {os' : List (Option RowsT)} (hF : ∀ k o b s n, fk = some k → σ.obj k = some o → ¬ kept os' k → β k = some (.at b s n) → F b) (hi : ∀ j, kept os' j → β j = βi j) {x : AV} {c : RC} {v : Value}
    (h : ExpC σ.obj fk os' x c) (hv : VR P β w I x v) : RCR P F βi c w (OutI σ w0 w β I O0 fk os') v := by
  unfold ExpC at h
  split at h
  · rename_i cs ts
    simp only [VR] at hv
    obtain ⟨vs, rfl, hv⟩ := hv
    refine ⟨vs, rfl, ?_⟩
    have : ∀ (cs : List AV) (ts : List Tree) (vs : List Value), ExpL σ.obj fk os' cs ts → VRl P β w I cs vs → TRl w (OutI σ w0 w β I O0 fk os') ts vs := by
      intro cs
      induction cs with
      | nil => intro ts vs h hv; cases ts <;> cases vs <;> first | trivial | exact h.elim | (simp [VRl] at hv)
      | cons x xs ih =>
        intro ts vs h hv
        cases ts with
        | nil => exact h.elim
        | cons t ts =>
          cases vs with
          | nil => simp [VRl] at hv
          | cons u us => simp only [VRl] at hv; exact ⟨expT_sound hr h.1 hv.1, ih ts us h.2 hv.2⟩
    exact this cs ts vs.toList h hv
  · exact expT_sound hr h hv
  · subst h
    simp only [VR] at hv
    exact .inl ⟨rfl, hv⟩
  · rename_i k off len sz rows
    obtain ⟨rfl, hnk, rfl, o, h1, rfl, h2, h3⟩ := h
    simp only [VR] at hv
    rcases hv with ⟨_, rfl, _, h4⟩ | ⟨b, sz, n, cap, ad, h4, rfl, h5, h6, h7⟩
    · exact .inl ⟨List.eq_nil_of_length_eq_zero (by omega), rfl⟩
    · obtain ⟨g1, g2, g3⟩ := hr.mem.own k o b sz n h1 h4
      obtain ⟨B, hB, hOR⟩ := hr.mem.objs k o h1
      rw [h4] at hB; injection hB with hB; subst hB
      obtain ⟨hs, c, e, hc', hn, hOR⟩ := hOR
      refine .inr ⟨b, c, e, cap, ad, by rw [h3], hF k o b sz n rfl h1 hnk h4, fun hI => hI.2.2 ⟨k, sz, n, .inl rfl, ⟨o, h1⟩, h4⟩, hc', by omega, ?_, ?_, fun hc => by simpa using h7 hc⟩
      · rw [← hs, hn]; simpa using h6
      · rw [← hs]; exact expRows_sound hr h2 (ORows.take len _ _ _ _ hOR)
  · rename_i k off len j len'
    obtain ⟨rfl, rfl, rfl, hk⟩ := h
    show VR P βi w (OutI σ w0 w β I O0 fk os') (.own k 0 len') v
    simp only [VR] at hv ⊢
    rw [← hi k hk]; exact hv
  · exact h.elim

theorem lk_zip {α : Type} (l : List α) (t : Nat) : lk ((List.range l.length).zip l) t = l[t]? := by
  have hlook : ∀ (l : List α) (s t : Nat), (lk ((List.range' s l.length).zip l) t) = if s ≤ t ∧ t < s + l.length then l[t - s]? else none := by
    intro l
    induction l with
    | nil => intro s t; simp [lk]
    | cons x xs ih =>
      intro s t
      simp only [List.length_cons, List.range'_succ, List.zip_cons_cons, lk]
      by_cases hst : s = t
      · subst hst; simp
      · rw [if_neg hst, ih]
        by_cases hlt' : s + 1 ≤ t ∧ t < s + 1 + xs.length
        · rw [if_pos hlt', if_pos (by omega), show t - s = (t - (s + 1)) + 1 by omega]; simp
        · rw [if_neg hlt', if_neg (by omega)]
  rw [List.range_eq_range', hlook]
  by_cases ht : t < l.length
  · simp [ht]
  · rw [if_neg (by omega)]; simp [List.getElem?_eq_none (Nat.le_of_not_lt ht)]

theorem mem_refsL {x : AV} : ∀ {l : List AV}, x ∈ l → ∀ k ∈ refs x, k ∈ refsL l
  | [], h, _, _ => by simp at h
  | y :: ys, h, k, hk => by
    simp only [refsL, List.mem_append]
    rcases List.mem_cons.1 h with rfl | h
    · exact .inl hk
    · exact .inr (mem_refsL h k hk)

/-- A function's contract out of the abstract walk of its body. -/
theorem fnW_of_ev (hT : TabOk P T) {f : FuncId} {fn : Func} {c : Code} {args : List AV} {os : List RowsT} {os' : List (Option RowsT)} {rv : RV} (hfn : P.funcs[f]? = some fn) (hb : fn.body = some c) (hname : (fn.name == "runtime.NumGoroutine") = false) (hN : args.length ≤ fn.ntmps) (hargs : ∀ k ∈ refsL args, k < 1000) (hos : os.length ≤ 1000) (hlen : os'.length = os.length)
    (h : Ev P fn.ntmps c (RetQ T fn.results.toList rv os') (LSt.st ⟨(List.range args.length).zip args, (List.range (os.map aob).length).zip (os.map aob)⟩)) : FnW P f args os os' rv := by
  refine ⟨⟨fn, hfn, by rw [hb]; rfl, hname⟩, fun w β I vs hβ hM hv => ?_⟩
  have hvl := VRl.length _ _ hv
  simp only [Array.length_toList] at hvl
  have hobj : ∀ k, lk ((List.range (os.map aob).length).zip (os.map aob)) k = osf os k := fun k => by
    rw [lk_zip]; simp [osf]
  refine calls_of_wp hfn hb ?_
  have hrel : Rel P w (WasW β I) fn.ntmps β I (LSt.st ⟨(List.range args.length).zip args, (List.range (os.map aob).length).zip (os.map aob)⟩) { tmps := vs ++ Array.replicate (fn.ntmps - vs.size) undef, defers := [] } w := by
    refine ⟨rfl, by simp; omega, fun t => ?_, ?_⟩
    · simp only [LSt.st, lk_zip, SlotR]
      by_cases ht : t < args.length
      · obtain ⟨v, g1, g2⟩ := VRl.get _ _ t _ hv (List.getElem?_eq_getElem ht)
        rw [List.getElem?_eq_getElem ht]
        simp only [Option.getD_some]
        have : (vs ++ Array.replicate (fn.ntmps - vs.size) undef).getD t undef = v := by
          rw [Array.getElem?_toList] at g1
          simp only [Array.getD_eq_getD_getElem?, Array.getElem?_append, show t < vs.size by omega, if_true, g1, Option.getD_some]
        rw [this]; exact g2
      · rw [List.getElem?_eq_none (Nat.le_of_not_lt ht)]; simp [VR]
    · have : (LSt.st ⟨(List.range args.length).zip args, (List.range (os.map aob).length).zip (os.map aob)⟩).obj = osf os := funext hobj
      rw [this]; exact hM
  have hold : Old (LSt.st ⟨(List.range args.length).zip args, (List.range (os.map aob).length).zip (os.map aob)⟩) := by
    refine ⟨fun t k hk => ?_, fun k o hk => ?_⟩
    · simp only [LSt.st, lk_zip] at hk
      cases ht : args[t]? with
      | none => rw [ht] at hk; simp [refs] at hk
      | some x => rw [ht] at hk; have := hargs k (mem_refsL (List.mem_of_getElem? ht) k hk); omega
    · have hk : osf os k = some o := (hobj k).symm.trans hk
      simp only [osf, Option.map_eq_some_iff] at hk
      obtain ⟨p, hp, rfl⟩ := hk
      refine ⟨by have := (List.getElem?_eq_some_iff.1 hp).1; omega, fun r hr x hx j hj => ?_⟩
      simp only [aob, avRows, List.mem_map] at hr
      obtain ⟨q, _, rfl⟩ := hr
      simp only [List.mem_map] at hx
      obtain ⟨t, _, rfl⟩ := hx
      simp [refs] at hj
  refine wp_mono (h w (WasW β I) β I _ w hrel hold) ?_
  have fin : ∀ (a' : Act) (w' : World) (β' : Nat → Option Blk) (I' : Nat → Prop) (σ' : St), Rel P w (WasW β I) fn.ntmps β' I' σ' a' w' → (∃ xs fk, resVals T σ' fn.results.toList = some xs ∧ ExpR σ'.obj fk os' xs rv ∧ ExpO σ'.obj fk os') →
      a'.defers = [] ∧ ∃ v, (results fn a'.tmps).run P w' = .ok v w' ∧ RetW P w β I os' rv (.returned v) w' := by
    intro a' w' β' I' σ' hr ⟨xs, fk, hx, he, heo⟩
    obtain ⟨us, g1, g2⟩ := resVals_sound hT hr _ _ hx
    have hul := VRl.length _ _ g2
    have hm := hr.mem
    have hrun : (fn.results.mapM (rdRes a'.tmps)).run P w' = .ok us.toArray w' := by
      rw [Array.mapM_eq_mapM_toList, Sem.run_map, g1]; rfl
    have hko : ∀ j p, os'[j]? = some (some p) → ∃ B o, β j = some B ∧ β' j = some B ∧ σ'.obj j = some o ∧ OR P β' w' I' o B ∧ o.sz = p.1 ∧ ExpRows σ'.obj fk os' (o.rows.take p.2.length) p.2 := by
      intro j p hj
      obtain ⟨_, o, e1, e2, e3⟩ := heo j p hj
      have hjl : j < os.length := by rw [← hlen]; exact (List.getElem?_eq_some_iff.1 hj).1
      obtain ⟨B, hB, _⟩ := hM.objs j (aob os[j]) (by simp [osf, hjl])
      have hB' := hm.anch j B (by simp only [WasW]; rw [if_pos (by omega)]; exact hB)
      obtain ⟨B', hB2, hO⟩ := hm.objs j o e1
      rw [hB'] at hB2; injection hB2 with hB2; subst hB2
      exact ⟨B, o, hB, hB', e1, hO, e2, e3⟩
    have hkept : ∀ j, kept os' j → β' j = β j := fun j ⟨p, hp⟩ => by
      obtain ⟨B, o, h1, h2, _⟩ := hko j p hp
      rw [h1, h2]
    have hosf : ∀ j o, osf' os' j = some o → ∃ p, os'[j]? = some (some p) ∧ o = aob p := by
      intro j o hj
      simp only [osf', Option.map_eq_some_iff, Option.join_eq_some_iff] at hj
      obtain ⟨p, hp, rfl⟩ := hj
      exact ⟨p, hp, rfl⟩
    have hownI : ∀ b, I b → ¬ ownB β b ∧ b < w.heap.size := by
      intro b hb
      refine ⟨?_, hM.lt b hb⟩
      rintro ⟨j, s, n, hj⟩
      rcases Nat.lt_or_ge j os.length with hjl | hjl
      · exact (hM.own j (aob os[j]) b s n (by simp [osf, hjl]) hj).1 hb
      · rw [hβ j hjl] at hj; cases hj
    have hOI : ∀ b, I b → OutI σ' w w' β' I' (WasW β I) fk os' b := by
      intro b hb
      obtain ⟨g1, g2⟩ := hownI b hb
      refine ⟨.inr (.inl hb), Nat.lt_of_lt_of_le g2 hm.le, ?_⟩
      rintro ⟨k, s, n, _, ⟨o, ho⟩, hβk⟩
      rcases (hm.own k o b s n ho hβk).2.2 with g | g
      · exact g1 g
      · omega
    have hmem : Mem P w (WasW β I) β (OutI σ' w w' β' I' (WasW β I) fk os') (osf' os') w' := by
      constructor
      · intro j o hj
        obtain ⟨p, hp, rfl⟩ := hosf j o hj
        obtain ⟨B, o1, b1, b2, b3, b4, b5, b6⟩ := hko j p hp
        refine ⟨B, b1, ?_⟩
        cases B with
        | none =>
          simp only [OR] at b4 ⊢
          rw [b4] at b6
          have := ExpRows.nil (by simpa using b6)
          simp [aob, avRows, this]
        | «at» b s n =>
          obtain ⟨c1, c, e, c2, c3, c4⟩ := b4
          refine ⟨by rw [c1, b5]; rfl, c, e, c2, c3, ?_⟩
          exact expRows_sound hr b6 (ORows.take _ _ _ _ _ c4)
      · intro j j' o o' b s n s' n' h1 h2 h3 h4
        obtain ⟨p, hp, rfl⟩ := hosf j o h1
        obtain ⟨p', hp', rfl⟩ := hosf j' o' h2
        obtain ⟨_, o1, _, _, b3, _⟩ := hko j p hp
        obtain ⟨_, o1', _, _, b3', _⟩ := hko j' p' hp'
        rw [← hkept j ⟨p, hp⟩] at h3
        rw [← hkept j' ⟨p', hp'⟩] at h4
        exact hm.inj j j' o1 o1' b s n s' n' b3 b3' h3 h4
      · intro j o b s n h1 h2
        obtain ⟨p, hp, rfl⟩ := hosf j o h1
        obtain ⟨_, o1, _, _, b3, _⟩ := hko j p hp
        rw [← hkept j ⟨p, hp⟩] at h2
        obtain ⟨_, c2, c3⟩ := hm.own j o1 b s n b3 h2
        exact ⟨fun hb => hb.2.2 ⟨j, s, n, .inr ⟨p, hp⟩, ⟨o1, b3⟩, h2⟩, c2, c3⟩
      · exact fun b hb => hb.2.1
      · intro b hb
        rcases hb.1 with g | g | g | g
        · exact hm.up b g
        · exact .inl g
        · exact .inr (.inr g)
        · exact .inr (.inl g)
      · exact hm.keep
      · exact hm.le
      · exact hm.os
      · exact hm.tape
      · exact hm.output
      · intro j B hj
        simp only [WasW] at hj
        split at hj
        · exact hj
        · cases hj
    have hF : ∀ k o b s n, fk = some k → σ'.obj k = some o → ¬ kept os' k → β' k = some (.at b s n) → newW w β os' b := by
      intro k o b s n _ h2 h3 h4
      refine ⟨(hm.own k o b s n h2 h4).2.2, fun j o' s' n' h5 h6 => ?_⟩
      obtain ⟨p, hp, rfl⟩ := hosf j o' h5
      obtain ⟨_, o1, _, _, b3, _⟩ := hko j p hp
      rw [← hkept j ⟨p, hp⟩] at h6
      have := hm.inj k j o o1 b s n s' n' h2 b3 h4 h6
      subst this
      exact h3 ⟨p, hp⟩
    have ret : ∀ v, RVR P (newW w β os') β rv w' (OutI σ' w w' β' I' (WasW β I) fk os') v → RetW P w β I os' rv (.returned v) w' := fun v hv' => ⟨v, _, rfl, hmem, hOI, hv'⟩
    refine ⟨hr.defers, ?_⟩
    have hlist : ∀ (xs : List AV) (cs : List RC) (us : List Value), ExpCs σ'.obj fk os' xs cs → VRl P β' w' I' xs us → RCRl P (newW w β os') β cs w' (OutI σ' w w' β' I' (WasW β I) fk os') us := by
      intro xs
      induction xs with
      | nil => intro cs us h1 h2; cases cs <;> cases us <;> first | trivial | exact h1.elim | (simp [VRl] at h2)
      | cons x xs ih =>
        intro cs us h1 h2
        cases cs with
        | nil => exact h1.elim
        | cons c cs =>
          cases us with
          | nil => simp [VRl] at h2
          | cons u us => simp only [VRl] at h2; exact ⟨expC_sound hr hF hkept h1.1 h2.1, ih cs us h1.2 h2.2⟩
    simp only [results_eq, Sem.run_bind, hrun, Result.andThen_ok, Sem.run_pure]
    refine ⟨_, rfl, ret _ ?_⟩
    match xs, us, rv, he, g2 with
    | [x], [u], .one c, he, g2 =>
      simp only [VRl] at g2
      simpa [RVR] using expC_sound hr hF hkept he g2.1
    | x :: y :: r, u :: u' :: us, .tup cs, he, g2 =>
      have := hlist _ _ _ he g2
      rw [dif_neg (by simp)]
      exact ⟨_, rfl, by simpa using this⟩
    | [], [], .tup cs, he, g2 =>
      simp only [ExpR] at he
      subst he
      rw [dif_neg (by simp)]
      exact ⟨_, rfl, trivial⟩
    | [x], [u], .tup cs, he, _ => exact he.elim
    | [], _, .one c, he, _ => exact he.elim
    | x :: y :: r, _, .one c, he, _ => exact he.elim
    | [], _ :: _, .tup _, _, g2 => simp [VRl] at g2
    | [_], [], _, _, g2 => simp [VRl] at g2
    | [_], _ :: _ :: _, _, _, g2 => simp [VRl] at g2
    | _ :: _ :: _, [], _, _, g2 => simp [VRl] at g2
    | _ :: _ :: _, [_], _, _, g2 => simp [VRl] at g2
  rintro e a' w' ⟨β', I', σ', h1, h2, h3⟩
  cases e with
  | normal => exact fin a' w' β' I' σ' h1 h3
  | ret => exact fin a' w' β' I' σ' h1 h3
  | _ => exact h3.elim

theorem RVR.monoF {F F' : Nat → Prop} {βi : Nat → Option Blk} {w' : World} {I' : Nat → Prop} (hF : ∀ b, F b → F' b) {rv : RV} {v : Value} (h : RVR P F βi rv w' I' v) : RVR P F' βi rv w' I' v := by
  have hc : ∀ (c : RC) (v : Value), RCR P F βi c w' I' v → RCR P F' βi c w' I' v := by
    intro c v h
    cases c with
    | d x => exact h
    | fresh sz rows =>
      rcases h with h | ⟨b, c, e, cap, o, h1, h2, h3⟩
      · exact .inl h
      · exact .inr ⟨b, c, e, cap, o, h1, hF b h2, h3⟩
    | whole j len => exact h
  cases rv with
  | one c => exact hc c v h
  | tup cs =>
    obtain ⟨vs, rfl, h⟩ := h
    refine ⟨vs, rfl, ?_⟩
    have : ∀ (cs : List RC) (vs : List Value), RCRl P F βi cs w' I' vs → RCRl P F' βi cs w' I' vs := by
      intro cs
      induction cs with
      | nil => intro vs h; cases vs with
        | nil => trivial
        | cons => exact h.elim
      | cons c cs ih => intro vs h; cases vs with
        | nil => exact h.elim
        | cons v vs => exact ⟨hc c v h.1, ih vs h.2⟩
    exact this cs vs.toList h

/-- A call that is handed no object changes nothing that was there. -/
theorem fnP_of_W {f : FuncId} {args : List AV} {rv : RV} (h : FnW P f args [] [] rv) : FnP P f args rv := by
  refine ⟨h.1, fun w I vs hlt hv => ?_⟩
  have hM : Mem P w (WasW nob I) nob I (osf []) w := by
    refine ⟨fun k o hk => by simp [osf] at hk, fun k k' o o' b s n s' n' hk => by simp [osf] at hk, fun k o b s n hk => by simp [osf] at hk, hlt, fun b hb => .inl hb, fun _ _ _ => rfl, Nat.le_refl _, rfl, rfl, rfl, fun j B hj => ?_⟩
    simp only [WasW, nob, ite_self] at hj
    cases hj
  refine (h.2 w nob I vs (fun _ _ => rfl) hM hv).mono ?_
  rintro e w' ⟨v, I', rfl, g1, g2, g3⟩
  have hno : ∀ b, ¬ (WasW nob I).own b := fun b ⟨j, s, n, hj⟩ => by cases hj
  refine ⟨v, I', rfl, ⟨g1.os, g1.tape, g1.output, g1.le, fun b hb => g1.keep b hb (hno b)⟩, g2, g1.lt, fun b hb => ?_, RVR.monoF (fun b hb => ?_) g3⟩
  · rcases g1.up b hb with h | h | h
    · exact .inl h
    · exact (hno b h).elim
    · exact .inr h
  · rcases hb.1 with h | h
    · exact (hno b h).elim
    · exact h
end
end Go.Gb

namespace Go.Gb
open Go.RowKit Go.WideShapes Go.ChangeShapes

/-- The shape of a cell. -/
inductive CS where
  | int (k : IntKind)
  | bool
  | str
  | sl (row : List CS)
  | any

mutual
def Fit : CS → Tree → Prop
  | .int k, x => ∃ n, x = .sc (.int k n) ∧ (Lit.int k n).wf = true
  | .bool, x => ∃ b, x = .sc (.bool b)
  | .str, x => ∃ s, x = .sc (.string s) ∧ s.size ≤ maxLen
  | .sl row, x => ∃ rows, x = .sl rows ∧ rows.length ≤ maxLen ∧ ∀ r ∈ rows, FitL row r
  | .any, _ => True
def FitL : List CS → List Tree → Prop
  | [], [] => True
  | c :: cs, x :: xs => Fit c x ∧ FitL cs xs
  | _, _ => False
end

def shpF (P : Program) (go : TypeId → Option (List CS)) : Nat → List Field → Option (List CS)
  | _, [] => some []
  | o, f :: fs => (go f.type).bind fun a => if f.offset = o ∧ a.length = P.cellsOf f.type then (shpF P go (o + a.length) fs).map (a ++ ·) else none

/-- The cells of a type; slices of 'cut' are not looked into. -/
def shp (P : Program) (cut : List TypeId) : Nat → TypeId → Option (List CS)
  | 0, _ => none
  | n + 1, t => match P.underlying t with
    | some (.int k) => some [.int k]
    | some .bool => some [.bool]
    | some .string => some [.str]
    | some (.slice e) => if cut.contains t then some [.any] else (shp P cut n e).bind fun r => if r.length = P.cellsOf e ∧ 0 < r.length then some [.sl r] else none
    | some (.struct fs) => (shpF P (shp P cut n) 0 fs.toList).bind fun r => if r.length = P.cellsOf t then some r else none
    | some (.array m e) => (shp P cut n e).bind fun r => if r.length = P.cellsOf e ∧ m * r.length = P.cellsOf t then some (List.replicate m r).flatten else none
    | _ => none

theorem FitL.length : ∀ (cs : List CS) (ts : List Tree), FitL cs ts → ts.length = cs.length
  | [], [], _ => rfl
  | c :: cs, x :: xs, h => by simp only [FitL] at h; simp [FitL.length cs xs h.2]
  | [], _ :: _, h => by simp [FitL] at h
  | _ :: _, [], h => by simp [FitL] at h

theorem FitL.append : ∀ (cs : List CS) (ts : List Tree) {cs' : List CS} {ts' : List Tree}, FitL cs ts → FitL cs' ts' → FitL (cs ++ cs') (ts ++ ts')
  | [], [], _, _, _, h => h
  | c :: cs, x :: xs, _, _, h, h' => by simp only [FitL, List.cons_append] at h ⊢; exact ⟨h.1, FitL.append cs xs h.2 h'⟩
  | [], _ :: _, _, _, h, _ => by simp [FitL] at h
  | _ :: _, [], _, _, h, _ => by simp [FitL] at h

/-- The memory that is there. -/
def Here (w : World) (b : Nat) : Prop := b < w.heap.size

section
variable {w : World} {I : Nat → Prop}
theorem TRl.append : ∀ (ts : List Tree) (cs : List Value) {ts' : List Tree} {cs' : List Value}, TRl w I ts cs → TRl w I ts' cs' → TRl w I (ts ++ ts') (cs ++ cs')
  | [], [], _, _, _, h => h
  | _ :: xs, _ :: vs, _, _, h, h' => ⟨h.1, TRl.append xs vs h.2 h'⟩
  | [], _ :: _, _, _, h, _ => h.elim
  | _ :: _, [], _, _, h, _ => h.elim

theorem TRl.length : ∀ (ts : List Tree) (cs : List Value), TRl w I ts cs → ts.length = cs.length
  | [], [], _ => rfl
  | _ :: xs, _ :: vs, h => by simp [TRl.length xs vs h.2]
  | [], _ :: _, h => h.elim
  | _ :: _, [], h => h.elim

theorem TRow_of : ∀ (ts : List Tree) (cs : List Value) (b off : Nat), TRl w I ts cs → (∀ i, i < cs.length → w.cell? ⟨b, off + i, none⟩ = cs[i]?) → TRow w I ts b off
  | [], [], _, _, _, _ => by simp [TRow]
  | x :: xs, v :: vs, b, off, h, hc => by
    simp only [TRow]
    refine ⟨⟨v, by simpa using hc 0 (by simp), h.1⟩, TRow_of xs vs b (off + 1) h.2 fun i hi => ?_⟩
    have := hc (i + 1) (by simpa using hi)
    rw [show off + (i + 1) = off + 1 + i by omega] at this
    simpa using this
  | [], _ :: _, _, _, h, _ => h.elim
  | _ :: _, [], _, _, h, _ => h.elim
end

section
variable {H : Type} {enc : TypeId × Value → H} {P : Program} {w : World} {sp : Nat → Bool} {held : Bool}

theorem spot_none {a : Addr} {v : Value} (h : w.cell? a = some v) : a.spot = none ∧ a.block < w.heap.size := by
  simp only [World.cell?] at h
  split at h
  · rename_i c e st hc
    split at h
    · cases h
    · rename_i hs
      exact ⟨by simpa using hs, (Array.getElem?_eq_some_iff.1 hc).1⟩
  · cases h

theorem read_fields (m : Nat) (cs : List Value) (go : TypeId → Option (List CS)) (hgo : ∀ t sh, go t = some sh → ∀ cs x, DataW.trod enc P w 0 sp held m t cs = some x → ∃ ts, TRl w (Here w) ts cs ∧ FitL sh ts) :
    ∀ (fs : List Field) (o : Nat) (sh : List CS), shpF P go o fs = some sh → (∀ f ∈ fs, ∃ x, DataW.trod enc P w 0 sp held m f.type ((cs.drop f.offset).take (P.cellsOf f.type)) = some x) →
      ∃ ts, TRl w (Here w) ts ((cs.drop o).take sh.length) ∧ FitL sh ts
  | [], o, sh, h, _ => by
    simp only [shpF, Option.some.injEq] at h
    subst h
    exact ⟨[], by simp [TRl], by simp [FitL]⟩
  | f :: fs, o, sh, h, hf => by
    simp only [shpF, Option.bind_eq_some_iff] at h
    obtain ⟨a, h1, h2⟩ := h
    split at h2
    · rename_i hc
      obtain ⟨hc1, hc2⟩ := hc
      simp only [Option.map_eq_some_iff] at h2
      obtain ⟨r, h3, rfl⟩ := h2
      obtain ⟨x, hx⟩ := hf f (by simp)
      obtain ⟨ts, g1, g2⟩ := hgo _ _ h1 _ _ hx
      obtain ⟨ts', g3, g4⟩ := read_fields m cs go hgo fs _ _ h3 fun f' hf' => hf f' (by simp [hf'])
      refine ⟨ts ++ ts', ?_, FitL.append _ _ g2 g4⟩
      rw [List.length_append, List.take_add, List.drop_drop]
      rw [hc1, ← hc2] at g1
      exact TRl.append _ _ g1 g3
    · cases h2

theorem read_cells {cut : List TypeId} : ∀ (n : Nat) (t : TypeId) (sh : List CS), shp P cut n t = some sh → ∀ (fuel : Nat) (cs : List Value) (x : DataW H × List MemPlace), DataW.trod enc P w 0 sp held fuel t cs = some x →
    ∃ ts, TRl w (Here w) ts cs ∧ FitL sh ts
  | 0, _, _, h, _, _, _, _ => by simp [shp] at h
  | n + 1, t, sh, h, fuel, cs, x, hx => by
    unfold shp at h
    split at h
    · rename_i k hk
      injection h with h; subst h
      obtain ⟨v, rfl, _, hw⟩ := DataW.trod_int hk hx
      exact ⟨[.sc (.int k v)], by simp [TRl, TR, oneCell], by simp only [FitL, Fit]; exact ⟨⟨v, rfl, hw⟩, trivial⟩⟩
    · rename_i hk
      injection h with h; subst h
      obtain ⟨v, rfl, _⟩ := DataW.trod_bool hk hx
      exact ⟨[.sc (.bool v)], by simp [TRl, TR, oneCell], by simp only [FitL, Fit]; exact ⟨⟨v, rfl⟩, trivial⟩⟩
    · rename_i hk
      injection h with h; subst h
      obtain ⟨v, rfl, _, hw⟩ := DataW.trod_string hk hx
      exact ⟨[.sc (.string v)], by simp [TRl, TR, oneCell], by simp only [FitL, Fit]; exact ⟨⟨v, rfl, hw⟩, trivial⟩⟩
    · rename_i e hk
      split at h
      · injection h with h; subst h
        rcases DataW.trod_slice hk hx with ⟨rfl, _⟩ | ⟨a, len, cap, elems, rest, m, _, rfl, _, _, hl, hm, hlen, hel, _, _⟩
        · exact ⟨[.sc (.slice none 0 0)], by simp [TRl, TR, oneCell], by simp [FitL, Fit]⟩
        · exact ⟨[.sc (.slice (some a) len cap)], by simp [TRl, TR, oneCell], by simp [FitL, Fit]⟩
      simp only [Option.bind_eq_some_iff] at h
      obtain ⟨r, h1, h2⟩ := h
      split at h2
      · rename_i hr
        injection h2 with h2; subst h2
        rcases DataW.trod_slice hk hx with ⟨rfl, _⟩ | ⟨a, len, cap, elems, rest, m, _, rfl, _, _, hl, hm, hlen, hel, _, _⟩
        · refine ⟨[.sl []], ?_, by simp only [FitL, Fit]; exact ⟨⟨[], rfl, by simp [maxLen], by simp⟩, trivial⟩⟩
          simp only [TRl, TR]
          exact ⟨.inl ⟨trivial, none, 0, rfl, fun _ => rfl⟩, trivial⟩
        · have each : ∀ i, i < len → ∃ csi y, w.cells? 0 (a.add (i * P.cellsOf e)) (P.cellsOf e) = some csi ∧ DataW.trod enc P w 0 sp held m e csi = some y := by
            intro i hi
            have h3 := hel i hi
            rw [List.getElem?_eq_getElem (by omega), Option.bind_eq_some_iff] at h3
            obtain ⟨csi, h4, h5⟩ := h3
            exact ⟨csi, _, h4, h5⟩
          by_cases h0 : len = 0
          · subst h0
            refine ⟨[.sl []], ?_, by simp only [FitL, Fit]; exact ⟨⟨[], rfl, by simp [maxLen], by simp⟩, trivial⟩⟩
            simp only [TRl, TR]
            exact ⟨.inl ⟨trivial, some a, cap, rfl, fun h => by cases h⟩, trivial⟩
          · obtain ⟨cs0, y0, c0, _⟩ := each 0 (by omega)
            obtain ⟨_, c1, c2⟩ := World.cells?_some c0
            have c3 := c2 0 (by omega)
            rw [List.getElem?_eq_getElem (by omega)] at c3
            have c4 := spot_none c3
            simp only [Nat.zero_mul, Addr.add, if_true] at c4
            obtain ⟨b, off, s⟩ := a
            simp only at c4
            obtain ⟨rfl, hb⟩ := c4
            have rows : ∀ m j, j + m = len → ∃ rows : List (List Tree), rows.length = m ∧ TRows w (Here w) rows b (off + j * P.cellsOf e) (P.cellsOf e) ∧ ∀ x ∈ rows, FitL r x := by
              intro m
              induction m with
              | zero => intro j _; exact ⟨[], rfl, by simp [TRows], by simp⟩
              | succ m ih =>
                intro j hj
                obtain ⟨rows, g1, g2, g3⟩ := ih (j + 1) (by omega)
                obtain ⟨csj, y, g4, g5⟩ := each j (by omega)
                obtain ⟨ts, g6, g7⟩ := read_cells n e r h1 _ _ _ g5
                obtain ⟨_, g8, g9⟩ := World.cells?_some g4
                refine ⟨ts :: rows, by simp [g1], ?_, fun x hx => ?_⟩
                · simp only [TRows]
                  refine ⟨(TRl.length _ _ g6).trans g8, TRow_of _ _ _ _ g6 fun i hi => ?_, ?_⟩
                  · rw [← g9 i (by omega), addr_add, addr_add]
                  · rw [show off + j * P.cellsOf e + P.cellsOf e = off + (j + 1) * P.cellsOf e by rw [Nat.add_mul]; omega]
                    exact g2
                · rcases List.mem_cons.1 hx with rfl | hx
                  · exact g7
                  · exact g3 x hx
            obtain ⟨rows, g1, g2, g3⟩ := rows len 0 (by omega)
            refine ⟨[.sl rows], ?_, by simp only [FitL, Fit]; exact ⟨⟨rows, rfl, by omega, g3⟩, trivial⟩⟩
            simp only [TRl, TR]
            exact ⟨.inr ⟨b, off, cap, P.cellsOf e, by rw [g1], by omega, hb, by simpa using g2⟩, trivial⟩
      · cases h2
    · rename_i fs hk
      simp only [Option.bind_eq_some_iff] at h
      obtain ⟨r, h1, h2⟩ := h
      split at h2
      · rename_i hr
        injection h2 with h2; subst h2
        obtain ⟨xs, m, _, _, hl, hxs, hf⟩ := DataW.trod_struct hk hx
        obtain ⟨ts, g1, g2⟩ := read_fields m cs (shp P cut n) (fun t sh hsh cs x hx => read_cells n t sh hsh m cs x hx) fs.toList 0 r h1 (fun f hf' => by
          obtain ⟨i, hi⟩ := List.getElem?_of_mem hf'
          have hi' : fs[i]? = some f := by simpa using hi
          have := hf i f hi'
          rw [List.getElem?_eq_getElem (by have := (Array.getElem?_eq_some_iff.1 hi').1; omega)] at this
          exact ⟨_, this⟩)
        refine ⟨ts, ?_, g2⟩
        rw [List.drop_zero, List.take_of_length_le (by omega)] at g1
        exact g1
      · cases h2
    · rename_i m e hk
      simp only [Option.bind_eq_some_iff] at h
      obtain ⟨r, h1, h2⟩ := h
      split at h2
      · rename_i hr
        injection h2 with h2; subst h2
        obtain ⟨xs, q, _, _, hl, hxs, hf⟩ := DataW.trod_array hk hx
        have part : ∀ i j, j + i = m → ∃ ts, TRl w (Here w) ts (cs.drop (j * P.cellsOf e)) ∧ FitL (List.replicate i r).flatten ts := by
          intro i
          induction i with
          | zero =>
            intro j hj
            refine ⟨[], ?_, by simp [FitL]⟩
            have : j = m := by omega
            subst this
            rw [List.drop_of_length_le (by rw [hl, ← hr.2, ← hr.1]; omega)]
            simp [TRl]
          | succ i ih =>
            intro j hj
            obtain ⟨ts, g1, g2⟩ := ih (j + 1) (by omega)
            have := hf j (by omega)
            rw [List.getElem?_eq_getElem (by omega)] at this
            obtain ⟨ts0, g3, g4⟩ := read_cells n e r h1 _ _ _ this
            refine ⟨ts0 ++ ts, ?_, ?_⟩
            · have := TRl.append _ _ g3 g1
              rw [show (j + 1) * P.cellsOf e = j * P.cellsOf e + P.cellsOf e by rw [Nat.add_mul]; omega, ← List.drop_drop, List.take_append_drop] at this
              exact this
            · rw [List.replicate_succ, List.flatten_cons]
              exact FitL.append _ _ g4 g2
        obtain ⟨ts, g1, g2⟩ := part m 0 (by omega)
        exact ⟨ts, by simpa using g1, g2⟩
      · cases h2
    · cases h

/-- The shape of a value. -/
inductive VS where
  | one (c : CS)
  | agg (cs : List CS)

def vshp (P : Program) (cut : List TypeId) (t : TypeId) : Option VS :=
  (shp P cut 12 t).bind fun sh => match P.underlying t with
    | some (.struct _) | some (.array _ _) => some (.agg sh)
    | _ => match sh with
      | [c] => some (.one c)
      | _ => none

def FitV : VS → TV → Prop
  | .one c, x => ∃ y, x = .s y ∧ Fit c y
  | .agg cs, x => ∃ ys, x = .a ys ∧ FitL cs ys

def FitVs : List VS → List TV → Prop
  | [], [] => True
  | s :: ss, x :: xs => FitV s x ∧ FitVs ss xs
  | _, _ => False

theorem read_arg {cut : List TypeId} {t : TypeId} {s : VS} {v : Value} {d : DataW H} {ps : List MemPlace} {b0 : Nat} (hs : vshp P cut t = some s) (hval : Value.okWide P w .any b0 t v) (hd : DataW.Trod enc P w 0 sp held t v d ps) :
    ∃ x, TVR w (Here w) x v ∧ FitV s x := by
  obtain ⟨fuel, hf⟩ := hd
  simp only [vshp, Option.bind_eq_some_iff] at hs
  obtain ⟨sh, h1, h2⟩ := hs
  obtain ⟨ts, g1, g2⟩ := read_cells 12 t sh h1 _ _ _ hf
  have hag : ∀ cs : Array Value, v = .agg cs → s = .agg sh → ∃ x, TVR w (Here w) x v ∧ FitV s x := by
    rintro cs rfl rfl
    exact ⟨.a ts, ⟨cs, rfl, by simpa [Value.cells] using g1⟩, ts, rfl, g2⟩
  unfold Value.okWide at hval
  split at h2
  · rename_i hu
    injection h2 with h2
    rw [hu] at hval
    obtain ⟨cs, rfl, _⟩ := hval
    exact hag cs rfl h2.symm
  · rename_i hu
    injection h2 with h2
    rw [hu] at hval
    obtain ⟨cs, rfl, _⟩ := hval
    exact hag cs rfl h2.symm
  · rename_i hu1 hu2
    split at h2
    · rename_i c
      injection h2 with h2; subst h2
      have hone : v.cells.toList = [v] := by
        cases hu : P.underlying t with
        | none => rw [hu] at hval; simp [Cell.okWide, Cell.ok, hu] at hval
        | some d =>
          rw [hu] at hval
          cases v <;> first | rfl | (exfalso; revert hval; cases d <;> simp_all [Cell.okWide, Cell.ok])
      rw [hone] at g1
      match ts, g1, g2 with
      | [y], g1, g2 =>
        simp only [FitL] at g2
        exact ⟨.s y, g1.1, y, rfl, g2.1⟩
      | [], g1, _ => exact g1.elim
      | _ :: _ :: _, g1, _ => exact g1.2.elim
    · cases h2

theorem read_args {cut : List TypeId} : ∀ {ts : List TypeId} {ss : List VS} {vs : List Value} {ds : List (DataW H)} {ps : List MemPlace} {b0 : Nat}, ts.mapM (vshp P cut) = some ss →
    (∀ (j : Nat) t v, ts[j]? = some t → vs[j]? = some v → Value.okWide P w .any b0 t v) → DataW.TrodAll enc P w 0 sp held ts vs ds ps → ∃ xs, TVRs w (Here w) xs vs ∧ FitVs ss xs
  | [], ss, vs, ds, ps, b0, hs, _, hd => by
    obtain ⟨rfl, rfl, rfl⟩ := trodAll_nil hd
    simp only [List.mapM_nil, Option.pure_def, Option.some.injEq] at hs
    subst hs
    exact ⟨[], trivial, trivial⟩
  | t :: ts, ss, vs, ds, ps, b0, hs, hval, hd => by
    obtain ⟨v, vs', d, ds', p, q, rfl, rfl, rfl, h0, r0⟩ := trodAll_cons hd
    simp only [List.mapM_cons, Option.bind_eq_bind, Option.bind_eq_some_iff, Option.pure_def, Option.some.injEq] at hs
    obtain ⟨s, h1, ss', h2, rfl⟩ := hs
    obtain ⟨x, g1, g2⟩ := read_arg h1 (hval 0 t v rfl rfl) h0
    obtain ⟨xs, g3, g4⟩ := read_args h2 (fun j t v h h' => hval (j + 1) t v h h') r0
    exact ⟨x :: xs, ⟨g1, g3⟩, g2, g4⟩

theorem VRl_of_TVRs {β : Nat → Option Blk} {I : Nat → Prop} : ∀ (xs : List TV) (vs : List Value), TVRs w I xs vs → VRl P β w I (xs.map TV.av) vs
  | [], [], _ => by simp [VRl]
  | x :: xs, v :: vs, h => by
    simp only [List.map_cons, VRl]
    refine ⟨?_, VRl_of_TVRs xs vs h.2⟩
    have h1 := h.1
    cases x with
    | s y => simp only [TV.av, VR]; exact h1
    | a cs =>
      obtain ⟨us, rfl, h2⟩ := h1
      simp only [TV.av, VR]
      refine ⟨us, rfl, ?_⟩
      have : ∀ (cs : List Tree) (us : List Value), TRl w I cs us → VRl P β w I (cs.map AV.t) us := by
        intro cs
        induction cs with
        | nil => intro us h; cases us <;> first | (simp [VRl]; done) | exact h.elim
        | cons c cs ih => intro us h; cases us with
          | nil => exact h.elim
          | cons u us => simp only [List.map_cons, VRl, VR]; exact ⟨h.1, ih us h.2⟩
      exact this cs us.toList h2
  | [], _ :: _, h => h.elim
  | _ :: _, [], h => h.elim
end
end Go.Gb

namespace Go.Gb
open Go.RowKit Go.WideShapes Go.ChangeShapes

section
variable {H : Type} {enc : TypeId × Value → H} {P : Program}
theorem post_below {f : Func} {s : ChangeSpec} {apart fresh handsOn again : Bool} {W W' : World} {args : Array Value} {v : Value} {ds gs : List (DataW H)} {before pa pv : List MemPlace}
    (hW : DataW.Whole enc P f.params.toList s.vars apart W args.toList ds gs before)
    (hres : ∀ (b : Nat) (sp : Nat → Bool) (hd : Bool), DataW.TrodAll enc P W' b sp hd f.resultTypes.toList (v.resultList f.resultTypes.size) (s.fn H (ds ++ gs)).results [])
    (hargs : ∀ sp : Nat → Bool, (∀ p ∈ before, sp p.block = true) → DataW.TrodAll enc P W' 0 sp true f.params.toList args.toList (s.fn H (ds ++ gs)).args pa)
    (hvars : ∀ sp : Nat → Bool, (∀ p ∈ before, sp p.block = true) → DataW.TrodVars enc P W' sp s.vars (s.fn H (ds ++ gs)).vars pv)
    (hps : before = pa ++ pv) (hb : Below W.heap.size W W')
    (hok : ∀ (j : Nat) (t : TypeId) (r : Value), f.resultTypes[j]? = some t → (v.resultList f.resultTypes.size)[j]? = some r → Value.okWide P W' .any 0 t r) :
    s.post enc P f apart fresh handsOn again W args v W' := by
  have hlt : ∀ p ∈ before, p.block < W.heap.size := fun p hp => hW.lt p hp
  have hold : ∀ p ∈ before, (fun b => decide (b < W.heap.size)) p.block = true := fun p hp => by simpa using hlt p hp
  refine ⟨ds, gs, before, [], pa, pv, hW, hres _ _ _, hargs _ hold, hvars _ hold, World.keptBut_mono (fun p hp => ⟨hp, ?_⟩) (hb.frame (· ∈ before)), fun _ => ?_⟩
  · rw [hps, List.mem_append] at hp
    exact Or.inr hp
  · obtain ⟨_, _, _, _, _, hz, hn⟩ := hW
    refine ⟨hok, _, _, ([] ++ pa) ++ pv, ⟨[] ++ pa, pv, trodAll_append (hargs _ (fun _ _ => rfl)) (hres _ _ _), hvars _ (fun _ _ => rfl), rfl, ?_, ?_⟩, ?_⟩
    · intro b off hp
      have hin : MemPlace.cell b off ∈ before := by rw [hps]; simpa using hp
      rw [hb.frozen (hlt _ hin)]
      exact hz b off hin
    · intro ha
      have := hn ha
      rw [hps] at this
      simpa using this
    · intro p hp _
      rw [hps]
      simpa using hp

/-- What the arguments read as, they read as behind the call. -/
theorem trodAll_below (hl : laidOutB P = true) {W W' : World} (hb : Below W.heap.size W W') : ∀ {ts : List TypeId} {vs : List Value} {ds : List (DataW H)} {ps : List MemPlace}, (∀ t ∈ ts, P.readableRec t = true ∧ t < P.types.size) →
    DataW.TrodAll enc P W 0 (fun _ => true) true ts vs ds ps → (∀ x ∈ ps, x.block < W.heap.size) → ∀ sp : Nat → Bool, (∀ p ∈ ps, sp p.block = true) → DataW.TrodAll enc P W' 0 sp true ts vs ds ps
  | [], vs, ds, ps, _, hd, _, sp, _ => by
    obtain ⟨rfl, rfl, rfl⟩ := trodAll_nil hd
    exact trodAll_mk0
  | t :: ts, vs, ds, ps, ht, hd, hlt, sp, hsp => by
    obtain ⟨v, vs', d, ds', p, q, rfl, rfl, rfl, h0, r0⟩ := trodAll_cons hd
    obtain ⟨h1, h2⟩ := ht t (by simp)
    exact trodAll_cons_mk (WideElems.Trod_stays hl h1 h2 h0 (fun x hx => hb.same (hlt x (by simp [hx]))) (fun x hx => hsp x (by simp [hx])))
      (trodAll_below hl hb (fun t ht' => ht t (by simp [ht'])) r0 (fun x hx => hlt x (by simp [hx])) sp (fun x hx => hsp x (by simp [hx])))

theorem trodAll_len {w : World} {base : Nat} {sp : Nat → Bool} {held : Bool} : ∀ {ts : List TypeId} {vs : List Value} {ds : List (DataW H)} {ps : List MemPlace}, DataW.TrodAll enc P w base sp held ts vs ds ps → ds.length = ts.length
  | [], _, _, _, h => by
    obtain ⟨_, rfl, _⟩ := trodAll_nil h
    rfl
  | _ :: _, _, _, _, h => by
    obtain ⟨_, _, _, _, _, _, _, rfl, _, _, h2⟩ := trodAll_cons h
    simp [trodAll_len h2]

/-- The row's contract out of the law's. -/
theorem row_contract {cut : List TypeId} {C : Checked} {f : FuncId} {fn : Func} {s : ChangeSpec} {ss : List VS} {tb : TypeId} (hl : laidOutB C.prog = true) (hread : (fn.params.toList.all fun t => C.prog.readableRec t && decide (t < C.prog.types.size)) = true)
    (hss : fn.params.toList.mapM (vshp C.prog cut) = some ss) (hvars : s.vars = []) (hres : fn.resultTypes = #[tb]) (hb : C.prog.underlying tb = some .bool)
    (hs : ∀ ds : List (DataW H), ds.length = fn.params.toList.length → s.fn H ds = { results := [.lit (.bool true)], args := ds })
    (hlaw : ∀ xs, FitVs ss xs → FnP C.prog f (xs.map TV.av) (.one (.d (.s (.sc (.bool true))))))
    {W : World} {base : Nat} {args : Array Value} {ds gs : List (DataW H)} {before : List MemPlace}
    (hval : ∀ (j : Nat) t v, fn.params[j]? = some t → args[j]? = some v → Value.okWide C.prog W .any base t v)
    (hW : DataW.Whole enc C.prog fn.params.toList s.vars false W args.toList ds gs before) :
    Calls C.prog f args W fun e W' => ∃ v, e = .returned v ∧ s.post enc C.prog fn false true false false W args v W' := by
  have hW' := hW
  obtain ⟨p, q, hA, hV, rfl, _, _⟩ := hW
  rw [hvars] at hV
  obtain ⟨rfl, rfl⟩ := trodVars_none hV
  obtain ⟨xs, g1, g2⟩ := read_args hss (fun j t v h1 h2 => hval j t v (by simpa using h1) (by simpa using h2)) hA
  have hlen := trodAll_len hA
  simp only [List.append_nil] at hW'
  have hlt : ∀ x ∈ p, x.block < W.heap.size := fun x hx => hW'.lt x hx
  refine ((hlaw xs g2).2 W (Here W) args (fun _ h => h) (VRl_of_TVRs _ _ g1)).mono fun e W' ⟨v, I', he, hbel, _, _, _, hr⟩ => ⟨v, he, ?_⟩
  simp only [RVR, RCR, TVR, TR] at hr
  obtain ⟨rfl, _⟩ := hr
  have hfn : s.fn H (ds ++ []) = { results := [.lit (.bool true)], args := ds } := by rw [List.append_nil]; exact hs ds hlen
  refine post_below (pa := p) (pv := []) hW' (fun b sp hd => ?_) (fun sp hsp => ?_) (fun sp _ => ?_) (by simp) hbel (ok_one (by rw [hres]) rfl (okWide_bool_mk hb _))
  · rw [hfn, hres]
    exact trodAll_mk1 (shut_bool hb _)
  · rw [hfn]
    refine trodAll_below hl hbel (fun t ht => ?_) hA hlt sp hsp
    have := List.all_eq_true.1 hread t ht
    simpa using this
  · rw [hfn, hvars]
    rfl
end

/-! ### A table of types, asked of the program -/
def kOkB : TyK → TypeDesc → Bool
  | .slice e, .slice e' => e == e'
  | .arr n e, .array n' e' => n == n' && e == e'
  | .struct fs, .struct fa => fa.toList.map (fun f => (f.offset, f.type)) == fs
  | .bool, .bool => true
  | .str, .string => true
  | .int k, .int k' => k == k'
  | .other, _ => true
  | _, _ => false

/-- One plain value against another. -/
def valEq : Value → Value → Bool
  | .int k a, .int k' b => k == k' && a == b
  | .bool a, .bool b => a == b
  | .string a, .string b => decide (a = b)
  | .slice none 0 0, .slice none 0 0 => true
  | .pointer none, .pointer none => true
  | .nilFunc, .nilFunc => true
  | .nilIface, .nilIface => true
  | .map none, .map none => true
  | _, _ => false

theorem valEq_sound {a b : Value} (h : valEq a b = true) : a = b := by
  unfold valEq at h
  split at h <;> simp_all

def valEqs : List Value → List Value → Bool
  | [], [] => true
  | a :: as, b :: bs => valEq a b && valEqs as bs
  | _, _ => false

theorem valEqs_sound : ∀ {a b : List Value}, valEqs a b = true → a = b
  | [], [], _ => rfl
  | a :: as, b :: bs, h => by simp only [valEqs, Bool.and_eq_true] at h; rw [valEq_sound h.1, valEqs_sound h.2]
  | [], _ :: _, h => by simp [valEqs] at h
  | _ :: _, [], h => by simp [valEqs] at h

def tyOkB (P : Program) (t : TypeId) (ti : TyI) : Bool :=
  match P.info? t, P.underlying t with
  | some info, some d => match info.zero with
    | some z => info.size == ti.size && info.bytes == ti.bytes && isAggD d == ti.agg && kOkB ti.k d && ti.zero.all oneCellB && ti.zero.length == ti.size &&
      (ti.cmp.isEmpty || match d with
        | .struct fa => !P.stoodInHeld t && !P.eqGuardType P.depth t && cmpFields P 0 fa.toList ti.cmp
        | _ => false) && valEqs z.cells.toList ti.zero
    | none => false
  | _, _ => false

theorem kOkB_sound {k : TyK} {d : TypeDesc} (h : kOkB k d = true) : kOk k d := by
  unfold kOkB at h
  split at h
  · simp only [beq_iff_eq] at h; subst h; rfl
  · simp only [Bool.and_eq_true, beq_iff_eq] at h; obtain ⟨rfl, rfl⟩ := h; rfl
  · rename_i fs fa
    exact ⟨fa, rfl, by simpa using h⟩
  · rfl
  · rfl
  · simp only [beq_iff_eq] at h; subst h; rfl
  · trivial
  · cases h

theorem tyOkB_sound {P : Program} {t : TypeId} {ti : TyI} (h : tyOkB P t ti = true) : TyOk P t ti := by
  unfold tyOkB at h
  split at h
  · rename_i info d h1 h2
    split at h
    · rename_i z h3
      simp only [Bool.and_eq_true, beq_iff_eq] at h
      obtain ⟨⟨⟨⟨⟨⟨⟨a1, a2⟩, a3⟩, a4⟩, a5⟩, a6⟩, a7⟩, a8⟩ := h
      refine ⟨⟨info, d, z, h1, h2, a1, a2, h3, valEqs_sound a8, a3, kOkB_sound a4⟩, a5, a6, fun hne => ?_⟩
      simp only [Bool.or_eq_true] at a7
      rcases a7 with a7 | a7
      · exact absurd (List.isEmpty_iff.1 a7) hne
      · split at a7
        · rename_i fa
          simp only [Bool.and_eq_true, Bool.not_eq_true'] at a7
          exact ⟨fa, h2, a7.1.1, a7.1.2, a7.2⟩
        · cases a7
    · cases h
  · cases h

/-- A table as a list. -/
def tabOf (l : List (TypeId × TyI)) : Tab := fun t => (l.find? fun p => p.1 == t).map (·.2)

theorem tabOk_of {P : Program} {l : List (TypeId × TyI)} (h : (l.all fun p => tyOkB P p.1 p.2) = true) : TabOk P (tabOf l) := by
  intro t ti ht
  simp only [tabOf, Option.map_eq_some_iff] at ht
  obtain ⟨p, hp, rfl⟩ := ht
  have h1 := List.find?_some hp
  simp only [beq_iff_eq] at h1
  subst h1
  exact tyOkB_sound (List.all_eq_true.1 h p (List.mem_of_find?_eq_some hp))
end Go.Gb

namespace Go.Gb
open Go.RowKit

/-- Types of data: in one cell, or a structure. -/
inductive CT (ι : Type) where
  | int (k : IntKind)
  | bool
  | str
  | sl (e : CT ι)
  | st (i : ι)
  | any
  deriving DecidableEq

/-- A seat's structures, as Lean types. -/
structure SE where
  ι : Type
  dec : DecidableEq ι
  T : ι → Type
  row : (i : ι) → T i → List Tree

instance (E : SE) : DecidableEq E.ι := E.dec

section
variable (E : SE)
@[reducible] def CT.T : CT E.ι → Type
  | .int _ => Int
  | .bool => Bool
  | .str => ByteArray
  | .sl e => List (CT.T e)
  | .st i => E.T i
  | .any => Tree

/-- Its cells. -/
def CT.row : (c : CT E.ι) → CT.T E c → List Tree
  | .int k, n => [.sc (.int k n)]
  | .bool, b => [.sc (.bool b)]
  | .str, s => [.sc (.string s)]
  | .sl e, l => [.sl (List.map (CT.row e) l)]
  | .st i, x => E.row i x
  | .any, x => [x]

def CT.one {ι : Type} : CT ι → Bool
  | .st _ => false
  | _ => true

/-- As a value. -/
def CT.tv : (c : CT E.ι) → CT.T E c → TV
  | .int k, n => .s (.sc (.int k n))
  | .bool, b => .s (.sc (.bool b))
  | .str, s => .s (.sc (.string s))
  | .sl e, l => .s (.sl (List.map (CT.row E e) l))
  | .st i, x => .a (E.row i x)
  | .any, x => .s x

/-- Some data. -/
def HL : List (CT E.ι) → Type
  | [] => Unit
  | c :: l => CT.T E c × HL l

def HL.row : (l : List (CT E.ι)) → HL E l → List Tree
  | [], _ => []
  | c :: l, h => CT.row E c h.1 ++ HL.row l h.2

def HL.tvs : (l : List (CT E.ι)) → HL E l → List TV
  | [], _ => []
  | c :: l, h => CT.tv E c h.1 :: HL.tvs l h.2
end

/-- How the structures lie in cells. -/
structure SX extends SE where
  tys : ι → List (CT ι)
  get : (i : ι) → T i → HL toSE (tys i)
  make : (i : ι) → HL toSE (tys i) → T i
  row_get : ∀ i x, row i x = HL.row toSE (tys i) (get i x)
  row_make : ∀ i h, row i (make i h) = HL.row toSE (tys i) h
  flat : ∀ i, (tys i).all CT.one = true

section
variable (X : SX)

abbrev SX.C := CT X.ι
abbrev SX.t (c : CT X.ι) : Type := CT.T X.toSE c

def CT.sz : CT X.ι → Nat
  | .st i => (X.tys i).length
  | _ => 1

inductive DV where
  | c (t : CT X.ι) (x : CT.T X.toSE t)
  | agg (cs : List DV)
  | tup (vs : List DV)
  | own (k off len : Nat)
  | ptr (k row off : Nat)
  | ptl (k : Nat) (n : Int) (off : Nat)
  | pta (k row off m : Nat) (n : Int)
  | rp (t : CT X.ι) (x : CT.T X.toSE t) (off : Nat)
  | fn (f : FuncId) (first caps : List DV)
  | clo (as : List (CT X.ι)) (r : CT X.ι) (φ : HL X.toSE as → Option (CT.T X.toSE r))
  | raw (v : Value)
  | nil
  | ub
  | skip
  | undef

inductive DObj where
  | cells (sz : Nat) (rows : List (List (DV X)))
  | lst (c : CT X.ι) (l : List (CT.T X.toSE c))

structure DSt where
  env : List (Nat × DV X)
  obj : List (Nat × Option (DObj X))
  nx : Nat
  log : List Nat

variable {X}
mutual
def den : DV X → AV
  | .c t x => (CT.tv X.toSE t x).av
  | .agg cs => .agg (denL cs)
  | .tup vs => .tup (denL vs)
  | .own k off len => .own k off len
  | .ptr k row off => .ptr k row off
  | .ptl k n off => .ptr k n.toNat off
  | .pta k row off _ n => .ptr k row (off + n.toNat)
  | .rp t x off => .rptr (CT.row X.toSE t x) off
  | .fn f first caps => .fn f (denL first) (denL caps)
  | .clo as r φ => .clo fun ts u => ∃ h x, φ h = some x ∧ ts = HL.tvs X.toSE as h ∧ u = CT.tv X.toSE r x
  | .raw v => cv v
  | .nil => .nilsl
  | .ub => .ub
  | .skip => .undef
  | .undef => .undef
def denL : List (DV X) → List AV
  | [] => []
  | x :: xs => den x :: denL xs
end

theorem denL_map : ∀ l : List (DV X), denL l = l.map den
  | [] => rfl
  | x :: xs => by simp only [denL, List.map_cons, denL_map xs]

def denO : DObj X → AObj
  | .cells sz rows => ⟨sz, rows.map denL⟩
  | .lst c l => ⟨CT.sz X c, avRows (l.map (CT.row X.toSE c))⟩

def denU (u : List (Nat × Option (DObj X))) : List (Nat × Option AObj) := u.map fun p => (p.1, p.2.map denO)

def lko (o : List (Nat × Option (DObj X))) (k : Nat) : Option (DObj X) := (lk o k).join
def lke (e : List (Nat × DV X)) (t : Nat) : DV X := (lk e t).getD .undef

def DSt.st (s : DSt X) : St := ⟨fun t => den (lke s.env t), fun k => (lko s.obj k).map denO, fun _ => none⟩

/-- A datum of one code, read as of another. -/
def castC (a b : CT X.ι) (x : CT.T X.toSE a) : Option (CT.T X.toSE b) :=
  match decEq a b with
  | isTrue h => some (h ▸ x)
  | isFalse _ => none

theorem castC_some {a b : CT X.ι} {x : CT.T X.toSE a} {y : CT.T X.toSE b} (h : castC a b x = some y) : ∃ e : a = b, y = e ▸ x := by
  unfold castC at h
  split at h
  · rename_i e _
    injection h with h
    exact ⟨e, h.symm⟩
  · cases h

/-- The cells of some data. -/
def HL.cells : (l : List (CT X.ι)) → HL X.toSE l → List (DV X)
  | [], _ => []
  | c :: l, h => .c c h.1 :: HL.cells l h.2

theorem row_one {c : CT X.ι} (h : c.one = true) (x : CT.T X.toSE c) : ∃ t, CT.row X.toSE c x = [t] ∧ CT.tv X.toSE c x = .s t := by
  cases c <;> first | exact ⟨_, rfl, rfl⟩ | cases h

theorem HL.cells_den : ∀ (l : List (CT X.ι)) (h : HL X.toSE l), l.all CT.one = true → denL (HL.cells l h) = (HL.row X.toSE l h).map AV.t
  | [], _, _ => rfl
  | c :: l, h, ha => by
    simp only [List.all_cons, Bool.and_eq_true] at ha
    obtain ⟨t, h1, h2⟩ := row_one ha.1 h.1
    simp only [HL.cells, denL, den, HL.row, h1, h2, TV.av, HL.cells_den l h.2 ha.2, List.cons_append, List.nil_append, List.map_cons]

theorem HL.row_length : ∀ (l : List (CT X.ι)) (h : HL X.toSE l), l.all CT.one = true → (HL.row X.toSE l h).length = l.length
  | [], _, _ => rfl
  | c :: l, h, ha => by
    simp only [List.all_cons, Bool.and_eq_true] at ha
    obtain ⟨t, h1, _⟩ := row_one ha.1 h.1
    simp only [HL.row, h1, List.cons_append, List.nil_append, List.length_cons, HL.row_length l h.2 ha.2]

theorem row_sz (c : CT X.ι) (x : CT.T X.toSE c) : (CT.row X.toSE c x).length = CT.sz X c := by
  cases c <;> try rfl
  rename_i i
  exact (congrArg List.length (X.row_get i x)).trans (HL.row_length _ _ (X.flat i))

/-- A struct's cells, one by one. -/
def cellsC : (c : CT X.ι) → CT.T X.toSE c → List (DV X)
  | .st i, x => HL.cells (X.tys i) (X.get i x)
  | c, x => [.c c x]

theorem cellsC_den (c : CT X.ι) (x : CT.T X.toSE c) : denL (cellsC c x) = (CT.row X.toSE c x).map AV.t := by
  cases c <;> try rfl
  rename_i i
  exact (HL.cells_den _ _ (X.flat i)).trans (congrArg (List.map AV.t) (X.row_get i x).symm)

def cellOkD : DV X → Bool
  | .agg _ | .tup _ | .undef | .skip | .raw _ | .c (.st _) _ => false
  | _ => true

theorem cellOkD_den {x : DV X} (h : cellOkD x = true) : cellOk (den x) = true := by
  cases x <;> try rfl
  case c t x => cases t <;> first | rfl | simp [cellOkD] at h
  all_goals simp [cellOkD] at h

def cellsD : DV X → Option (List (DV X))
  | .agg cs => if cs.all cellOkD then some cs else none
  | .c (.st i) x => some (cellsC (.st i) x)
  | .tup _ | .undef | .skip | .raw _ => none
  | x => some [x]

theorem HL.cells_ok : ∀ (l : List (CT X.ι)) (h : HL X.toSE l), l.all CT.one = true → (HL.cells l h).all cellOkD = true
  | [], _, _ => rfl
  | c :: l, h, ha => by
    simp only [List.all_cons, Bool.and_eq_true] at ha
    simp only [HL.cells, List.all_cons, Bool.and_eq_true, HL.cells_ok l h.2 ha.2, and_true]
    cases c <;> first | rfl | simp [CT.one] at ha

theorem all_den {l : List (DV X)} (h : l.all cellOkD = true) : (denL l).all cellOk = true := by
  rw [denL_map, List.all_map, List.all_eq_true]
  exact fun x hx => cellOkD_den (List.all_eq_true.1 h x hx)

theorem cellsD_den {x : DV X} {cs : List (DV X)} (h : cellsD x = some cs) : cellsOf (den x) = some (denL cs) := by
  cases x
  case c t x =>
    cases t
    case st i =>
      simp only [cellsD, Option.some.injEq] at h
      subst h
      simp only [den, CT.tv, TV.av, cellsOf, cellsC_den]
      show (if ((X.row i x).map AV.t).all cellOk then some ((X.row i x).map AV.t) else none) = some ((X.row i x).map AV.t)
      rw [if_pos]
      rw [List.all_map, List.all_eq_true]
      exact fun _ _ => rfl
    all_goals simp only [cellsD, Option.some.injEq] at h; subst h; rfl
  case agg l =>
    simp only [cellsD] at h
    split at h
    · injection h with h
      subst h
      simp only [den, cellsOf]
      rw [if_pos (all_den ‹_›)]
    · cases h
  all_goals simp only [cellsD, Option.some.injEq, reduceCtorEq] at h; try (subst h; rfl)

/-- A constant. -/
def cvD : Value → DV X
  | .slice none 0 0 => .nil
  | .int k n => .c (.int k) n
  | .bool b => .c .bool b
  | .string s => .c .str s
  | v => .raw v

theorem cvD_den (v : Value) : den (cvD (X := X) v) = cv v := by
  unfold cvD
  split <;> rfl

theorem cvDs_den (l : List Value) : denL (l.map (cvD (X := X))) = l.map cv := by
  rw [denL_map, List.map_map]
  exact List.map_congr_left fun v _ => cvD_den v

def opvD (env : Nat → DV X) : Operand → DV X
  | .tmp t => env t
  | .const v => cvD v
  | .global _ => .undef
  | .func f => .fn f [] []

theorem opvD_den (env : Nat → DV X) (x : Operand) : den (opvD env x) = opv (fun t => den (env t)) x := by
  cases x <;> first | rfl | exact cvD_den _
end
end Go.Gb

namespace Go.Gb
open Go.RowKit

/-- An element of a list by a number. -/
def at? {α : Type} (l : List α) (n : Int) : Option α := bif decide (0 ≤ n) then l[n.toNat]? else none
/-- An element of a part of a list that begins at 'off'. -/
def atO {α : Type} (l : List α) (off : Nat) (n : Int) : Option α := bif decide (0 ≤ n) then l[off + n.toNat]? else none
def sub {α : Type} (l : List α) (off len : Nat) : List α := (l.drop off).take len
def inb (n : Int) (len : Nat) : Bool := decide (0 ≤ n) && decide (n < (len : Int))
def letv {α β : Type} (a : α) (f : α → β) : β := f a
/-- Whether n more can be appended to a slice of 'len' that ends its object of 'lo' rows. -/
def appOk (lo len ln n bytes : Nat) : Bool := decide (lo = len) && decide (ln = n) && decide ((len + n) * bytes ≤ 140737488355328) && decide (len + n ≤ maxLen)
def eqL (a b : Nat) : Bool := decide (a = b)
def slOk (l h : Int) (len : Nat) : Bool := decide (0 ≤ l) && decide (l ≤ h) && decide (h ≤ (len : Int))

abbrev iN (n : Int) : Int := n
abbrev bN (b : Bool) : Bool := b

def chkA {A : Type} : List Bool → Option A → Option A
  | [], k => k
  | c :: cs, k => bif c then chkA cs k else none

section
variable {X : SX} {A : Type}

abbrev KK (X : SX) (A : Type) := DV X → List (Nat × Option (DObj X)) → List Nat → List Nat → Option A

def pickD (t : Bool) (x y : DV X) : DV X :=
  match x, y with
  | .c a p, .c b q => match decEq b a with
    | isTrue h => .c a (bif t then p else h ▸ q)
    | isFalse _ => bif t then .c a p else .c b q
  | x, y => bif t then x else y

def partD (agg : Bool) (size : Nat) (cs : List (DV X)) : Option (DV X) :=
  if cs.length = size then (if agg then some (.agg cs) else match cs with | [x] => if cellOkD x then some x else none | _ => none) else none

/-- A part of a row of data, whole if it is all of it. -/
def partW (agg : Bool) (size : Nat) (c : CT X.ι) (y : CT.T X.toSE c) (off : Nat) : Option (DV X) :=
  match c, y with
  | .st i, y => if off = 0 ∧ agg = true ∧ size = (X.tys i).length then some (.c (.st i) y) else partD agg size (((cellsC (.st i) y).drop off).take size)
  | c, y => partD agg size (((cellsC c y).drop off).take size)

/-- A cell, read as data. -/
def dat1 (d : DV X) (c : CT X.ι) : Option (CT.T X.toSE c) :=
  match d, c with
  | .c a x, c => castC a c x
  | .nil, .sl _ => some []
  | .nil, .any => some (.sl [])
  | _, _ => none

def readHL : List (DV X) → (l : List (CT X.ι)) → Option (HL X.toSE l)
  | [], [] => some ()
  | d :: ds, c :: l => (dat1 d c).bind fun x => (readHL ds l).bind fun h => some (x, h)
  | _, _ => none

def datS (d : DV X) (i : X.ι) : Option (CT.T X.toSE (.st i)) :=
  match d with
  | .agg cs => (readHL cs (X.tys i)).bind fun h => some (X.make i h)
  | .c a x => castC a (.st i) x
  | _ => none

/-- A value, read as data. -/
def dat (d : DV X) (c : CT X.ι) : Option (CT.T X.toSE c) :=
  match c with
  | .st i => datS d i
  | c => dat1 d c

def mk1 (c : CT X.ι) : List (DV X) → Option (CT.T X.toSE c)
  | [d] => dat1 d c
  | _ => none

def mkRow (c : CT X.ι) (ds : List (DV X)) : Option (CT.T X.toSE c) :=
  match c with
  | .st i => (readHL ds (X.tys i)).bind fun h => some (X.make i h)
  | c => mk1 c ds

def putD (r : List (DV X)) (off : Nat) (cs : List (DV X)) : List (DV X) := r.take off ++ cs ++ r.drop (off + cs.length)

variable (T : Tab) (code : TypeId → Option (CT X.ι))

def ldD (t : TypeId) (x : DV X) (get : Nat → Option (DObj X)) (k : KK X A) : Option A :=
  (T t).bind fun ti => match x with
  | .ptr kk row off => (get kk).bind fun o => match o with
    | .cells _ rows => (rows[row]?).bind fun r => (partD ti.agg ti.size ((r.drop off).take ti.size)).bind fun v => k v [] [kk] []
    | _ => none
  | .ptl kk n off => (get kk).bind fun o => match o with
    | .lst c l => (at? l n).bind fun y => (partW ti.agg ti.size c y off).bind fun v => k v [] [kk] []
    | _ => none
  | .rp c y off => (partW ti.agg ti.size c y off).bind fun v => k v [] [] []
  | _ => none

def stD (t : TypeId) (x y : DV X) (get : Nat → Option (DObj X)) (k : KK X A) : Option A :=
  (T t).bind fun ti => (cellsD y).bind fun cs => if cs.length = ti.size then match x with
  | .ptr kk row off => (get kk).bind fun o => match o with
    | .cells sz rows => (rows[row]?).bind fun r => if off + cs.length ≤ r.length then k .undef [(kk, some (.cells sz (rows.set row (putD r off cs))))] [kk] [kk] else none
    | _ => none
  | .ptl kk n off => (get kk).bind fun o => match o with
    | .lst c l => (at? l n).bind fun y => if off + cs.length ≤ CT.sz X c then (mkRow c (putD (cellsC c y) off cs)).bind fun z => k .undef [(kk, some (.lst c (l.set n.toNat z)))] [kk] [kk] else none
    | _ => none
  | _ => none else none

def fieldAddrD (t : TypeId) (x : DV X) (f : Nat) (k : KK X A) : Option A :=
  (fieldOf T t f).bind fun p => match x with
  | .ptr kk row off => k (.ptr kk row (off + p.1)) [] [] []
  | .ptl kk n off => k (.ptl kk n (off + p.1)) [] [] []
  | .rp c y off => k (.rp c y (off + p.1)) [] [] []
  | _ => none

def fieldD (t : TypeId) (x : DV X) (f : Nat) (k : KK X A) : Option A :=
  (fieldOf T t f).bind fun p => match x with
  | .agg cs => (partD p.2.agg p.2.size ((cs.drop p.1).take p.2.size)).bind fun v => k v [] [] []
  | .c (.st i) y => (partD p.2.agg p.2.size (((cellsC (.st i) y).drop p.1).take p.2.size)).bind fun v => k v [] [] []
  | _ => none

def indexAddrD (t : TypeId) (x j : DV X) (get : Nat → Option (DObj X)) (k : KK X A) : Option A :=
  (T t).bind fun ti => match ti.k, j with
  | .slice e, .c (.int _) n => (T e).bind fun ei => match x with
    | .c (.sl c) l => if CT.sz X c = ei.size then (at? l n).bind fun y => k (.rp c y 0) [] [] [] else none
    | .own kk off len => (get kk).bind fun o => match o with
      | .lst c _ => if CT.sz X c = ei.size then bif inb n len then k (.ptl kk ((off : Int) + iN n) 0) [] [kk] [] else none else none
      | .cells sz _ => if sz = ei.size then bif inb n len then k (.ptr kk (off + n.toNat) 0) [] [kk] [] else none else none
    | _ => none
  | .arr m e, .c (.int _) n => (T e).bind fun ei => bif inb n m then match x with
    | .ptr kk row off => k (.ptr kk row (off + n.toNat * ei.size)) [] [] []
    | .ptl kk r off => k (.ptl kk r (off + n.toNat * ei.size)) [] [] []
    | .rp c y off => k (.rp c y (off + n.toNat * ei.size)) [] [] []
    | _ => none
    else none
  | _, _ => none

def extractD (x : DV X) (j : Nat) (k : KK X A) : Option A :=
  match x with
  | .tup vs => (vs[j]?).bind fun v => k v [] [] []
  | _ => none

/-- A number and what must hold for it. -/
def arithD (op : BinOp) (kd : IntKind) (a b : Int) : (DV X) × Option Bool :=
  match op with
  | .add => (.c (.int kd) (kd.wrap (a + b)), none)
  | .sub => (.c (.int kd) (kd.wrap (a - b)), none)
  | .mul => (.c (.int kd) (kd.wrap (a * b)), none)
  | .quo => (.c (.int kd) (kd.wrap (a.tdiv b)), some (b != 0))
  | .rem => (.c (.int kd) (a.tmod b), some (b != 0))
  | .and => (.c (.int kd) (bits .and kd a b), none)
  | .or => (.c (.int kd) (bits .or kd a b), none)
  | .xor => (.c (.int kd) (bits .xor kd a b), none)
  | .andNot => (.c (.int kd) (bits .andNot kd a b), none)
  | .shl => (.c (.int kd) (kd.wrap (a * 2 ^ b.toNat)), some (decide (0 ≤ b) && decide (b ≤ kd.bits)))
  | .shr => (.c (.int kd) (a / 2 ^ b.toNat), some (decide (0 ≤ b) && decide (b ≤ kd.bits)))
  | .eql => (.c .bool (a == b), none)
  | .neq => (.c .bool (a != b), none)
  | .lss => (.c .bool (decide (a < b)), none)
  | .leq => (.c .bool (decide (a ≤ b)), none)
  | .gtr => (.c .bool (decide (a > b)), none)
  | .geq => (.c .bool (decide (a ≥ b)), none)

def cellEqD : Nat → DV X → DV X → Option Bool
  | 0, .c (.int j) a, .c (.int k) b => if j = k then some (iN a == iN b) else none
  | 1, .c .bool a, .c .bool b => some (bN a == bN b)
  | 2, .c .str a, .c .str b => some (a.toList == b.toList)
  | _, _, _ => none
def cellsEqD : List Nat → List (DV X) → List (DV X) → Option Bool
  | [], [], [] => some true
  | k :: ks, x :: xs, y :: ys => (cellEqD k x y).bind fun a => (cellsEqD ks xs ys).bind fun b => some (a && b)
  | _, _, _ => none

def aggD : DV X → Option (List (DV X))
  | .agg cs => some cs
  | .c (.st i) y => some (cellsC (.st i) y)
  | _ => none

def binD (op : BinOp) (t : TypeId) (x y : DV X) (k : KK X A) : Option A :=
  match x, y with
  | .c (.int kd) a, .c (.int yk) b => if kd = yk ∨ op = .shl ∨ op = .shr then match (arithD op kd a b : DV X × Option Bool).2 with
      | none => k (arithD op kd a b).1 [] [] []
      | some g => bif g then k (arithD op kd a b).1 [] [] [] else none
    else none
  | .c .str a, .c .str b => match op with
    | .eql => k (.c .bool (a.toList == b.toList)) [] [] []
    | .neq => k (.c .bool (!(a.toList == b.toList))) [] [] []
    | _ => none
  | .c .bool a, .c .bool b => (T t).bind fun ti => match ti.k, op with
    | .bool, .eql => k (.c .bool (bN a == bN b)) [] [] []
    | .bool, .neq => k (.c .bool (!(bN a == bN b))) [] [] []
    | _, _ => none
  | x, y => (aggD x).bind fun xs => (aggD y).bind fun ys => (T t).bind fun ti => if ti.cmp = [] then none else (cellsEqD ti.cmp xs ys).bind fun b => match op with
    | .eql => k (.c .bool b) [] [] []
    | .neq => k (.c .bool (!b)) [] [] []
    | _ => none

def unD (op : UnOp) (x : DV X) (k : KK X A) : Option A :=
  match op, x with
  | .not, .c .bool b => k (.c .bool (!b)) [] [] []
  | .neg, .c (.int kd) n => k (.c (.int kd) (kd.wrap (0 - iN n))) [] [] []
  | _, _ => none

def foldMmD (mx : Bool) (kd : IntKind) : Int → List (DV X) → Option Int
  | a, [] => some a
  | a, .c (.int k') b :: r => if k' = kd then foldMmD mx kd (if mx then max a b else min a b) r else none
  | _, _ => none

def mmD (mx : Bool) (args : List (DV X)) (k : KK X A) : Option A :=
  match args with
  | .c (.int kd) a :: r => (foldMmD mx kd a r).bind fun n => k (.c (.int kd) n) [] [] []
  | _ => none

def lenD (t : TypeId) (x : DV X) (k : KK X A) : Option A :=
  (T t).bind fun ti => match ti.k, x with
  | .slice _, .c (.sl _) l => k (.c (.int .i64) (l.length : Int)) [] [] []
  | .slice _, .own _ _ len => k (.c (.int .i64) (len : Int)) [] [] []
  | .slice _, .nil => k (.c (.int .i64) (0 : Int)) [] [] []
  | .str, .c .str s => k (.c (.int .i64) (s.size : Int)) [] [] []
  | _, _ => none

def fillD (place : Nat → Option (Nat × Nat)) : List (DV X) → List (Nat × DV X) → Option (List (DV X))
  | cells, [] => some cells
  | cells, (j, x) :: rest => (place j).bind fun p => (cellsD x).bind fun cs =>
      if cs.length = p.2 ∧ p.1 + cs.length ≤ cells.length then fillD place (putD cells p.1 cs) rest else none

def buildD (t : TypeId) (parts : List (Nat × DV X)) (k : KK X A) : Option A :=
  (T t).bind fun ti => match ti.k with
  | .struct fs => if fs.all (fun p => (T p.2).isSome) then
      (fillD (fun j => (fs[j]?).bind fun p => (T p.2).bind fun ui => some (p.1, ui.size)) (ti.zero.map cvD) parts).bind fun cells => k (.agg cells) [] [] [] else none
  | .arr _ e => (T e).bind fun ei => (fillD (fun j => some (j * ei.size, ei.size)) (ti.zero.map cvD) parts).bind fun cells => k (.agg cells) [] [] []
  | _ => none

/-- The elements of a literal, all of them, in order. -/
def litD (c : CT X.ι) : Nat → List (Nat × DV X) → Option (List (CT.T X.toSE c))
  | _, [] => some []
  | n, (j, x) :: r => if j = n then (dat x c).bind fun y => (litD c (n + 1) r).bind fun l => some (y :: l) else none

def buildSliceD (i : Nat) (t : TypeId) (len : Nat) (parts : List (Nat × DV X)) (k : KK X A) : Option A :=
  (T t).bind fun ti => match ti.k with
  | .slice e => (T e).bind fun ei => (code e).bind fun c => if ei.size = 0 ∨ len * ei.size > 2 ^ 24 ∨ CT.sz X c ≠ ei.size ∨ parts.length ≠ len then none else
      (litD c 0 parts).bind fun l => k (.own (nid i) 0 len) [(nid i, some (.lst c l))] [] []
  | _ => none

def allocD (i : Nat) (e : TypeId) (k : KK X A) : Option A :=
  (T e).bind fun ti => k (.ptr (nid i) 0 0) [(nid i, some (.cells ti.size [ti.zero.map cvD]))] [] []

def boxD (i : Nat) (x : DV X) (k : KK X A) : Option A :=
  (cellsD x).bind fun cs => k (.ptr (nid i) 0 0) [(nid i, some (.cells cs.length [cs]))] [] []

def bndD (d : Int) : Option (DV X) → Option Int
  | none => some d
  | some (.c (.int _) n) => some n
  | _ => none

def sliceD (t : TypeId) (x : DV X) (lo hi : Option (DV X)) (get : Nat → Option (DObj X)) (k : KK X A) : Option A :=
  (T t).bind fun ti => match ti.k with
  | .slice e => (T e).bind fun ei => match x with
    | .own kk off len => (get kk).bind fun o => if (denO o).sz = ei.size then (bndD 0 lo).bind fun l => (bndD len hi).bind fun h =>
        bif slOk l h len then k (.own kk (off + l.toNat) (h.toNat - l.toNat)) [] [kk] [] else none else none
    | .c (.sl c) xs => if CT.sz X c = ei.size then (bndD 0 lo).bind fun l => (bndD xs.length hi).bind fun h =>
        bif slOk l h xs.length then k (.c (.sl c) (sub xs l.toNat (h.toNat - l.toNat))) [] [] [] else none else none
    | _ => none
  | _ => none

/-- What is appended: how many, which, what is read for it. -/
def srcD (y : DV X) (c : CT X.ι) (get : Nat → Option (DObj X)) : Option (Nat × List (CT.T X.toSE c) × List Nat) :=
  match y with
  | .own kk off len => (get kk).bind fun o => match o with
    | .lst b l => (castC (.sl b) (.sl c) l).bind fun l => some (len, sub l off len, [kk])
    | _ => none
  | .c b l => (castC b (.sl c) l).bind fun (l : List (CT.T X.toSE c)) => some (l.length, l, [])
  | _ => none

def appendD (i : Nat) (t : TypeId) (x y : DV X) (get : Nat → Option (DObj X)) (k : KK X A) : Option A :=
  (T t).bind fun ti => match ti.k with
  | .slice e => (T e).bind fun ei => (code e).bind fun c => if CT.sz X c = ei.size then (srcD y c get).bind fun s => match x with
    | .own kk 0 len => (get kk).bind fun o => match o with
      | .lst b l => (castC (.sl b) (.sl c) l).bind fun (l : List (CT.T X.toSE c)) => bif appOk l.length len s.2.1.length s.1 ei.bytes then letv (l ++ s.2.1) fun r => k (.own (nid i) 0 r.length) [(nid i, some (.lst c r)), (kk, none)] (kk :: s.2.2) [kk] else none
      | _ => none
    | .nil => bif appOk 0 0 s.2.1.length s.1 ei.bytes then letv s.2.1 fun r => k (.own (nid i) 0 r.length) [(nid i, some (.lst c r))] s.2.2 [] else none
    | _ => none
    else none
  | _ => none

def builtinD (i : Nat) (b : Builtin) (args : List (DV X)) (tys : List TypeId) (get : Nat → Option (DObj X)) (k : KK X A) : Option A :=
  match b, args, tys with
  | .len, [x], [t] => lenD T t x k
  | .max, args, _ => mmD true args k
  | .min, args, _ => mmD false args k
  | .append, [x, y], [t, u] => if t = u then appendD T code i t x y get k else none
  | _, _, _ => none

def opD (i : Nat) (o : Op) (ρ : Operand → DV X) (get : Nat → Option (DObj X)) (k : KK X A) : Option A :=
  match o with
  | .move x => k (ρ x) [] [] []
  | .assign x => k (ρ x) [] [] []
  | .pick c a b => match ρ c with | .c .bool t => k (pickD t (ρ a) (ρ b)) [] [] [] | _ => none
  | .alloc e => allocD T i e k
  | .box _ x => boxD i (ρ x) k
  | .build t parts => buildD T t (parts.toList.map fun p => (p.1, ρ p.2)) k
  | .buildSlice t len parts => buildSliceD T code i t len (parts.toList.map fun p => (p.1, ρ p.2)) k
  | .load t a => ldD T t (ρ a) get k
  | .store t a x => stD T t (ρ a) (ρ x) get k
  | .binOp op t x y _ => binD T op t (ρ x) (ρ y) k
  | .unOp op _ x => unD op (ρ x) k
  | .makeFunc (.func f) first caps => k (.fn f (first.toList.map ρ) (caps.toList.map ρ)) [] [] []
  | .slice t x lo hi none => sliceD T t (ρ x) (lo.map ρ) (hi.map ρ) get k
  | .fieldAddr t x f => fieldAddrD T t (ρ x) f k
  | .field t x f => fieldD T t (ρ x) f k
  | .indexAddr t x j => indexAddrD T t (ρ x) (ρ j) get k
  | .extract x j => extractD (ρ x) j k
  | .call { callee := .builtin b, args := args, argTypes := tys } => builtinD T code i b (args.toList.map ρ) tys.toList get k
  | _ => none
end
end Go.Gb

namespace Go.Gb
open Go.RowKit

section
variable {X : SX} {A : Type} {T : Tab} {code : TypeId → Option (CT X.ι)} {get : Nat → Option (DObj X)} {k : KK X A} {r : A} {i : Nat}

def aget (get : Nat → Option (DObj X)) : Nat → Option AObj := fun j => (get j).map denO

theorem restr_get {rd : List Nat} {j : Nat} {o : DObj X} (hj : j ∈ rd) (h : get j = some o) : restr rd (aget get) j = some (denO o) := by
  simp [restr, hj, aget, h]

theorem denL_length (l : List (DV X)) : (denL l).length = l.length := by simp [denL_map]

theorem denL_drop_take (l : List (DV X)) (a b : Nat) : denL ((l.drop a).take b) = ((denL l).drop a).take b := by
  simp [denL_map, List.map_take, List.map_drop]

theorem at_some {α : Type} {l : List α} {n : Int} {x : α} (h : at? l n = some x) : 0 ≤ n ∧ l[n.toNat]? = some x := by
  unfold at? at h
  by_cases hn : 0 ≤ n
  · simpa [hn] using h
  · simp [hn] at h

theorem pickD_den (t : Bool) (x y : DV X) : den (pickD t x y) = pickV t (den x) (den y) := by
  rw [pickV_eq]
  have base : ∀ x y : DV X, den (bif t then x else y) = if t = true then den x else den y := fun x y => by cases t <;> rfl
  unfold pickD
  split
  · rename_i a p b q
    split
    · rename_i h _
      subst h
      cases t <;> rfl
    · exact base _ _
  · exact base _ _

theorem partD_den {agg : Bool} {size : Nat} {cs : List (DV X)} {v : DV X} (h : partD agg size cs = some v) : part' agg size (denL cs) = some (den v) := by
  unfold partD at h
  unfold part'
  rw [denL_length]
  split at h
  · rename_i hl
    rw [if_pos hl]
    cases agg with
    | true => simp only [if_true, Option.some.injEq] at h ⊢; subst h; rfl
    | false =>
      simp only [Bool.false_eq_true, if_false] at h ⊢
      match cs, h with
      | [x], h =>
        simp only at h
        split at h
        · rename_i hx
          injection h with h
          subst h
          simp only [denL]
          rw [if_pos (cellOkD_den hx)]
        · cases h
      | [], h => cases h
      | _ :: _ :: _, h => cases h
  · cases h

theorem partC_den {agg : Bool} {size off : Nat} {c : CT X.ι} {y : CT.T X.toSE c} {v : DV X} (h : partD agg size (((cellsC c y).drop off).take size) = some v) : part' agg size ((((CT.row X.toSE c y).drop off).take size).map AV.t) = some (den v) := by
  have := partD_den h
  rw [denL_drop_take, cellsC_den] at this
  rw [← this, List.map_take, List.map_drop]

theorem partW_den {agg : Bool} {size off : Nat} {c : CT X.ι} {y : CT.T X.toSE c} {v : DV X} (h : partW agg size c y off = some v) : part' agg size ((((CT.row X.toSE c y).drop off).take size).map AV.t) = some (den v) := by
  cases c
  case st j =>
    simp only [partW] at h
    split at h
    · rename_i hh
      obtain ⟨rfl, rfl, rfl⟩ := hh
      injection h with h
      subst h
      have hl : (CT.row X.toSE (.st j) y).length = (X.tys j).length := row_sz (.st j) y
      rw [List.drop_zero, List.take_of_length_le (by omega)]
      unfold part'
      rw [if_pos (by simpa using hl)]
      rfl
    · exact partC_den h
  all_goals exact partC_den h

theorem ldD_sound {t : TypeId} {x : DV X} (h : ldD T t x get k = some r) : ∃ orc rd dv out, aLoad T t (den x) orc (restr rd (aget get)) = some out ∧ AllP out.obs ∧ out.v = den dv ∧ out.upd = [] ∧ k dv [] rd [] = some r := by
  unfold ldD at h
  unfold aLoad
  rw [Option.bind_eq_some_iff] at h; obtain ⟨ti, h1, h⟩ := h
  simp only [h1, Option.bind_some]
  split at h
  · rename_i kk row off
    rw [Option.bind_eq_some_iff] at h; obtain ⟨o, h2, h⟩ := h
    split at h
    · rename_i sz rows
      rw [Option.bind_eq_some_iff] at h; obtain ⟨rw', h3, h⟩ := h
      rw [Option.bind_eq_some_iff] at h; obtain ⟨v, h4, h⟩ := h
      refine ⟨.none, [kk], v, ⟨den v, [], []⟩, ?_, trivial, rfl, rfl, h⟩
      have h5 := partD_den h4
      rw [denL_drop_take] at h5
      simp [den, restr_get (List.mem_singleton_self kk) h2, denO, h3, h5, pv]
    · cases h
  · rename_i kk n off
    rw [Option.bind_eq_some_iff] at h; obtain ⟨o, h2, h⟩ := h
    split at h
    · rename_i c l
      rw [Option.bind_eq_some_iff] at h; obtain ⟨y, h3, h⟩ := h
      rw [Option.bind_eq_some_iff] at h; obtain ⟨v, h4, h⟩ := h
      obtain ⟨_, h6⟩ := at_some h3
      refine ⟨.row ((CT.row X.toSE c y).map AV.t), [kk], v, ⟨den v, [], [(avRows (l.map (CT.row X.toSE c)))[n.toNat]? = some ((CT.row X.toSE c y).map AV.t)]⟩, ?_, ?_, rfl, rfl, h⟩
      · have h5 := partW_den h4
        rw [List.map_take, List.map_drop] at h5
        simp only [den, restr_get (List.mem_singleton_self kk) h2, Option.bind_some, denO, h5, pvo]
      · simp [AllP, avRows, h6]
    · cases h
  · rename_i c y off
    rw [Option.bind_eq_some_iff] at h; obtain ⟨v, h4, h⟩ := h
    refine ⟨.none, [], v, ⟨den v, [], []⟩, ?_, trivial, rfl, rfl, h⟩
    simp only [den, partW_den h4, Option.bind_some, pv]
  · cases h

theorem putD_den (a : List (DV X)) (off : Nat) (cs : List (DV X)) : denL (putD a off cs) = put' (denL a) off (denL cs) := by
  simp [putD, put', denL_map, List.map_take, List.map_drop]

theorem castC_den {a c : CT X.ι} {x : CT.T X.toSE a} {y : CT.T X.toSE c} (h : castC a c x = some y) : den (.c a x) = den (.c c y) ∧ CT.row X.toSE a x = CT.row X.toSE c y := by
  obtain ⟨e, h⟩ := castC_some h
  subst e; subst h
  exact ⟨rfl, rfl⟩

theorem tv_one {c : CT X.ι} (hc : c.one = true) (x : CT.T X.toSE c) : [(CT.tv X.toSE c x).av] = (CT.row X.toSE c x).map AV.t := by
  obtain ⟨t, h1, h2⟩ := row_one hc x
  rw [h1, h2]; rfl

theorem wk_tv {c : CT X.ι} (x : CT.T X.toSE c) : wk (CT.tv X.toSE c x).av = (CT.tv X.toSE c x).av := by cases c <;> rfl

theorem dat1_den {d : DV X} {c : CT X.ι} {x : CT.T X.toSE c} (h : dat1 d c = some x) : wk (den d) = (CT.tv X.toSE c x).av := by
  unfold dat1 at h
  split at h
  · rw [(castC_den h).1]; exact wk_tv x
  · injection h with h; subst h; rfl
  · injection h with h; subst h; rfl
  · cases h

theorem dat1_ok {d : DV X} {c : CT X.ι} {x : CT.T X.toSE c} (hc : c.one = true) (h : dat1 d c = some x) : cellOkD d = true := by
  cases d
  case c a y =>
    obtain ⟨e, _⟩ := castC_some (show castC a c y = some x by cases c <;> exact h)
    subst e
    cases a <;> first | rfl | simp [CT.one] at hc
  case nil => rfl
  all_goals cases c <;> cases h

theorem readHL_den : ∀ {ds : List (DV X)} {l : List (CT X.ι)} {h : HL X.toSE l}, readHL ds l = some h → l.all CT.one = true → (denL ds).map wk = (HL.row X.toSE l h).map AV.t ∧ ds.all cellOkD = true
  | [], [], h, _, _ => ⟨rfl, rfl⟩
  | d :: ds, c :: l, h, hr, ha => by
    simp only [readHL] at hr
    rw [Option.bind_eq_some_iff] at hr; obtain ⟨x, h1, hr⟩ := hr
    rw [Option.bind_eq_some_iff] at hr; obtain ⟨g, h2, hr⟩ := hr
    injection hr with hr
    subst hr
    simp only [List.all_cons, Bool.and_eq_true] at ha ⊢
    obtain ⟨i1, i2⟩ := readHL_den h2 ha.2
    simp only [denL, List.map_cons, HL.row, List.map_append, i1, dat1_den h1, i2, and_true, dat1_ok ha.1 h1]
    simp [← tv_one ha.1 x]
  | [], _ :: _, _, hr, _ => by simp [readHL] at hr
  | _ :: _, [], _, hr, _ => by simp [readHL] at hr

theorem make_row (j : X.ι) (h : HL X.toSE (X.tys j)) : CT.row X.toSE (.st j) (X.make j h) = HL.row X.toSE (X.tys j) h := X.row_make j h

theorem mk1_den {c : CT X.ι} (hc : c.one = true) {ds : List (DV X)} {x : CT.T X.toSE c} (h : mk1 c ds = some x) : (denL ds).map wk = (CT.row X.toSE c x).map AV.t := by
  match ds, h with
  | [d], h =>
    rw [← tv_one hc x]
    simp only [denL, List.map_cons, List.map_nil, dat1_den h]
  | [], h => cases h
  | _ :: _ :: _, h => cases h

theorem mkRow_den {c : CT X.ι} {ds : List (DV X)} {x : CT.T X.toSE c} (h : mkRow c ds = some x) : (denL ds).map wk = (CT.row X.toSE c x).map AV.t := by
  cases c
  case st j =>
    simp only [mkRow] at h
    rw [Option.bind_eq_some_iff] at h; obtain ⟨g, h1, h⟩ := h
    injection h with h
    subst h
    rw [(readHL_den h1 (X.flat j)).1, make_row]
  all_goals exact mk1_den rfl h

theorem dat1_cells {d : DV X} {c : CT X.ι} (hc : c.one = true) {x : CT.T X.toSE c} (h : dat1 d c = some x) : ∃ cs, cellsOf (den d) = some cs ∧ cs.map wk = (CT.row X.toSE c x).map AV.t := by
  have hk := dat1_ok hc h
  have hd := dat1_den h
  have he : cellsOf (den d) = some [den d] := by
    have := cellsD_den (x := d) (cs := [d]) (by
      cases d
      case c t y => cases t <;> first | rfl | simp [cellOkD] at hk
      all_goals first | rfl | simp [cellOkD] at hk)
    simpa [denL] using this
  exact ⟨_, he, by rw [← tv_one hc x]; simp [hd]⟩

/-- A value that reads as data has cells that do. -/
theorem dat_cells {d : DV X} {c : CT X.ι} {x : CT.T X.toSE c} (h : dat d c = some x) : ∃ cs, cellsOf (den d) = some cs ∧ cs.map wk = (CT.row X.toSE c x).map AV.t := by
  cases c
  case st j =>
    replace h : datS d j = some x := h
    cases d
    case agg cs =>
      simp only [datS] at h
      rw [Option.bind_eq_some_iff] at h; obtain ⟨g, h1, h⟩ := h
      injection h with h
      subst h
      obtain ⟨i1, i2⟩ := readHL_den h1 (X.flat j)
      refine ⟨denL cs, ?_, by rw [i1, make_row]⟩
      simp only [den, cellsOf]
      rw [if_pos (all_den i2)]
    case c a y =>
      replace h : castC a (.st j) y = some x := h
      rw [(castC_den h).1]
      refine ⟨(CT.row X.toSE (.st j) x).map AV.t, ?_, ?_⟩
      · show cellsOf (.agg _) = _
        simp only [cellsOf]
        rw [if_pos]
        · rfl
        · rw [List.all_map, List.all_eq_true]; exact fun _ _ => rfl
      · rw [List.map_map]; rfl
    all_goals cases h
  all_goals exact dat1_cells rfl h

theorem stD_sound {t : TypeId} {x y : DV X} (h : stD T t x y get k = some r) : ∃ orc kk u out, aStore T t (den x) (den y) orc (restr [kk] (aget get)) = some out ∧ AllP out.obs ∧ out.v = .undef ∧ out.upd = denU [(kk, u)] ∧ k .undef [(kk, u)] [kk] [kk] = some r := by
  unfold stD at h
  unfold aStore
  rw [Option.bind_eq_some_iff] at h; obtain ⟨ti, h1, h⟩ := h
  rw [Option.bind_eq_some_iff] at h; obtain ⟨cs, h2, h⟩ := h
  simp only [h1, cellsD_den h2, Option.bind_some]
  split at h
  · rename_i hl
    have hdl : (denL cs).length = ti.size := by rw [denL_length]; exact hl
    simp only [hdl, if_true]
    split at h
    · rename_i kk row off
      rw [Option.bind_eq_some_iff] at h; obtain ⟨o, h3, h⟩ := h
      split at h
      · rename_i sz rows
        rw [Option.bind_eq_some_iff] at h; obtain ⟨rw', h4, h⟩ := h
        split at h
        · rename_i hle
          refine ⟨.none, kk, _, ⟨.undef, _, []⟩, ?_, trivial, rfl, rfl, h⟩
          simp only [den, restr_get (List.mem_singleton_self kk) h3, Option.bind_some, denO, List.getElem?_map, h4, Option.map_some, denL_length]
          rw [if_pos (by rw [← hl]; exact hle)]
          simp [denU, denO, putD_den]
        · cases h
      · cases h
    · rename_i kk n off
      rw [Option.bind_eq_some_iff] at h; obtain ⟨o, h3, h⟩ := h
      split at h
      · rename_i c l
        rw [Option.bind_eq_some_iff] at h; obtain ⟨z, h4, h⟩ := h
        split at h
        · rename_i hle
          rw [Option.bind_eq_some_iff] at h; obtain ⟨z', h5, h⟩ := h
          obtain ⟨_, h6⟩ := at_some h4
          refine ⟨.set ((CT.row X.toSE c z).map AV.t) (avRows ((l.set n.toNat z').map (CT.row X.toSE c))), kk, _, ⟨.undef, _, [(avRows (l.map (CT.row X.toSE c)))[n.toNat]? = some ((CT.row X.toSE c z).map AV.t) ∧ avRows ((l.set n.toNat z').map (CT.row X.toSE c)) = wkRows ((avRows (l.map (CT.row X.toSE c))).set n.toNat (put' ((CT.row X.toSE c z).map AV.t) off (denL cs)))]⟩, ?_, ?_, rfl, rfl, h⟩
          · simp only [den, restr_get (List.mem_singleton_self kk) h3, Option.bind_some, denO]
            rw [if_pos (by rw [List.length_map, row_sz, ← hl]; exact hle)]
            simp [denU, denO]
          · refine ⟨by simp [avRows, h6], ?_⟩
            have h7 := mkRow_den h5
            rw [putD_den, cellsC_den] at h7
            have hid : wkRows (avRows (l.map (CT.row X.toSE c))) = avRows (l.map (CT.row X.toSE c)) := by
              simp [wkRows, avRows, Function.comp_def, wk]
            simp only [wkRows, List.map_set, h7]
            have : (avRows (l.map (CT.row X.toSE c))).map (List.map wk) = avRows (l.map (CT.row X.toSE c)) := hid
            rw [this]
            simp [avRows]
        · cases h
      · cases h
    · cases h
  · cases h

theorem fieldAddrD_sound {t : TypeId} {x : DV X} {f : Nat} (h : fieldAddrD T t x f k = some r) : ∃ dv out, aFieldAddr T t (den x) f = some out ∧ AllP out.obs ∧ out.v = den dv ∧ out.upd = [] ∧ k dv [] [] [] = some r := by
  unfold fieldAddrD at h
  unfold aFieldAddr
  rw [Option.bind_eq_some_iff] at h; obtain ⟨⟨d, u⟩, h1, h⟩ := h
  simp only [h1, Option.bind_some]
  split at h
  · exact ⟨_, _, rfl, trivial, rfl, rfl, h⟩
  · exact ⟨_, _, rfl, trivial, rfl, rfl, h⟩
  · exact ⟨_, _, rfl, trivial, rfl, rfl, h⟩
  · cases h

theorem fieldD_sound {t : TypeId} {x : DV X} {f : Nat} (h : fieldD T t x f k = some r) : ∃ dv out, aField T t (den x) f = some out ∧ AllP out.obs ∧ out.v = den dv ∧ out.upd = [] ∧ k dv [] [] [] = some r := by
  unfold fieldD at h
  unfold aField
  rw [Option.bind_eq_some_iff] at h; obtain ⟨⟨d, u⟩, h1, h⟩ := h
  simp only [h1, Option.bind_some]
  split at h
  · rw [Option.bind_eq_some_iff] at h; obtain ⟨v, h2, h⟩ := h
    have h3 := partD_den h2
    rw [denL_drop_take] at h3
    exact ⟨v, ⟨den v, [], []⟩, by simp only [den, h3, Option.bind_some, pv], trivial, rfl, rfl, h⟩
  · rename_i j y
    rw [Option.bind_eq_some_iff] at h; obtain ⟨v, h2, h⟩ := h
    have h3 := partC_den h2
    rw [List.map_take, List.map_drop] at h3
    refine ⟨v, ⟨den v, [], []⟩, ?_, trivial, rfl, rfl, h⟩
    show (part' u.agg u.size (List.take u.size (List.drop d ((CT.row X.toSE (.st j) y).map AV.t)))).bind pv = _
    rw [h3]; rfl
  · cases h

theorem cond_some {α : Type} {b : Bool} {x : Option α} {r : α} (h : (bif b then x else none) = some r) : b = true ∧ x = some r := by
  cases b with
  | true => exact ⟨rfl, h⟩
  | false => cases h

theorem inb_spec {n : Int} {len : Nat} (h : inb n len = true) : 0 ≤ n ∧ n.toNat < len := by
  simp only [inb, Bool.and_eq_true, decide_eq_true_eq] at h; omega

theorem chkA_some {A : Type} : ∀ {cs : List Bool} {k : Option A} {r : A}, chkA cs k = some r → (∀ c ∈ cs, c = true) ∧ k = some r
  | [], _, _, h => ⟨by simp, h⟩
  | c :: cs, k, r, h => by
    obtain ⟨h1, h2⟩ := cond_some h
    obtain ⟨h3, h4⟩ := chkA_some h2
    exact ⟨fun x hx => (List.mem_cons.1 hx).elim (fun e => e ▸ h1) (h3 x), h4⟩

theorem indexAddrD_sound {t : TypeId} {x j : DV X} (h : indexAddrD T t x j get k = some r) : ∃ orc rd dv out, aIndexAddr T t (den x) (den j) orc (restr rd (aget get)) = some out ∧ AllP out.obs ∧ out.v = den dv ∧ out.upd = [] ∧ k dv [] rd [] = some r := by
  unfold indexAddrD at h
  unfold aIndexAddr
  rw [Option.bind_eq_some_iff] at h; obtain ⟨ti, h1, h⟩ := h
  simp only [h1, Option.bind_some]
  split at h
  · rename_i e kd n hk
    rw [Option.bind_eq_some_iff] at h; obtain ⟨ei, h2, h⟩ := h
    simp only [hk, den, CT.tv, TV.av, h2, Option.bind_some]
    split at h
    · rename_i c l
      split at h
      · rename_i hs
        rw [Option.bind_eq_some_iff] at h; obtain ⟨y, h3, h⟩ := h
        obtain ⟨h4, h5⟩ := at_some h3
        refine ⟨.trow (CT.row X.toSE c y), [], _, ⟨.rptr (CT.row X.toSE c y) 0, [], [0 ≤ n ∧ (l.map (CT.row X.toSE c))[n.toNat]? = some (CT.row X.toSE c y)]⟩, ?_, ?_, rfl, rfl, h⟩
        · simp only [den, CT.tv, TV.av]
          rw [if_pos (by rw [row_sz]; exact hs)]; rfl
        · exact ⟨h4, by simp [h5]⟩
      · cases h
    · rename_i kk off len
      rw [Option.bind_eq_some_iff] at h; obtain ⟨o, h3, h⟩ := h
      split at h
      · rename_i c l
        split at h
        · rename_i hs
          obtain ⟨h4, h⟩ := cond_some h
          obtain ⟨h5, h6⟩ := inb_spec h4
          refine ⟨.none, [kk], _, ⟨.ptr kk (off + n.toNat) 0, [], [0 ≤ n ∧ n.toNat < len]⟩, ?_, ⟨h5, h6⟩, ?_, rfl, h⟩
          · simp only [den, restr_get (List.mem_singleton_self kk) h3, Option.bind_some, denO]
            rw [if_pos hs]; rfl
          · simp only [den, iN]
            congr 1
            show off + Int.toNat n = Int.toNat ((off : Int) + n)
            have : (0 : Int) ≤ n := h5
            omega
        · cases h
      · rename_i sz rows
        split at h
        · rename_i hs
          obtain ⟨h4, h⟩ := cond_some h
          obtain ⟨h5, h6⟩ := inb_spec h4
          refine ⟨.none, [kk], _, ⟨.ptr kk (off + n.toNat) 0, [], [0 ≤ n ∧ n.toNat < len]⟩, ?_, ⟨h5, h6⟩, rfl, rfl, h⟩
          simp only [den, restr_get (List.mem_singleton_self kk) h3, Option.bind_some, denO]
          rw [if_pos hs]; rfl
        · cases h
    · cases h
  · rename_i m e kd n hk
    rw [Option.bind_eq_some_iff] at h; obtain ⟨ei, h2, h⟩ := h
    simp only [hk, den, CT.tv, TV.av, h2, Option.bind_some]
    obtain ⟨h4, h⟩ := cond_some h
    obtain ⟨h5, h6⟩ := inb_spec h4
    split at h
    · exact ⟨.none, [], _, _, rfl, ⟨h5, h6⟩, rfl, rfl, h⟩
    · exact ⟨.none, [], _, _, rfl, ⟨h5, h6⟩, rfl, rfl, h⟩
    · exact ⟨.none, [], _, _, rfl, ⟨h5, h6⟩, rfl, rfl, h⟩
    · cases h
  · cases h

theorem extractD_sound {x : DV X} {j : Nat} (h : extractD x j k = some r) : ∃ dv out, aExtract (den x) j = some out ∧ AllP out.obs ∧ out.v = den dv ∧ out.upd = [] ∧ k dv [] [] [] = some r := by
  unfold extractD at h
  split at h
  · rw [Option.bind_eq_some_iff] at h; obtain ⟨v, h2, h⟩ := h
    refine ⟨v, ⟨den v, [], []⟩, ?_, trivial, rfl, rfl, h⟩
    simp [aExtract, den, denL_map, h2, pv]
  · cases h
end
end Go.Gb

namespace Go.Gb
open Go.RowKit

section
variable {X : SX} {A : Type} {T : Tab} {code : TypeId → Option (CT X.ι)} {get : Nat → Option (DObj X)} {k : KK X A} {r : A} {i : Nat}

theorem arithD_sound {op : BinOp} {kd : IntKind} {a b : Int} : ∃ v obs, aArith op kd a b = some (v, obs) ∧ den (arithD (X := X) op kd a b).1 = .t (.sc v) ∧ (∀ g, (arithD (X := X) op kd a b).2 = some g → g = true → AllP obs) ∧ ((arithD (X := X) op kd a b).2 = none → AllP obs) := by
  cases op <;> refine ⟨_, _, rfl, rfl, fun g hg ht => ?_, fun hn => ?_⟩ <;> simp only [arithD, Option.some.injEq, reduceCtorEq] at * <;> try trivial
  all_goals subst hg; simp_all [AllP]

theorem cellEqD_den {n : Nat} {x y : DV X} {b : Bool} (h : cellEqD n x y = some b) : cellEq n (den x) (den y) = some b := by
  unfold cellEqD at h
  split at h
  · split at h
    · injection h with h
      subst h
      simp only [den, CT.tv, TV.av, cellEq]
      rw [if_pos ‹_›]
    · cases h
  · exact h
  · exact h
  · cases h

theorem cellsEqD_den : ∀ {ks : List Nat} {xs ys : List (DV X)} {b : Bool}, cellsEqD ks xs ys = some b → cellsEq ks (denL xs) (denL ys) = some b
  | [], [], [], b, h => h
  | k :: ks, x :: xs, y :: ys, b, h => by
    simp only [cellsEqD] at h
    rw [Option.bind_eq_some_iff] at h; obtain ⟨p, h1, h⟩ := h
    rw [Option.bind_eq_some_iff] at h; obtain ⟨q, h2, h⟩ := h
    simp only [denL, cellsEq, cellEqD_den h1, cellsEqD_den h2, Option.bind_some, h]
  | [], _ :: _, _, _, h => by simp [cellsEqD] at h
  | [], [], _ :: _, _, h => by simp [cellsEqD] at h
  | _ :: _, [], _, _, h => by simp [cellsEqD] at h
  | _ :: _, _ :: _, [], _, h => by simp [cellsEqD] at h

theorem aggD_den {x : DV X} {xs : List (DV X)} (h : aggD x = some xs) : den x = .agg (denL xs) := by
  unfold aggD at h
  split at h
  · injection h with h; subst h; rfl
  · rename_i j y
    injection h with h; subst h
    rw [cellsC_den]; rfl
  · cases h

theorem binD_sound {op : BinOp} {t : TypeId} {x y : DV X} (h : binD T op t x y k = some r) : ∃ dv out, aBin T op t (den x) (den y) = some out ∧ AllP out.obs ∧ out.v = den dv ∧ out.upd = [] ∧ k dv [] [] [] = some r := by
  unfold binD at h
  split at h
  · rename_i kd a yk b
    split at h
    · rename_i hk
      obtain ⟨v, obs, h1, h2, h3, h4⟩ := arithD_sound (X := X) (op := op) (kd := kd) (a := a) (b := b)
      have fin : AllP obs → k (arithD op kd a b).1 [] [] [] = some r → ∃ dv out, aBin T op t (den (.c (.int kd) a : DV X)) (den (.c (.int yk) b : DV X)) = some out ∧ AllP out.obs ∧ out.v = den dv ∧ out.upd = [] ∧ k dv [] [] [] = some r := by
        intro ho hkk
        refine ⟨_, ⟨.t (.sc v), [], obs⟩, ?_, ho, h2.symm, rfl, hkk⟩
        simp only [den, CT.tv, TV.av, aBin]
        rw [if_pos hk, h1]; rfl
      split at h
      · rename_i hn
        exact fin (h4 hn) h
      · rename_i g hg
        obtain ⟨hgt, h⟩ := cond_some h
        exact fin (h3 g hg hgt) h
    · cases h
  · split at h
    · exact ⟨_, _, rfl, trivial, rfl, rfl, h⟩
    · exact ⟨_, _, rfl, trivial, rfl, rfl, h⟩
    · cases h
  · rw [Option.bind_eq_some_iff] at h; obtain ⟨ti, h1, h⟩ := h
    split at h
    · rename_i hk
      refine ⟨_, ⟨.t (.sc (.bool _)), [], []⟩, ?_, trivial, rfl, rfl, h⟩
      simp only [den, CT.tv, TV.av, aBin, h1, Option.bind_some, hk]; rfl
    · rename_i hk
      refine ⟨_, ⟨.t (.sc (.bool _)), [], []⟩, ?_, trivial, rfl, rfl, h⟩
      simp only [den, CT.tv, TV.av, aBin, h1, Option.bind_some, hk]; rfl
    · cases h
  · rw [Option.bind_eq_some_iff] at h; obtain ⟨xs, h1, h⟩ := h
    rw [Option.bind_eq_some_iff] at h; obtain ⟨ys, h2, h⟩ := h
    rw [Option.bind_eq_some_iff] at h; obtain ⟨ti, h3, h⟩ := h
    split at h
    · cases h
    · rename_i hc
      rw [Option.bind_eq_some_iff] at h; obtain ⟨b, h4, h⟩ := h
      have h5 := cellsEqD_den h4
      rw [aggD_den h1, aggD_den h2]
      split at h
      · refine ⟨_, ⟨.t (.sc (.bool b)), [], []⟩, ?_, trivial, rfl, rfl, h⟩
        simp only [aBin, h3, Option.bind_some]
        rw [if_neg hc, h5]; rfl
      · refine ⟨_, ⟨.t (.sc (.bool (!b))), [], []⟩, ?_, trivial, rfl, rfl, h⟩
        simp only [aBin, h3, Option.bind_some]
        rw [if_neg hc, h5]; rfl
      · cases h

theorem unD_sound {op : UnOp} {x : DV X} (h : unD op x k = some r) : ∃ dv out, aUn op (den x) = some out ∧ AllP out.obs ∧ out.v = den dv ∧ out.upd = [] ∧ k dv [] [] [] = some r := by
  unfold unD at h
  split at h
  · exact ⟨_, _, rfl, trivial, rfl, rfl, h⟩
  · exact ⟨_, _, rfl, trivial, rfl, rfl, h⟩
  · cases h

theorem foldMmD_den (mx : Bool) (kd : IntKind) : ∀ (l : List (DV X)) (a n : Int), foldMmD mx kd a l = some n → foldMm mx kd a (denL l) = some n
  | [], a, n, h => h
  | x :: l, a, n, h => by
    cases x
    case c t y =>
      cases t
      case int k' =>
        simp only [foldMmD] at h
        simp only [denL, den, CT.tv, TV.av, foldMm]
        split at h
        · rename_i hk
          rw [if_pos hk]
          exact foldMmD_den mx kd l _ _ h
        · cases h
      all_goals simp [foldMmD] at h
    all_goals simp [foldMmD] at h

theorem mmD_sound {mx : Bool} {args : List (DV X)} (h : mmD mx args k = some r) : ∃ dv out, aMm mx (denL args) = some out ∧ AllP out.obs ∧ out.v = den dv ∧ out.upd = [] ∧ k dv [] [] [] = some r := by
  unfold mmD at h
  split at h
  · rename_i kd a l
    rw [Option.bind_eq_some_iff] at h; obtain ⟨n, h1, h⟩ := h
    refine ⟨_, ⟨.t (.sc (.int kd n)), [], []⟩, ?_, trivial, rfl, rfl, h⟩
    simp only [denL, den, CT.tv, TV.av, aMm]
    have := foldMmD_den mx kd l a n h1
    simp only [this]; rfl
  · cases h

theorem lenD_sound {t : TypeId} {x : DV X} (h : lenD T t x k = some r) : ∃ orc dv out, aLen T t (den x) orc = some out ∧ AllP out.obs ∧ out.v = den dv ∧ out.upd = [] ∧ k dv [] [] [] = some r := by
  unfold lenD at h
  unfold aLen
  rw [Option.bind_eq_some_iff] at h; obtain ⟨ti, h1, h⟩ := h
  simp only [h1, Option.bind_some]
  split at h
  · rename_i e c l hk
    simp only [hk]
    exact ⟨.num (l.length : Int), _, ⟨.t (.sc (.int .i64 (l.length : Int))), [], [(l.length : Int) = ((l.map (CT.row X.toSE c)).length : Int)]⟩, rfl, by simp [AllP], rfl, rfl, h⟩
  · rename_i hk
    simp only [hk]
    exact ⟨.none, _, _, rfl, trivial, rfl, rfl, h⟩
  · rename_i hk
    simp only [hk]
    exact ⟨.none, _, _, rfl, trivial, rfl, rfl, h⟩
  · rename_i hk
    simp only [hk]
    exact ⟨.none, _, _, rfl, trivial, rfl, rfl, h⟩
  · cases h

theorem fillD_den (place : Nat → Option (Nat × Nat)) : ∀ (parts : List (Nat × DV X)) (cells out : List (DV X)), fillD place cells parts = some out → fillP place (denL cells) (parts.map fun p => (p.1, den p.2)) = some (denL out)
  | [], cells, out, h => by simp only [fillD, Option.some.injEq] at h; subst h; rfl
  | (j, x) :: rest, cells, out, h => by
    simp only [fillD] at h
    rw [Option.bind_eq_some_iff] at h; obtain ⟨⟨off, size⟩, h1, h⟩ := h
    rw [Option.bind_eq_some_iff] at h; obtain ⟨cs, h2, h⟩ := h
    split at h
    · rename_i hl
      simp only [List.map_cons, fillP, h1, cellsD_den h2, Option.bind_some, denL_length]
      rw [if_pos hl, ← putD_den]
      exact fillD_den place rest _ _ h
    · cases h

theorem buildD_sound {t : TypeId} {parts : List (Nat × DV X)} (h : buildD T t parts k = some r) : ∃ dv out, aBuild T t (parts.map fun p => (p.1, den p.2)) = some out ∧ AllP out.obs ∧ out.v = den dv ∧ out.upd = [] ∧ k dv [] [] [] = some r := by
  unfold buildD at h
  unfold aBuild
  rw [Option.bind_eq_some_iff] at h; obtain ⟨ti, h1, h⟩ := h
  simp only [h1, Option.bind_some]
  split at h
  · rename_i fs hk
    split at h
    · rename_i ha
      rw [Option.bind_eq_some_iff] at h; obtain ⟨cells, h2, h⟩ := h
      have h3 := fillD_den _ _ _ _ h2
      rw [cvDs_den] at h3
      refine ⟨_, ⟨.agg (denL cells), [], []⟩, ?_, trivial, rfl, rfl, h⟩
      simp only [hk]
      rw [if_pos ha, h3]; rfl
    · cases h
  · rename_i m e hk
    rw [Option.bind_eq_some_iff] at h; obtain ⟨ei, h2, h⟩ := h
    rw [Option.bind_eq_some_iff] at h; obtain ⟨cells, h3, h⟩ := h
    have h4 := fillD_den _ _ _ _ h3
    rw [cvDs_den] at h4
    refine ⟨_, ⟨.agg (denL cells), [], []⟩, ?_, trivial, rfl, rfl, h⟩
    simp only [hk, h2, Option.bind_some, h4]; rfl
  · cases h

theorem fillR_lit (size : Nat) (c : CT X.ι) (hs : CT.sz X c = size) (z : List AV) : ∀ (parts : List (Nat × DV X)) (n : Nat) (l : List (CT.T X.toSE c)) (done : List (List AV)), litD c n parts = some l → done.length = n →
    ∃ css : List (List AV), fillR size (done ++ List.replicate parts.length z) (parts.map fun p => (p.1, den p.2)) = some (done ++ css) ∧ css.map (fun r => r.map wk) = avRows (l.map (CT.row X.toSE c))
  | [], n, l, done, h, _ => by
    simp only [litD, Option.some.injEq] at h
    subst h
    exact ⟨[], by simp [fillR], rfl⟩
  | (j, x) :: rest, n, l, done, h, hd => by
    simp only [litD] at h
    split at h
    · rename_i hj
      subst hj
      rw [Option.bind_eq_some_iff] at h; obtain ⟨y, h1, h⟩ := h
      rw [Option.bind_eq_some_iff] at h; obtain ⟨l', h2, h⟩ := h
      injection h with h
      subst h
      obtain ⟨cs, g1, g2⟩ := dat_cells h1
      have hl : cs.length = size := by
        have := congrArg List.length g2
        simp only [List.length_map, row_sz] at this
        omega
      obtain ⟨css, i1, i2⟩ := fillR_lit size c hs z rest (j + 1) l' (done ++ [cs]) h2 (by simp [hd])
      refine ⟨cs :: css, ?_, ?_⟩
      · simp only [List.map_cons, fillR, g1, Option.bind_some]
        rw [if_pos ⟨hl, by simp; omega⟩]
        have : (done ++ List.replicate (rest.length + 1) z).set j cs = done ++ [cs] ++ List.replicate rest.length z := by
          rw [List.set_append_right _ _ (by omega), hd]
          simp [List.replicate_succ]
        simp only [List.length_cons, this, i1]
        simp
      · simp only [List.map_cons, i2, g2, avRows, List.map_cons]
    · cases h

theorem buildSliceD_sound {t : TypeId} {len : Nat} {parts : List (Nat × DV X)} (h : buildSliceD T code i t len parts k = some r) : ∃ dv u out, aBuildSlice T i t len (parts.map fun p => (p.1, den p.2)) = some out ∧ AllP out.obs ∧ out.v = den dv ∧ out.upd = denU [(nid i, u)] ∧ k dv [(nid i, u)] [] [] = some r := by
  unfold buildSliceD at h
  unfold aBuildSlice
  rw [Option.bind_eq_some_iff] at h; obtain ⟨ti, h1, h⟩ := h
  simp only [h1, Option.bind_some]
  split at h
  · rename_i e hk
    rw [Option.bind_eq_some_iff] at h; obtain ⟨ei, h2, h⟩ := h
    rw [Option.bind_eq_some_iff] at h; obtain ⟨c, h3, h⟩ := h
    simp only [hk, h2, Option.bind_some]
    split at h
    · cases h
    · rename_i hno
      simp only [not_or, Decidable.not_not] at hno
      obtain ⟨n1, n2, n3, n4⟩ := hno
      rw [Option.bind_eq_some_iff] at h; obtain ⟨l, h4, h⟩ := h
      obtain ⟨css, g1, g2⟩ := fillR_lit ei.size c n3 (ei.zero.map cv) parts 0 l [] h4 rfl
      simp only [List.nil_append, n4] at g1
      refine ⟨_, _, ⟨.own (nid i) 0 len, [(nid i, some ⟨ei.size, wkRows css⟩)], []⟩, ?_, trivial, rfl, ?_, h⟩
      · rw [if_neg (by simp only [not_or]; exact ⟨n1, n2⟩), g1]; rfl
      · simp only [denU, denO, List.map_cons, List.map_nil, Option.map_some, n3]
        rw [show wkRows css = avRows (l.map (CT.row X.toSE c)) from g2]
  · cases h

theorem allocD_sound {e : TypeId} (h : allocD T i e k = some r) : ∃ dv u out, aAlloc T i e = some out ∧ AllP out.obs ∧ out.v = den dv ∧ out.upd = denU [(nid i, u)] ∧ k dv [(nid i, u)] [] [] = some r := by
  unfold allocD at h
  unfold aAlloc
  rw [Option.bind_eq_some_iff] at h; obtain ⟨ti, h1, h⟩ := h
  exact ⟨_, _, ⟨_, [(nid i, some ⟨ti.size, [ti.zero.map cv]⟩)], []⟩, by simp only [h1, Option.bind_some]; rfl, trivial, rfl, by simp [denU, denO, cvDs_den], h⟩

theorem boxD_sound {x : DV X} (h : boxD i x k = some r) : ∃ dv u out, aBox i (den x) = some out ∧ AllP out.obs ∧ out.v = den dv ∧ out.upd = denU [(nid i, u)] ∧ k dv [(nid i, u)] [] [] = some r := by
  unfold boxD at h
  unfold aBox
  rw [Option.bind_eq_some_iff] at h; obtain ⟨cs, h1, h⟩ := h
  exact ⟨_, _, ⟨_, [(nid i, some ⟨(denL cs).length, [denL cs]⟩)], []⟩, by simp only [cellsD_den h1, Option.bind_some]; rfl, trivial, rfl, by simp [denU, denO, denL_length], h⟩

theorem bndD_den {d n : Int} {x : Option (DV X)} (h : bndD d x = some n) : bnd d (x.map den) = some n := by
  unfold bndD at h
  split at h
  · exact h
  · exact h
  · cases h

theorem slOk_spec {l h : Int} {len : Nat} (hh : slOk l h len = true) : 0 ≤ l ∧ l ≤ h ∧ h ≤ (len : Int) := by
  simpa [slOk, and_assoc] using hh

theorem sliceD_sound {t : TypeId} {x : DV X} {lo hi : Option (DV X)} (h : sliceD T t x lo hi get k = some r) : ∃ orc rd dv out, aSlice T t (den x) (lo.map den) (hi.map den) orc (restr rd (aget get)) = some out ∧ AllP out.obs ∧ out.v = den dv ∧ out.upd = [] ∧ k dv [] rd [] = some r := by
  unfold sliceD at h
  unfold aSlice
  rw [Option.bind_eq_some_iff] at h; obtain ⟨ti, h1, h⟩ := h
  simp only [h1, Option.bind_some]
  split at h
  · rename_i e hk
    rw [Option.bind_eq_some_iff] at h; obtain ⟨ei, h2, h⟩ := h
    simp only [hk, h2, Option.bind_some]
    split at h
    · rename_i kk off len
      rw [Option.bind_eq_some_iff] at h; obtain ⟨o, h3, h⟩ := h
      split at h
      · rename_i hs
        rw [Option.bind_eq_some_iff] at h; obtain ⟨l, h4, h⟩ := h
        rw [Option.bind_eq_some_iff] at h; obtain ⟨hh, h5, h⟩ := h
        obtain ⟨h6, h⟩ := cond_some h
        refine ⟨.none, [kk], _, ⟨.own kk (off + l.toNat) (hh.toNat - l.toNat), [], [0 ≤ l ∧ l ≤ hh ∧ hh ≤ (len : Int)]⟩, ?_, slOk_spec h6, rfl, rfl, h⟩
        simp only [den, restr_get (List.mem_singleton_self kk) h3, Option.bind_some]
        rw [if_pos hs, bndD_den h4, Option.bind_some, bndD_den h5]; rfl
      · cases h
    · rename_i c xs
      split at h
      · rename_i hs
        rw [Option.bind_eq_some_iff] at h; obtain ⟨l, h4, h⟩ := h
        rw [Option.bind_eq_some_iff] at h; obtain ⟨hh, h5, h⟩ := h
        obtain ⟨h6, h⟩ := cond_some h
        refine ⟨.tsub ((sub xs l.toNat (hh.toNat - l.toNat)).map (CT.row X.toSE c)), [], _, ⟨.t (.sl ((sub xs l.toNat (hh.toNat - l.toNat)).map (CT.row X.toSE c))), [], [0 ≤ l ∧ l ≤ hh ∧ hh ≤ ((xs.map (CT.row X.toSE c)).length : Int) ∧ (sub xs l.toNat (hh.toNat - l.toNat)).map (CT.row X.toSE c) = ((xs.map (CT.row X.toSE c)).drop l.toNat).take (hh.toNat - l.toNat) ∧ (∀ q ∈ xs.map (CT.row X.toSE c), q.length = ei.size)]⟩, ?_, ?_, rfl, rfl, h⟩
        · simp only [den, CT.tv, TV.av, bndD_den h4, Option.bind_some]
          have h7 : bnd ((xs.map (CT.row X.toSE c)).length : Int) (hi.map den) = some hh := by
            have := bndD_den h5
            simpa using this
          rw [h7]; rfl
        · obtain ⟨a1, a2, a3⟩ := slOk_spec h6
          refine ⟨a1, a2, by simpa using a3, by simp [sub, List.map_take, List.map_drop], fun q hq => ?_⟩
          obtain ⟨y, _, rfl⟩ := List.mem_map.1 hq
          rw [row_sz]; exact hs
      · cases h
    · cases h
  · cases h
end
end Go.Gb

namespace Go.Gb
open Go.RowKit

section
variable {X : SX} {A : Type} {T : Tab} {code : TypeId → Option (CT X.ι)} {get : Nat → Option (DObj X)} {k : KK X A} {r : A} {i : Nat}

theorem castL_den {b c : CT X.ι} {l : List (CT.T X.toSE b)} {l' : List (CT.T X.toSE c)} (h : castC (.sl b) (.sl c) l = some l') : CT.sz X b = CT.sz X c ∧ l.map (CT.row X.toSE b) = l'.map (CT.row X.toSE c) := by
  obtain ⟨e, h⟩ := castC_some h
  injection e with e
  subst e; subst h
  exact ⟨rfl, rfl⟩

theorem restr_get' {rd : List Nat} {j : Nat} {o : DObj X} (hj : j ∈ rd) (h : get j = some o) : restr rd (aget get) j = some (denO o) := restr_get hj h

theorem srcD_den {y : DV X} {c : CT X.ι} {n : Nat} {l : List (CT.T X.toSE c)} {rd : List Nat} (h : srcD y c get = some (n, l, rd)) (hl : l.length = n) (rd' : List Nat) (hrd : ∀ j ∈ rd, j ∈ rd') :
    ∃ ob, srcOf (CT.sz X c) (den y) (restr rd' (aget get)) = some (n, ob, avRows (l.map (CT.row X.toSE c))) ∧ ob := by
  unfold srcD at h
  split at h
  · rename_i kk off len
    rw [Option.bind_eq_some_iff] at h; obtain ⟨o, h1, h⟩ := h
    split at h
    · rename_i b l0
      rw [Option.bind_eq_some_iff] at h; obtain ⟨l1, h2, h⟩ := h
      injection h with h
      simp only [Prod.mk.injEq] at h
      obtain ⟨rfl, rfl, rfl⟩ := h
      obtain ⟨h3, h4⟩ := castL_den h2
      refine ⟨True, ?_, trivial⟩
      simp only [den, srcOf, restr_get (hrd kk (by simp)) h1, Option.bind_some, denO]
      rw [if_pos h3]
      simp only [h4, Option.some.injEq, Prod.mk.injEq, true_and]
      simp [avRows, sub, List.map_take, List.map_drop]
    · cases h
  · rename_i b l0
    rw [Option.bind_eq_some_iff] at h; obtain ⟨l1, h2, h⟩ := h
    injection h with h
    simp only [Prod.mk.injEq] at h
    obtain ⟨rfl, rfl, rfl⟩ := h
    refine ⟨∀ q ∈ l1.map (CT.row X.toSE c), q.length = CT.sz X c, ?_, ?_⟩
    · rw [(castC_den h2).1]
      simp only [den, CT.tv, TV.av, srcOf, List.length_map]
    · intro q hq
      obtain ⟨z, _, rfl⟩ := List.mem_map.1 hq
      exact row_sz c z
  · cases h

theorem appOk_spec {lo len ln n bytes : Nat} (h : appOk lo len ln n bytes = true) : lo = len ∧ ln = n ∧ (len + n) * bytes ≤ 140737488355328 ∧ len + n ≤ maxLen := by
  simpa [appOk, and_assoc] using h

theorem appendD_sound {t : TypeId} {x y : DV X} (h : appendD T code i t x y get k = some r) : ∃ orc rd wr dv upd out, aAppend T i t (den x) (den y) orc (restr rd (aget get)) = some out ∧ AllP out.obs ∧ out.v = den dv ∧ out.upd = denU upd ∧ (∀ p ∈ upd, p.1 = nid i ∨ p.1 ∈ wr) ∧ k dv upd rd wr = some r := by
  unfold appendD at h
  unfold aAppend
  rw [Option.bind_eq_some_iff] at h; obtain ⟨ti, h1, h⟩ := h
  simp only [h1, Option.bind_some]
  split at h
  · rename_i e hk
    rw [Option.bind_eq_some_iff] at h; obtain ⟨ei, h2, h⟩ := h
    rw [Option.bind_eq_some_iff] at h; obtain ⟨c, h3, h⟩ := h
    simp only [hk, h2, Option.bind_some]
    split at h
    · rename_i hs
      rw [Option.bind_eq_some_iff] at h; obtain ⟨⟨n, l, rd⟩, h4, h⟩ := h
      split at h
      · rename_i kk len
        rw [Option.bind_eq_some_iff] at h; obtain ⟨o, h5, h⟩ := h
        split at h
        · rename_i b l0
          rw [Option.bind_eq_some_iff] at h; obtain ⟨l1, h6, h⟩ := h
          obtain ⟨h7, h⟩ := cond_some h
          obtain ⟨g1, g2, g3, g4⟩ := appOk_spec h7
          obtain ⟨h8, h9⟩ := castL_den h6
          obtain ⟨ob, i1, i2⟩ := srcD_den h4 g2 (kk :: rd) (fun j hj => by simp [hj])
          have i3 := restr_get (rd := kk :: rd) (by simp) h5
          refine ⟨.rows (avRows ((l1 ++ l).map (CT.row X.toSE c))), kk :: rd, [kk], _, _, ⟨.own (nid i) 0 (avRows ((l1 ++ l).map (CT.row X.toSE c))).length, [(nid i, some ⟨ei.size, avRows ((l1 ++ l).map (CT.row X.toSE c))⟩), (kk, none)],
            [ob ∧ (avRows (l1.map (CT.row X.toSE c))).length = len ∧ (avRows (l.map (CT.row X.toSE c))).length = n ∧ avRows ((l1 ++ l).map (CT.row X.toSE c)) = avRows (l1.map (CT.row X.toSE c)) ++ avRows (l.map (CT.row X.toSE c)) ∧ (len + n) * ei.bytes ≤ 140737488355328 ∧ len + n ≤ maxLen]⟩, ?_, ?_, ?_, ?_, ?_, h⟩
          · rw [hs] at i1
            simp only [i1, Option.bind_some, den, i3, denO, h9]
            rw [if_pos ⟨by rw [h8, hs], trivial⟩]
          · exact ⟨i2, by simpa [avRows] using g1, by simpa [avRows] using g2, by simp [avRows], g3, g4⟩
          · simp [den, avRows]
          · simp [denU, denO, hs]
          · intro p hp
            simp only [List.mem_cons, List.not_mem_nil, or_false] at hp
            rcases hp with rfl | rfl
            · exact .inl rfl
            · exact .inr (by simp)
        · cases h
      · obtain ⟨h7, h⟩ := cond_some h
        obtain ⟨g1, g2, g3, g4⟩ := appOk_spec h7
        obtain ⟨ob, i1, i2⟩ := srcD_den h4 g2 rd (fun j hj => hj)
        refine ⟨.rows (avRows (l.map (CT.row X.toSE c))), rd, [], _, _, ⟨.own (nid i) 0 (avRows (l.map (CT.row X.toSE c))).length, [(nid i, some ⟨ei.size, avRows (l.map (CT.row X.toSE c))⟩)],
            [ob ∧ (avRows (l.map (CT.row X.toSE c))).length = n ∧ avRows (l.map (CT.row X.toSE c)) = avRows (l.map (CT.row X.toSE c)) ∧ n * ei.bytes ≤ 140737488355328 ∧ n ≤ maxLen]⟩, ?_, ?_, ?_, ?_, ?_, h⟩
        · rw [hs] at i1
          simp only [i1, Option.bind_some, den]
        · exact ⟨i2, by simpa [avRows] using g2, rfl, by simpa using g3, by simpa using g4⟩
        · simp [den, avRows]
        · simp [denU, denO, hs]
        · intro p hp
          simp only [List.mem_cons, List.not_mem_nil, or_false] at hp
          rcases hp with rfl
          exact .inl rfl
      · cases h
    · cases h
  · cases h

/-- What an operation has come to. -/
def SdOp (T : Tab) (i : Nat) (o : Oper) (ρ : Operand → DV X) (get : Nat → Option (DObj X)) (k : KK X A) (r : A) : Prop :=
  ∃ orc rd wr dv upd out, absOp T i o orc (fun x => den (ρ x)) (restr rd (aget get)) = some out ∧ AllP out.obs ∧ out.v = den dv ∧ out.upd = denU upd ∧ (∀ p ∈ upd, p.1 = nid i ∨ p.1 ∈ wr) ∧ k dv upd rd wr = some r

theorem builtinD_sound {b : Builtin} {args : List (DV X)} {tys : List TypeId} (h : builtinD T code i b args tys get k = some r) : ∃ orc rd wr dv upd out, aBuiltin T i b (denL args) tys orc (restr rd (aget get)) = some out ∧ AllP out.obs ∧ out.v = den dv ∧ out.upd = denU upd ∧ (∀ p ∈ upd, p.1 = nid i ∨ p.1 ∈ wr) ∧ k dv upd rd wr = some r := by
  unfold builtinD at h
  unfold aBuiltin
  split at h
  · obtain ⟨orc, dv, out, h1, h2, h3, h4, h5⟩ := lenD_sound h
    exact ⟨orc, [], [], dv, [], out, h1, h2, h3, h4, by simp, h5⟩
  · obtain ⟨dv, out, h1, h2, h3, h4, h5⟩ := mmD_sound h
    exact ⟨.none, [], [], dv, [], out, h1, h2, h3, h4, by simp, h5⟩
  · obtain ⟨dv, out, h1, h2, h3, h4, h5⟩ := mmD_sound h
    exact ⟨.none, [], [], dv, [], out, h1, h2, h3, h4, by simp, h5⟩
  · split at h
    · rename_i htu
      obtain ⟨orc, rd, wr, dv, upd, out, h1, h2⟩ := appendD_sound h
      refine ⟨orc, rd, wr, dv, upd, out, ?_, h2⟩
      simp only [denL]
      rw [if_pos htu]; exact h1
    · cases h
  · cases h

theorem map_den (ρ : Operand → DV X) (l : List Operand) : l.map (fun x => den (ρ x)) = denL (l.map ρ) := by rw [denL_map, List.map_map]; rfl

theorem opD_sound {o : Oper} {ρ : Operand → DV X} (h : opD T code i o.op ρ get k = some r) : SdOp T i o ρ get k r := by
  obtain ⟨dst, op, ty, pos, after, guard⟩ := o
  unfold SdOp absOp
  simp only at h
  unfold opD at h
  split at h
  · exact ⟨.none, [], [], _, [], _, rfl, trivial, rfl, rfl, by simp, h⟩
  · exact ⟨.none, [], [], _, [], _, rfl, trivial, rfl, rfl, by simp, h⟩
  · rename_i c a b
    split at h
    · rename_i t hc
      refine ⟨.none, [], [], _, [], ⟨pickV t (den (ρ a)) (den (ρ b)), [], []⟩, ?_, trivial, (pickD_den t _ _).symm, rfl, by simp, h⟩
      simp only [hc, den, CT.tv, TV.av, pv]
    · cases h
  · obtain ⟨dv, u, out, h1, h2, h3, h4, h5⟩ := allocD_sound h
    exact ⟨.none, [], [], dv, _, out, h1, h2, h3, h4, by simp, h5⟩
  · obtain ⟨dv, u, out, h1, h2, h3, h4, h5⟩ := boxD_sound h
    exact ⟨.none, [], [], dv, _, out, h1, h2, h3, h4, by simp, h5⟩
  · rename_i t parts
    obtain ⟨dv, out, h1, h2, h3, h4, h5⟩ := buildD_sound h
    refine ⟨.none, [], [], dv, [], out, ?_, h2, h3, h4, by simp, h5⟩
    rw [List.map_map] at h1; exact h1
  · rename_i t len parts
    obtain ⟨dv, u, out, h1, h2, h3, h4, h5⟩ := buildSliceD_sound h
    refine ⟨.none, [], [], dv, _, out, ?_, h2, h3, h4, by simp, h5⟩
    rw [List.map_map] at h1; exact h1
  · obtain ⟨orc, rd, dv, out, h1, h2, h3, h4, h5⟩ := ldD_sound h
    exact ⟨orc, rd, [], dv, [], out, h1, h2, h3, h4, by simp, h5⟩
  · obtain ⟨orc, kk, u, out, h1, h2, h3, h4, h5⟩ := stD_sound h
    exact ⟨orc, [kk], [kk], .undef, _, out, h1, h2, h3, h4, by simp, h5⟩
  · obtain ⟨dv, out, h1, h2, h3, h4, h5⟩ := binD_sound h
    exact ⟨.none, [], [], dv, [], out, h1, h2, h3, h4, by simp, h5⟩
  · obtain ⟨dv, out, h1, h2, h3, h4, h5⟩ := unD_sound h
    exact ⟨.none, [], [], dv, [], out, h1, h2, h3, h4, by simp, h5⟩
  · rename_i f first caps
    refine ⟨.none, [], [], _, [], ⟨.fn f (first.toList.map fun x => den (ρ x)) (caps.toList.map fun x => den (ρ x)), [], []⟩, rfl, trivial, ?_, rfl, by simp, h⟩
    simp only [den, map_den]
  · rename_i t x lo hi
    obtain ⟨orc, rd, dv, out, h1, h2, h3, h4, h5⟩ := sliceD_sound h
    refine ⟨orc, rd, [], dv, [], out, ?_, h2, h3, h4, by simp, h5⟩
    simp only [Option.map_map] at h1; exact h1
  · obtain ⟨dv, out, h1, h2, h3, h4, h5⟩ := fieldAddrD_sound h
    exact ⟨.none, [], [], dv, [], out, h1, h2, h3, h4, by simp, h5⟩
  · obtain ⟨dv, out, h1, h2, h3, h4, h5⟩ := fieldD_sound h
    exact ⟨.none, [], [], dv, [], out, h1, h2, h3, h4, by simp, h5⟩
  · obtain ⟨orc, rd, dv, out, h1, h2, h3, h4, h5⟩ := indexAddrD_sound h
    exact ⟨orc, rd, [], dv, [], out, h1, h2, h3, h4, by simp, h5⟩
  · obtain ⟨dv, out, h1, h2, h3, h4, h5⟩ := extractD_sound h
    exact ⟨.none, [], [], dv, [], out, h1, h2, h3, h4, by simp, h5⟩
  · rename_i b args tys
    obtain ⟨orc, rd, wr, dv, upd, out, h1, h2⟩ := builtinD_sound h
    refine ⟨orc, rd, wr, dv, upd, out, ?_, h2⟩
    simp only [map_den]; exact h1
  · cases h
end
end Go.Gb

namespace Go.Gb
open Go.RowKit

/-- What a function is given: data, the address of data that nobody writes, a function; a slice of its caller's own, the address of a variable of its caller's own, which it may change. -/
inductive AT (ι : Type) where
  | d (c : CT ι)
  | ref (c : CT ι)
  | clo (as : List (CT ι)) (r : CT ι)
  | mut (c : CT ι)
  | mref (c : CT ι)
  | nil
  deriving DecidableEq

def AT.im {ι : Type} : AT ι → Bool
  | .mut _ | .mref _ => true
  | _ => false

/-- Lent as it is, with nothing to be held in the caller. -/
def AT.pl {ι : Type} : AT ι → Bool
  | .mut _ | .mref _ | .nil => false
  | _ => true

/-- What it hands back: data, a slice in memory that nobody else holds, the whole of the j-th object that it was handed; and, behind these, what the objects hold that it was handed, in their order: a slice, a variable; one that it has given up. -/
inductive RT (ι : Type) where
  | d (c : CT ι)
  | fresh (e : CT ι)
  | whole (j : Nat)
  | mu (c : CT ι)
  | mr (c : CT ι)
  | mv

def RT.out {ι : Type} : RT ι → Bool
  | .mu _ | .mr _ | .mv => true
  | _ => false

section
variable (X : SX)
@[reducible] def AT.T : AT X.ι → Type
  | .d c => CT.T X.toSE c
  | .ref c => CT.T X.toSE c
  | .clo as r => HL X.toSE as → Option (CT.T X.toSE r)
  | .mut c => List (CT.T X.toSE c)
  | .mref c => CT.T X.toSE c
  | .nil => Unit
@[reducible] def RT.T : RT X.ι → Type
  | .d c => CT.T X.toSE c
  | .fresh e => List (CT.T X.toSE e)
  | .whole _ => Unit
  | .mu c => List (CT.T X.toSE c)
  | .mr c => CT.T X.toSE c
  | .mv => Unit
@[reducible] def ArgsT : List (AT X.ι) → Type
  | [] => Unit
  | a :: l => AT.T X a × ArgsT l
@[reducible] def ResT : List (RT X.ι) → Type
  | [] => Unit
  | [r] => RT.T X r
  | r :: r' :: l => RT.T X r × ResT (r' :: l)

structure Sig where
  args : List (AT X.ι)
  res : List (RT X.ι)
  fn : ArgsT X args → Option (ResT X res)

variable {X}
def argAVn : Nat → (l : List (AT X.ι)) → ArgsT X l → List AV
  | _, [], _ => []
  | n, .d c :: l, a => (CT.tv X.toSE c a.1).av :: argAVn n l a.2
  | n, .ref c :: l, a => .rptr (CT.row X.toSE c a.1) 0 :: argAVn n l a.2
  | n, .clo as r :: l, a => den (.clo as r a.1 : DV X) :: argAVn n l a.2
  | n, .mut _ :: l, a => .own n 0 (List.length a.1) :: argAVn (n + 1) l a.2
  | n, .mref _ :: l, a => .ptr n 0 0 :: argAVn (n + 1) l a.2
  | n, .nil :: l, a => .nilsl :: argAVn n l a.2
abbrev argAV (l : List (AT X.ι)) (a : ArgsT X l) : List AV := argAVn 0 l a

def mutR (c : CT X.ι) (l : List (CT.T X.toSE c)) : RowsT := (CT.sz X c, l.map (CT.row X.toSE c))

/-- The objects that it is handed. -/
def objA : (l : List (AT X.ι)) → ArgsT X l → List RowsT
  | [], _ => []
  | .mut c :: l, a => mutR c a.1 :: objA l a.2
  | .mref c :: l, a => mutR c [a.1] :: objA l a.2
  | .d _ :: l, a => objA l a.2
  | .ref _ :: l, a => objA l a.2
  | .clo _ _ :: l, a => objA l a.2
  | .nil :: l, a => objA l a.2

def outC : (r : RT X.ι) → RT.T X r → List (Option RowsT)
  | .mu c, x => [some (mutR c x)]
  | .mr c, x => [some (mutR c [x])]
  | .mv, _ => [none]
  | _, _ => []

/-- What they hold behind the call. -/
def objR : (l : List (RT X.ι)) → ResT X l → List (Option RowsT)
  | [], _ => []
  | [r], x => outC r x
  | r :: r' :: l, x => outC r x.1 ++ objR (r' :: l) x.2

def outN : (r : RT X.ι) → RT.T X r → List Nat
  | .mu _, x => [List.length x]
  | .mr _, _ => [1]
  | .mv, _ => [0]
  | _, _ => []

/-- How long they are. -/
def lenR : (l : List (RT X.ι)) → ResT X l → List Nat
  | [], _ => []
  | [r], x => outN r x
  | r :: r' :: l, x => outN r x.1 ++ lenR (r' :: l) x.2

def resRC (ns : List Nat) : (r : RT X.ι) → RT.T X r → List RC
  | .d c, x => [.d (CT.tv X.toSE c x)]
  | .fresh e, l => [.fresh (CT.sz X e) (l.map (CT.row X.toSE e))]
  | .whole j, _ => [.whole j (ns.getD j 0)]
  | _, _ => []

def resRCs (ns : List Nat) : (l : List (RT X.ι)) → ResT X l → List RC
  | [], _ => []
  | [r], x => resRC ns r x
  | r :: r' :: l, x => resRC ns r x.1 ++ resRCs ns (r' :: l) x.2

def resRV (l : List (RT X.ι)) (x : ResT X l) : RV :=
  match resRCs (lenR l x) l x with
  | [c] => .one c
  | cs => .tup cs

def GOk (P : Program) (Γ : FuncId → Option (Sig X)) : Prop :=
  ∀ f s, Γ f = some s → Callable P f ∧ ∀ a r, s.fn a = some r → FnW P f (argAV s.args a) (objA s.args a) (objR s.res r) (resRV s.res r)

theorem pl_im : ∀ {l : List (AT X.ι)}, (l.all fun q => q.pl) = true → (l.all fun q => !q.im) = true := fun {l} h => by
  rw [List.all_eq_true] at h ⊢
  intro q hq
  have := h q hq
  cases q <;> simp_all [AT.pl, AT.im]

theorem objA_nil : ∀ {l : List (AT X.ι)} {a : ArgsT X l}, (l.all fun q => !q.im) = true → objA l a = []
  | [], _, _ => rfl
  | .d _ :: l, a, h => objA_nil (l := l) (by simpa [AT.im] using h)
  | .ref _ :: l, a, h => objA_nil (l := l) (by simpa [AT.im] using h)
  | .clo _ _ :: l, a, h => objA_nil (l := l) (by simpa [AT.im] using h)
  | .mut _ :: l, a, h => by simp [AT.im] at h
  | .mref _ :: l, a, h => by simp [AT.im] at h
  | .nil :: l, a, h => objA_nil (l := l) (by simpa [AT.im] using h)

theorem outC_nil {r : RT X.ι} {x : RT.T X r} (h : (!r.out) = true) : outC r x = [] := by
  cases r <;> first | rfl | simp [RT.out] at h

theorem objR_nil : ∀ {l : List (RT X.ι)} {x : ResT X l}, (l.all fun q => !q.out) = true → objR l x = []
  | [], _, _ => rfl
  | [r], x, h => outC_nil (by simpa using h)
  | r :: r' :: l, x, h => by
    simp only [List.all_cons, Bool.and_eq_true] at h
    simp only [objR, outC_nil h.1, List.nil_append]
    exact objR_nil (l := r' :: l) (by simp only [List.all_cons, Bool.and_eq_true]; exact h.2)

mutual
/-- The objects that a value leads to. -/
def drefs : DV X → List Nat
  | .own k _ _ => [k]
  | .ptr k _ _ => [k]
  | .ptl k _ _ => [k]
  | .pta k _ _ _ _ => [k]
  | .agg cs => drefsL cs
  | .tup cs => drefsL cs
  | .fn _ first caps => drefsL first ++ drefsL caps
  | _ => []
def drefsL : List (DV X) → List Nat
  | [] => []
  | x :: xs => drefs x ++ drefsL xs
end

theorem refs_tv (c : CT X.ι) (x : CT.T X.toSE c) : refs (CT.tv X.toSE c x).av = [] := by
  cases c <;> try rfl
  rename_i i
  show refsL ((X.row i x).map AV.t) = []
  generalize X.row i x = l
  induction l with
  | nil => rfl
  | cons y ys ih => simp only [List.map_cons, refsL, refs, ih, List.nil_append]

mutual
theorem drefs_den : ∀ x : DV X, refs (den x) = drefs x
  | .c t x => refs_tv t x
  | .agg cs => by simp only [den, refs, drefs, drefsL_den cs]
  | .tup cs => by simp only [den, refs, drefs, drefsL_den cs]
  | .own _ _ _ => rfl
  | .ptr _ _ _ => rfl
  | .ptl _ _ _ => rfl
  | .pta _ _ _ _ _ => rfl
  | .rp _ _ _ => rfl
  | .fn f first caps => by simp only [den, refs, drefs, drefsL_den first, drefsL_den caps]
  | .clo _ _ _ => rfl
  | .raw v => by
    simp only [den, drefs, cv]
    split
    · rfl
    · split <;> rfl
  | .nil => rfl
  | .ub => rfl
  | .skip => rfl
  | .undef => rfl
theorem drefsL_den : ∀ l : List (DV X), refsL (denL l) = drefsL l
  | [] => rfl
  | x :: xs => by simp only [denL, refsL, drefsL, drefs_den x, drefsL_den xs]
end

/-- A cell as it is lent. -/
def lend1 (get : Nat → Option (DObj X)) (d : DV X) (c : CT X.ι) : Option (CT.T X.toSE c × List Bool) :=
  match d, c with
  | .own kk off len, .sl e => (get kk).bind fun o => match o with
    | .lst b l => (castC (.sl b) (.sl e) l).bind fun (l : List (CT.T X.toSE e)) => some (sub l off len, [eqL (sub l off len).length len])
    | _ => none
  | .own kk off len, .any => (get kk).bind fun o => match o with
    | .lst b l => some (.sl (List.map (CT.row X.toSE b) (sub l off len)), [eqL (sub l off len).length len])
    | _ => none
  | d, c => (dat1 d c).bind fun x => some (x, [])

def lendHL (get : Nat → Option (DObj X)) : List (DV X) → (l : List (CT X.ι)) → Option (HL X.toSE l × List Bool)
  | [], [] => some ((), [])
  | d :: ds, c :: l => (lend1 get d c).bind fun x => (lendHL get ds l).bind fun h => some ((x.1, h.1), x.2 ++ h.2)
  | _, _ => none

def lendS (get : Nat → Option (DObj X)) (d : DV X) (i : X.ι) : Option (CT.T X.toSE (.st i) × List Bool) :=
  match d with
  | .agg cs => (lendHL get cs (X.tys i)).bind fun h => some (X.make i h.1, h.2)
  | .c a x => (castC a (.st i) x).bind fun x => some (x, [])
  | _ => none

def lendD (get : Nat → Option (DObj X)) (d : DV X) (c : CT X.ι) : Option (CT.T X.toSE c × List Bool) :=
  match c with
  | .st i => lendS get d i
  | c => lend1 get d c

def lendR (get : Nat → Option (DObj X)) (d : DV X) (c : CT X.ι) : Option (CT.T X.toSE c) :=
  match d with
  | .ptr kk row 0 => (get kk).bind fun o => match o with
    | .cells _ rows => (rows[row]?).bind fun q => if q.all (fun x => match x with | .c _ _ => true | _ => false) then mkRow c q else none
    | _ => none
  | .rp a x 0 => castC a c x
  | _ => none

/-- Data as values. -/
def HL.dvs : (l : List (CT X.ι)) → HL X.toSE l → List (DV X)
  | [], _ => []
  | c :: l, h => .c c h.1 :: HL.dvs l h.2

theorem HL.dvs_den : ∀ (l : List (CT X.ι)) (h : HL X.toSE l), denL (HL.dvs l h) = (HL.tvs X.toSE l h).map TV.av
  | [], _ => rfl
  | c :: l, h => by simp only [HL.dvs, denL, den, HL.tvs, List.map_cons, HL.dvs_den l h.2]

def apA : (l l' : List (AT X.ι)) → ArgsT X l → ArgsT X l' → ArgsT X (l ++ l')
  | [], _, _, b => b
  | _ :: l, l', a, b => (a.1, apA l l' a.2 b)

def hlA : (as : List (CT X.ι)) → HL X.toSE as → ArgsT X (as.map AT.d)
  | [], _ => ()
  | _ :: l, h => (h.1, hlA l h.2)

def muts : List (AT X.ι) → Nat
  | [] => 0
  | q :: l => (if q.im then 1 else 0) + muts l

theorem argAV_append : ∀ (n : Nat) (l l' : List (AT X.ι)) (a : ArgsT X l) (b : ArgsT X l'), argAVn n (l ++ l') (apA l l' a b) = argAVn n l a ++ argAVn (n + muts l) l' b
  | n, [], _, _, _ => rfl
  | n, .d c :: l, l', a, b => by simp [argAVn, apA, argAV_append n l l' a.2 b, muts, AT.im]
  | n, .ref c :: l, l', a, b => by simp [argAVn, apA, argAV_append n l l' a.2 b, muts, AT.im]
  | n, .clo as r :: l, l', a, b => by simp [argAVn, apA, argAV_append n l l' a.2 b, muts, AT.im]
  | n, .mut c :: l, l', a, b => by simp [argAVn, apA, argAV_append (n + 1) l l' a.2 b, muts, AT.im, Nat.add_assoc]
  | n, .mref c :: l, l', a, b => by simp [argAVn, apA, argAV_append (n + 1) l l' a.2 b, muts, AT.im, Nat.add_assoc]
  | n, .nil :: l, l', a, b => by simp [argAVn, apA, argAV_append n l l' a.2 b, muts, AT.im]

theorem argAV_hlA : ∀ (n : Nat) (as : List (CT X.ι)) (h : HL X.toSE as), argAVn n (as.map AT.d) (hlA as h) = (HL.tvs X.toSE as h).map TV.av
  | _, [], _ => rfl
  | n, c :: l, h => congrArg ((CT.tv X.toSE c h.1).av :: ·) (argAV_hlA n l h.2)

def castO {a b : CT X.ι} (h : a = b) (o : Option (CT.T X.toSE a)) : Option (CT.T X.toSE b) := h ▸ o

/-- The arguments of a call, one by one; what must hold. -/
def lendLg (get : Nat → Option (DObj X)) (clof : FuncId → List (DV X) → List (DV X) → (as : List (CT X.ι)) → (r : CT X.ι) → Option ((HL X.toSE as → Option (CT.T X.toSE r)) × List Bool)) : List (DV X) → (l : List (AT X.ι)) → Option (ArgsT X l × List Bool)
  | [], [] => some ((), [])
  | d :: ds, .d c :: l => (lendD get d c).bind fun x => (lendLg get clof ds l).bind fun h => some ((x.1, h.1), x.2 ++ h.2)
  | d :: ds, .ref c :: l => (lendR get d c).bind fun x => (lendLg get clof ds l).bind fun h => some ((x, h.1), h.2)
  | d :: ds, .clo as r :: l => (match d with
    | .clo as' r' φ => if h : as' = as ∧ r' = r then some (fun x => castO h.2 (φ (h.1 ▸ x)), []) else none
    | .fn f first caps => clof f first caps as r
    | _ => none).bind fun φ => (lendLg get clof ds l).bind fun q => some ((φ.1, q.1), φ.2 ++ q.2)
  | _, _ => none

/-- Values of functions may have functions in what they have captured, up to this depth. -/
def lendA (Γ : FuncId → Option (Sig X)) (get : Nat → Option (DObj X)) : Nat → List (DV X) → (l : List (AT X.ι)) → Option (ArgsT X l × List Bool)
  | 0, ds, l => lendLg get (fun _ _ _ _ _ => none) ds l
  | n + 1, ds, l => lendLg get (fun f first caps as r => (Γ f).bind fun s => match s with
      | ⟨sa, [.d r'], fn⟩ =>
        if h : r' = r ∧ sa = sa.take first.length ++ (as.map AT.d ++ sa.drop (first.length + as.length)) then
          (lendA Γ get n first (sa.take first.length)).bind fun hf => (lendA Γ get n caps (sa.drop (first.length + as.length))).bind fun hc =>
            some (fun x => castO h.1 (fn (h.2 ▸ apA _ _ hf.1 (apA _ _ (hlA as x) hc.1))), hf.2 ++ hc.2)
        else none
      | _ => none) ds l

section
variable {P : Program} {Γ : FuncId → Option (Sig X)} {get : Nat → Option (DObj X)} {rd : List Nat}

theorem all_app {a b : List Prop} (h : ∀ p ∈ a, p) (h' : ∀ p ∈ b, p) : ∀ p ∈ a ++ b, p := fun p hp => (List.mem_append.1 hp).elim (h p) (h' p)

theorem lend1_sound {d : DV X} {c : CT X.ι} {x : CT.T X.toSE c × List Bool} (h : lend1 get d c = some x) (hc : ∀ b ∈ x.2, b = true) (hrd : ∀ j ∈ drefs d, j ∈ rd) : ∃ hs obs, (∀ p ∈ obs, p) ∧ ∀ rest, lend P (restr rd (aget get)) (den d) (hs ++ rest) = some ((CT.tv X.toSE c x.1).av, rest, obs) := by
  have base : ∀ {d : DV X} {c : CT X.ι} {x : CT.T X.toSE c}, dat1 d c = some x → ∃ hs obs, (∀ p ∈ obs, p) ∧ ∀ rest, lend P (restr rd (aget get)) (den d) (hs ++ rest) = some ((CT.tv X.toSE c x).av, rest, obs) := by
    intro d c x h
    unfold dat1 at h
    split at h
    · rw [(castC_den h).1]
      refine ⟨[], [], by simp, fun rest => ?_⟩
      simp only [List.nil_append, den]
      cases c <;> try rfl
      rename_i j
      show lend P _ (.agg ((X.row j x).map AV.t)) rest = _
      have : ∀ (l : List Tree) (hs : List LH), lendL P (restr rd (aget get)) (l.map AV.t) hs = some (l.map AV.t, hs, []) := by
        intro l
        induction l with
        | nil => intro hs; rfl
        | cons y ys ih => intro hs; simp only [List.map_cons, lendL, lend, Option.bind_some, ih, List.nil_append]
      simp only [lend, this, Option.bind_some]
      rfl
    · injection h with h
      subst h
      exact ⟨[.emp], [], by simp, fun rest => rfl⟩
    · injection h with h
      subst h
      exact ⟨[.emp], [], by simp, fun rest => rfl⟩
    · cases h
  unfold lend1 at h
  split at h
  · rename_i kk off len e
    rw [Option.bind_eq_some_iff] at h; obtain ⟨o, h1, h⟩ := h
    split at h
    · rename_i b l0
      rw [Option.bind_eq_some_iff] at h; obtain ⟨l, h2, h⟩ := h
      injection h with h
      subst h
      have h3 : (sub l off len).length = len := by simpa [eqL] using hc (eqL (sub l off len).length len) (by simp)
      obtain ⟨h4, h5⟩ := castL_den h2
      refine ⟨[.rows ((sub l off len).map (CT.row X.toSE e))], [(((denO (.lst b l0) : AObj).rows.drop off).take len = avRows ((sub l off len).map (CT.row X.toSE e)) ∧ ((sub l off len).map (CT.row X.toSE e)).length = len)], ?_, fun rest => ?_⟩
      · intro p hp
        simp only [List.mem_singleton] at hp
        subst hp
        refine ⟨?_, by simpa using h3⟩
        simp only [denO, h5]
        simp [avRows, sub, List.map_take, List.map_drop]
      · simp only [List.cons_append, List.nil_append, den, lend, restr_get (hrd kk (by simp [drefs])) h1, Option.bind_some]
        rfl
    · cases h
  · rename_i kk off len
    rw [Option.bind_eq_some_iff] at h; obtain ⟨o, h1, h⟩ := h
    split at h
    · rename_i b l0
      injection h with h
      subst h
      have h3 : (sub l0 off len).length = len := by simpa [eqL] using hc (eqL (sub l0 off len).length len) (by simp)
      refine ⟨[.rows ((sub l0 off len).map (CT.row X.toSE b))], [(((denO (.lst b l0) : AObj).rows.drop off).take len = avRows ((sub l0 off len).map (CT.row X.toSE b)) ∧ ((sub l0 off len).map (CT.row X.toSE b)).length = len)], ?_, fun rest => ?_⟩
      · intro p hp
        simp only [List.mem_singleton] at hp
        subst hp
        refine ⟨?_, by simpa using h3⟩
        simp only [denO]
        simp [avRows, sub, List.map_take, List.map_drop]
      · simp only [List.cons_append, List.nil_append, den, lend, restr_get (hrd kk (by simp [drefs])) h1, Option.bind_some]
        rfl
    · cases h
  · rw [Option.bind_eq_some_iff] at h; obtain ⟨y, h1, h⟩ := h
    injection h with h
    subst h
    exact base h1

theorem lendHL_sound : ∀ {ds : List (DV X)} {l : List (CT X.ι)} {h : HL X.toSE l × List Bool}, lendHL get ds l = some h → (∀ b ∈ h.2, b = true) → l.all CT.one = true → (∀ j ∈ drefsL ds, j ∈ rd) →
    ∃ hs obs, (∀ p ∈ obs, p) ∧ ∀ rest, lendL P (restr rd (aget get)) (denL ds) (hs ++ rest) = some ((HL.row X.toSE l h.1).map AV.t, rest, obs)
  | [], [], h, _, _, _, _ => ⟨[], [], by simp, fun rest => rfl⟩
  | d :: ds, c :: l, h, hr, hc, ha, hrd => by
    simp only [lendHL] at hr
    rw [Option.bind_eq_some_iff] at hr; obtain ⟨x, h1, hr⟩ := hr
    rw [Option.bind_eq_some_iff] at hr; obtain ⟨g, h2, hr⟩ := hr
    injection hr with hr
    subst hr
    simp only [List.all_cons, Bool.and_eq_true] at ha
    obtain ⟨hs1, o1, p1, q1⟩ := lend1_sound (P := P) (rd := rd) h1 (fun b hb => hc b (by simp [hb])) (fun j hj => hrd j (by simp [drefsL, hj]))
    obtain ⟨hs2, o2, p2, q2⟩ := lendHL_sound h2 (fun b hb => hc b (by simp [hb])) ha.2 (fun j hj => hrd j (by simp [drefsL, hj]))
    refine ⟨hs1 ++ hs2, o1 ++ o2, all_app p1 p2, fun rest => ?_⟩
    simp only [denL, lendL, List.append_assoc, q1, Option.bind_some, q2]
    show _ = some ((CT.row X.toSE c x.1 ++ HL.row X.toSE l g.1).map AV.t, rest, o1 ++ o2)
    rw [List.map_append, ← tv_one ha.1 x.1]; rfl
  | [], _ :: _, _, hr, _, _, _ => by simp [lendHL] at hr
  | _ :: _, [], _, hr, _, _, _ => by simp [lendHL] at hr

theorem lendD_sound {d : DV X} {c : CT X.ι} {x : CT.T X.toSE c × List Bool} (h : lendD get d c = some x) (hc : ∀ b ∈ x.2, b = true) (hrd : ∀ j ∈ drefs d, j ∈ rd) : ∃ hs obs, (∀ p ∈ obs, p) ∧ ∀ rest, lend P (restr rd (aget get)) (den d) (hs ++ rest) = some ((CT.tv X.toSE c x.1).av, rest, obs) := by
  cases c
  case st i =>
    replace h : lendS get d i = some x := h
    cases d
    case agg cs =>
      simp only [lendS] at h
      rw [Option.bind_eq_some_iff] at h; obtain ⟨g, h1, h⟩ := h
      injection h with h
      subst h
      obtain ⟨hs, obs, p1, q1⟩ := lendHL_sound (P := P) (rd := rd) h1 hc (X.flat i) (fun j hj => hrd j (by simpa [drefs] using hj))
      refine ⟨hs, obs, p1, fun rest => ?_⟩
      simp only [den, lend, q1, Option.bind_some, CT.tv, TV.av]
      rw [X.row_make]
    case c a y => exact lend1_sound (c := .st i) (x := x) (by unfold lend1; exact h) hc hrd
    all_goals cases h
  all_goals exact lend1_sound h hc hrd

theorem lendR_sound {d : DV X} {c : CT X.ι} {x : CT.T X.toSE c} (h : lendR get d c = some x) (hrd : ∀ j ∈ drefs d, j ∈ rd) : ∃ hs obs, (∀ p ∈ obs, p) ∧ ∀ rest, lend P (restr rd (aget get)) (den d) (hs ++ rest) = some (.rptr (CT.row X.toSE c x) 0, rest, obs) := by
  unfold lendR at h
  split at h
  · rename_i kk row
    rw [Option.bind_eq_some_iff] at h; obtain ⟨o, h1, h⟩ := h
    split at h
    · rename_i sz rows
      rw [Option.bind_eq_some_iff] at h; obtain ⟨q, h2, h⟩ := h
      split at h
      · rename_i hq
        refine ⟨[.row (CT.row X.toSE c x)], [(denO (.cells sz rows) : AObj).rows[row]? = some ((CT.row X.toSE c x).map AV.t)], ?_, fun rest => ?_⟩
        · intro p hp
          simp only [List.mem_singleton] at hp
          subst hp
          simp only [denO, List.getElem?_map, h2, Option.map_some]
          rw [← mkRow_den h, denL_map, List.map_map]
          congr 1
          refine List.map_congr_left fun y hy => ?_
          have := List.all_eq_true.1 hq y hy
          cases y <;> first | exact (wk_tv _).symm | simp at this
        · simp only [List.cons_append, List.nil_append, den, lend, restr_get (hrd kk (by simp [drefs])) h1, Option.bind_some]
      · cases h
    · cases h
  · rename_i a y
    refine ⟨[], [], by simp, fun rest => ?_⟩
    simp only [den, (castC_den h).2]; rfl
  · cases h

theorem argAV_cast {n : Nat} {l l' : List (AT X.ι)} (e : l = l') (b : ArgsT X l) : argAVn n l' (e ▸ b) = argAVn n l b := by subst e; rfl

theorem lendLg_nm {clof : FuncId → List (DV X) → List (DV X) → (as : List (CT X.ι)) → (r : CT X.ι) → Option ((HL X.toSE as → Option (CT.T X.toSE r)) × List Bool)} : ∀ {ds : List (DV X)} {l : List (AT X.ι)} {a : ArgsT X l × List Bool}, lendLg get clof ds l = some a → (l.all fun q => !q.im) = true
  | [], [], _, _ => rfl
  | d :: ds, .d c :: l, a, h => by
    simp only [lendLg] at h
    rw [Option.bind_eq_some_iff] at h; obtain ⟨x, h1, h⟩ := h
    rw [Option.bind_eq_some_iff] at h; obtain ⟨q, h2, h⟩ := h
    simpa [AT.im] using lendLg_nm h2
  | d :: ds, .ref c :: l, a, h => by
    simp only [lendLg] at h
    rw [Option.bind_eq_some_iff] at h; obtain ⟨x, h1, h⟩ := h
    rw [Option.bind_eq_some_iff] at h; obtain ⟨q, h2, h⟩ := h
    simpa [AT.im] using lendLg_nm h2
  | d :: ds, .clo as r :: l, a, h => by
    simp only [lendLg] at h
    rw [Option.bind_eq_some_iff] at h; obtain ⟨x, h1, h⟩ := h
    rw [Option.bind_eq_some_iff] at h; obtain ⟨q, h2, h⟩ := h
    simpa [AT.im] using lendLg_nm h2
  | _ :: _, .mut _ :: _, _, h => by simp [lendLg] at h
  | _ :: _, .mref _ :: _, _, h => by simp [lendLg] at h
  | _ :: _, .nil :: _, _, h => by simp [lendLg] at h
  | [], _ :: _, _, h => by simp [lendLg] at h
  | _ :: _, [], _, h => by simp [lendLg] at h

theorem lendA_nm : ∀ {n : Nat} {ds : List (DV X)} {l : List (AT X.ι)} {a : ArgsT X l × List Bool}, lendA Γ get n ds l = some a → (l.all fun q => !q.im) = true
  | 0, _, _, _, h => lendLg_nm h
  | _ + 1, _, _, _, h => lendLg_nm h

theorem mapD_nm : ∀ as : List (CT X.ι), ((as.map AT.d).all fun q => !q.im) = true
  | [] => rfl
  | _ :: l => mapD_nm l

/-- What is lent as a function. -/
def CloOk (P : Program) (get : Nat → Option (DObj X)) (clof : FuncId → List (DV X) → List (DV X) → (as : List (CT X.ι)) → (r : CT X.ι) → Option ((HL X.toSE as → Option (CT.T X.toSE r)) × List Bool)) : Prop :=
  ∀ f first caps as r φ rd, clof f first caps as r = some φ → (∀ b ∈ φ.2, b = true) → (∀ j ∈ drefsL first ++ drefsL caps, j ∈ rd) → ∃ hs obs, (∀ p ∈ obs, p) ∧ ∀ rest, lend P (restr rd (aget get)) (.fn f (denL first) (denL caps)) (hs ++ rest) = some (den (.clo as r φ.1 : DV X), rest, obs)

theorem lendLg_sound {n : Nat} {clof : FuncId → List (DV X) → List (DV X) → (as : List (CT X.ι)) → (r : CT X.ι) → Option ((HL X.toSE as → Option (CT.T X.toSE r)) × List Bool)} (hclo : CloOk P get clof) : ∀ {ds : List (DV X)} {l : List (AT X.ι)} {a : ArgsT X l × List Bool}, lendLg get clof ds l = some a → (∀ b ∈ a.2, b = true) → (∀ j ∈ drefsL ds, j ∈ rd) →
    ∃ hs obs, (∀ p ∈ obs, p) ∧ ∀ rest, lendL P (restr rd (aget get)) (denL ds) (hs ++ rest) = some (argAVn n l a.1, rest, obs)
  | [], [], _, _, _, _ => ⟨[], [], by simp, fun rest => rfl⟩
  | d :: ds, .d c :: l, a, h, hc, hrd => by
    simp only [lendLg] at h
    rw [Option.bind_eq_some_iff] at h; obtain ⟨x, h1, h⟩ := h
    rw [Option.bind_eq_some_iff] at h; obtain ⟨q, h2, h⟩ := h
    injection h with h
    subst h
    obtain ⟨hs1, o1, p1, q1⟩ := lendD_sound (P := P) (rd := rd) h1 (fun b hb => hc b (by simp [hb])) (fun j hj => hrd j (by simp [drefsL, hj]))
    obtain ⟨hs2, o2, p2, q2⟩ := lendLg_sound (n := n) hclo h2 (fun b hb => hc b (by simp [hb])) (fun j hj => hrd j (by simp [drefsL, hj]))
    refine ⟨hs1 ++ hs2, o1 ++ o2, all_app p1 p2, fun rest => ?_⟩
    simp only [denL, lendL, List.append_assoc, q1, Option.bind_some, q2, argAVn]
  | d :: ds, .ref c :: l, a, h, hc, hrd => by
    simp only [lendLg] at h
    rw [Option.bind_eq_some_iff] at h; obtain ⟨x, h1, h⟩ := h
    rw [Option.bind_eq_some_iff] at h; obtain ⟨q, h2, h⟩ := h
    injection h with h
    subst h
    obtain ⟨hs1, o1, p1, q1⟩ := lendR_sound (P := P) (rd := rd) h1 (fun j hj => hrd j (by simp [drefsL, hj]))
    obtain ⟨hs2, o2, p2, q2⟩ := lendLg_sound (n := n) hclo h2 hc (fun j hj => hrd j (by simp [drefsL, hj]))
    refine ⟨hs1 ++ hs2, o1 ++ o2, all_app p1 p2, fun rest => ?_⟩
    simp only [denL, lendL, List.append_assoc, q1, Option.bind_some, q2, argAVn]
  | d :: ds, .clo as r :: l, a, h, hc, hrd => by
    simp only [lendLg] at h
    rw [Option.bind_eq_some_iff] at h; obtain ⟨φ, h1, h⟩ := h
    rw [Option.bind_eq_some_iff] at h; obtain ⟨q, h2, h⟩ := h
    injection h with h
    subst h
    have hd : ∃ hs obs, (∀ p ∈ obs, p) ∧ ∀ rest, lend P (restr rd (aget get)) (den d) (hs ++ rest) = some (den (.clo as r φ.1 : DV X), rest, obs) := by
      cases d
      case clo as' r' ψ =>
        simp only at h1
        split at h1
        · rename_i e
          obtain ⟨rfl, rfl⟩ := e
          injection h1 with h1
          subst h1
          exact ⟨[], [], by simp, fun rest => rfl⟩
        · cases h1
      case fn f first caps =>
        obtain ⟨hs, obs, g1, g2⟩ := hclo f first caps as r φ rd h1 (fun b hb => hc b (by simp [hb])) (fun j hj => hrd j (by simp only [drefsL, drefs, List.mem_append] at hj ⊢; exact .inl hj))
        exact ⟨hs, obs, g1, fun rest => by simp only [den]; exact g2 rest⟩
      all_goals simp at h1
    obtain ⟨hs1, o1, p1, q1⟩ := hd
    obtain ⟨hs2, o2, p2, q2⟩ := lendLg_sound (n := n) hclo h2 (fun b hb => hc b (by simp [hb])) (fun j hj => hrd j (by simp [drefsL, hj]))
    refine ⟨hs1 ++ hs2, o1 ++ o2, all_app p1 p2, fun rest => ?_⟩
    simp only [denL, lendL, List.append_assoc, q1, Option.bind_some, q2, argAVn]
  | _ :: _, .mut _ :: _, _, h, _, _ => by simp [lendLg] at h
  | _ :: _, .mref _ :: _, _, h, _, _ => by simp [lendLg] at h
  | _ :: _, .nil :: _, _, h, _, _ => by simp [lendLg] at h
  | [], _ :: _, _, h, _, _ => by simp [lendLg] at h
  | _ :: _, [], _, h, _, _ => by simp [lendLg] at h

theorem lendA_sound (hΓ : GOk P Γ) : ∀ (m : Nat) {n : Nat} {ds : List (DV X)} {l : List (AT X.ι)} {a : ArgsT X l × List Bool} {rd : List Nat}, lendA Γ get m ds l = some a → (∀ b ∈ a.2, b = true) → (∀ j ∈ drefsL ds, j ∈ rd) →
    ∃ hs obs, (∀ p ∈ obs, p) ∧ ∀ rest, lendL P (restr rd (aget get)) (denL ds) (hs ++ rest) = some (argAVn n l a.1, rest, obs)
  | 0, n, ds, l, a, rd, h, hcs, hrd => lendLg_sound (fun _ _ _ _ _ _ _ h => by cases h) h hcs hrd
  | m + 1, n, ds, l, a, rd, h, hcs, hrd => by
    refine lendLg_sound (fun f first caps as r φ rd' hc hb hrd' => ?_) h hcs hrd
    rw [Option.bind_eq_some_iff] at hc; obtain ⟨s, h1, hc⟩ := hc
    split at hc
    · rename_i sa r' fn
      split at hc
      · rename_i e
        obtain ⟨rfl, e2⟩ := e
        rw [Option.bind_eq_some_iff] at hc; obtain ⟨hf, h2, hc⟩ := hc
        rw [Option.bind_eq_some_iff] at hc; obtain ⟨hcap, h3, hc⟩ := hc
        injection hc with hc
        rw [← hc] at hb
        obtain ⟨g1, g2⟩ := hΓ f _ h1
        obtain ⟨hs1, o1, p1, q1⟩ := lendA_sound hΓ m h2 (n := 0) (rd := rd') (fun b hb' => hb b (by simp [hb'])) (fun j hj => hrd' j (by simp [hj]))
        obtain ⟨hs2, o2, p2, q2⟩ := lendA_sound hΓ m h3 (n := 0 + muts (sa.take first.length) + muts (as.map AT.d)) (rd := rd') (fun b hb' => hb b (by simp [hb'])) (fun j hj => hrd' j (by simp [hj]))
        refine ⟨.clo (fun ts u => ∃ h x, φ.1 h = some x ∧ ts = HL.tvs X.toSE as h ∧ u = CT.tv X.toSE r' x) :: (hs1 ++ hs2), o1 ++ (o2 ++ [Callable P f ∧ ∀ args r, (∃ h x, φ.1 h = some x ∧ args = HL.tvs X.toSE as h ∧ r = CT.tv X.toSE r' x) → FnP P f (argAVn 0 _ hf.1 ++ args.map TV.av ++ argAVn (0 + muts (sa.take first.length) + muts (as.map AT.d)) _ hcap.1) (.one (.d r))]), ?_, fun rest => ?_⟩
        · intro p hp
          simp only [List.mem_append, List.mem_singleton] at hp
          rcases hp with hp | hp | hp
          · exact p1 p hp
          · exact p2 p hp
          · subst hp
            refine ⟨g1, ?_⟩
            rintro args r ⟨x, y, hxy, rfl, rfl⟩
            rw [← hc] at hxy
            have hxy' : fn (e2 ▸ apA _ _ hf.1 (apA _ _ (hlA as x) hcap.1)) = some y := hxy
            have := g2 _ _ hxy'
            have hnm : (sa.all fun q => !q.im) = true := by
              rw [e2, List.all_append, List.all_append, lendA_nm h2, lendA_nm h3, mapD_nm]; rfl
            rw [objA_nil hnm, argAV, argAV_cast e2.symm, argAV_append, argAV_append, argAV_hlA, ← List.append_assoc] at this
            exact fnP_of_W this
        · simp only [List.cons_append, List.append_assoc, lend, q1, Option.bind_some, q2]
          rfl
      · cases hc
    · cases hc
end
end
end Go.Gb

namespace Go.Gb
open Go.RowKit

def strAt (s : ByteArray) (n : Int) : Option Int := bif decide (0 ≤ n) then (s[n.toNat]?).map fun b => (b.toNat : Int) else none
def mkOk (m : Int) (bytes : Nat) : Bool := decide (0 ≤ m) && decide (m.toNat * bytes ≤ 140737488355328) && decide (m.toNat ≤ maxLen)

section
variable {X : SX} {A : Type}
theorem denL_append (a b : List (DV X)) : denL (a ++ b) = denL a ++ denL b := by simp [denL_map]
theorem denU_append (a b : List (Nat × Option (DObj X))) : denU (a ++ b) = denU a ++ denU b := by simp [denU]
def goneD (ids : List Nat) : List (Nat × Option (DObj X)) := ids.map fun j => (j, none)
theorem goneD_den (ids : List Nat) : denU (goneD (X := X) ids) = ids.map fun k => (k, none) := by simp [denU, goneD]
theorem goneD_mem {ids : List Nat} {p : Nat × Option (DObj X)} (h : p ∈ goneD ids) : p.1 ∈ ids := by
  simp only [goneD, List.mem_map] at h
  obtain ⟨j, hj, rfl⟩ := h
  exact hj


variable (T : Tab) (code : TypeId → Option (CT X.ι))

def isNilD : DV X → Bool
  | .nil => true
  | _ => false

def nilK (op : BinOp) (b : DV X) (yes : Bool) (k : KK X A) : Option A :=
  match op with
  | .eql => bif yes then k b [] [] [] else k (.c .bool false) [] [] []
  | .neq => bif yes then k b [] [] [] else k (.c .bool true) [] [] []
  | _ => none

def nilD (op : BinOp) (t : TypeId) (x : DV X) (k : KK X A) : Option A :=
  (T t).bind fun ti => match ti.k, x with
  | .slice _, .c (.sl _) l => nilK op .ub (List.isEmpty l) k
  | .slice _, .own _ _ len => nilK op .ub (len == 0) k
  | .slice _, .nil => nilK op (.c .bool (op == .eql)) true k
  | _, _ => none

def convD (s d : TypeId) (x : DV X) (k : KK X A) : Option A :=
  (T s).bind fun _ => (T d).bind fun di => match di.k, x with
  | .int kd, .c (.int _) n => k (.c (.int kd) (kd.wrap (iN n))) [] [] []
  | _, _ => none

def indexD (t : TypeId) (x j : DV X) (k : KK X A) : Option A :=
  (T t).bind fun ti => match ti.k, x, j with
  | .str, .c .str s, .c (.int _) n => (strAt s n).bind fun b => k (.c (.int .u8) b) [] [] []
  | _, _, _ => none

def sliceNilD (t : TypeId) (x : DV X) (lo hi : Option (DV X)) (k : KK X A) : Option A :=
  (T t).bind fun ti => match ti.k, x with
  | .slice e, .nil => (T e).bind fun _ => (bndD 0 lo).bind fun l => (bndD 0 hi).bind fun h => bif decide (l = 0) && decide (h = 0) then k .nil [] [] [] else none
  | _, _ => none

def builtin2D (i : Nat) (b : Builtin) (args : List (DV X)) (tys : List TypeId) (get : Nat → Option (DObj X)) (k : KK X A) : Option A :=
  match b, args, tys with
  | .cap, [.nil], [t] => (T t).bind fun ti => match ti.k with
    | .slice _ => k (.c (.int .i64) (0 : Int)) [] [] []
    | _ => none
  | .clear, [.own kk off _], [t] => (T t).bind fun ti => match ti.k with
    | .slice e => (T e).bind fun ei => (get kk).bind fun o => match o with
      | .lst c l => if CT.sz X c = ei.size then k (.tup []) [(kk, some (.lst c (l.take off)))] [kk] [kk] else none
      | _ => none
    | _ => none
  | .append, [.nil, .c (.int _) m], [t, u] => (T t).bind fun ti => (T u).bind fun ui => match ti.k, ui.k with
    | .slice e, .int _ => (T e).bind fun ei => (code e).bind fun c => if CT.sz X c = ei.size ∧ 0 < ei.size then (mkRow c (ei.zero.map cvD)).bind fun z =>
        bif mkOk (iN m) ei.bytes then k (.own (nid i) 0 m.toNat) [(nid i, some (.lst c (List.replicate m.toNat z)))] [] [] else none else none
    | _, _ => none
  | _, _, _ => none

def nilCheckD (x : DV X) (k : KK X A) : Option A :=
  match x with
  | .ptr kk r f => k (.ptr kk r f) [] [] []
  | .ptl kk n f => k (.ptl kk n f) [] [] []
  | .pta kk r f m n => k (.pta kk r f m n) [] [] []
  | .rp c y f => k (.rp c y f) [] [] []
  | _ => none

def makeD (i : Nat) (t : TypeId) (l c : DV X) (k : KK X A) : Option A :=
  (T t).bind fun ti => match ti.k, l, c with
  | .slice e, .c (.int _) n, .c (.int _) m => (T e).bind fun ei => (code e).bind fun c => if CT.sz X c = ei.size ∧ 0 < ei.size then (mkRow c (ei.zero.map cvD)).bind fun z =>
      bif decide (iN n ≤ iN m) && (decide (0 ≤ iN n) && mkOk (iN m) ei.bytes) then k (.own (nid i) 0 n.toNat) [(nid i, some (.lst c (List.replicate n.toNat z)))] [] [] else none else none
  | _, _, _ => none

def isExt (o : Op) (ρ : Operand → DV X) : Bool :=
  match o with
  | .binOp _ _ _ y _ => isNilD (ρ y)
  | .convert _ _ _ => true
  | .index _ _ _ => true
  | .nilCheck _ => true
  | .makeSlice _ _ _ => true
  | .slice _ x _ _ none => isNilD (ρ x)
  | .call { callee := .builtin b, args := args, argTypes := _ } => match b, args.toList.map ρ with
    | .cap, _ => true
    | .clear, _ => true
    | .append, [_, .c (.int _) _] => true
    | _, _ => false
  | _ => false

def extD (i : Nat) (o : Op) (ρ : Operand → DV X) (get : Nat → Option (DObj X)) (k : KK X A) : Option A :=
  match o with
  | .binOp op t x y _ => if isNilD (ρ y) then nilD T op t (ρ x) k else none
  | .convert s d x => convD T s d (ρ x) k
  | .index t x j => indexD T t (ρ x) (ρ j) k
  | .slice t x lo hi none => sliceNilD T t (ρ x) (lo.map ρ) (hi.map ρ) k
  | .nilCheck x => nilCheckD (ρ x) k
  | .makeSlice t l c => makeD T code i t (ρ l) (ρ c) k
  | .call { callee := .builtin b, args := args, argTypes := tys } => builtin2D T code i b (args.toList.map ρ) tys.toList get k
  | _ => none

/-- An operand as it becomes data; what must hold; its objects. -/
def frzV (get : Nat → Option (DObj X)) (c : CT X.ι) (ρ : Operand → DV X) (x : Operand) : DV X :=
  match lendD get (ρ x) c with
  | some y => .c c y.1
  | none => ρ x
def frzC (get : Nat → Option (DObj X)) (c : CT X.ι) (ρ : Operand → DV X) : List Operand → List Bool
  | [] => []
  | x :: xs => (match lendD get (ρ x) c with | some y => y.2 | none => []) ++ frzC get c ρ xs
def frzI (get : Nat → Option (DObj X)) (c : CT X.ι) (ρ : Operand → DV X) : List Operand → List Nat
  | [] => []
  | x :: xs => (match lendD get (ρ x) c with | some _ => drefs (ρ x) | none => []) ++ frzI get c ρ xs

def frzCode (o : Op) (ρ : Operand → DV X) (get : Nat → Option (DObj X)) : Option (CT X.ι) :=
  match o with
  | .box t _ => code t
  | .assign x | .move x => match ρ x with
    | .own kk _ _ => (get kk).bind fun o => match o with
      | .lst c _ => some (.sl c)
      | _ => none
    | _ => none
  | .buildSlice t _ _ => (T t).bind fun ti => match ti.k with
    | .slice e => code e
    | _ => none
  | .store t _ _ => code t
  | _ => none

def isFrz (o : Op) (ρ : Operand → DV X) : Bool :=
  match o with
  | .buildSlice _ _ parts => !(drefsL (parts.toList.map fun p => ρ p.2)).isEmpty
  | .store _ a x => match ρ a with
    | .ptl _ _ _ => !(drefs (ρ x)).isEmpty
    | _ => false
  | _ => false

def frzD (i : Nat) (o : Op) (ρ : Operand → DV X) (get : Nat → Option (DObj X)) (k : KK X A) : Option A :=
  if isPick o then none else (frzCode T code o ρ get).bind fun c => chkA (frzC get c ρ o.operands.toList)
    (opD T code i o (frzV get c ρ) (fun j => if j ∈ frzI get c ρ o.operands.toList then none else get j) fun dv upd rd wr =>
      k dv (upd ++ goneD (frzI get c ρ o.operands.toList)) (rd ++ frzI get c ρ o.operands.toList) (wr ++ frzI get c ρ o.operands.toList))

def isArr (o : Op) (ρ : Operand → DV X) : Bool :=
  match o with
  | .indexAddr t x (.tmp _) => match ρ x, T t with
    | .ptr _ _ _, some ti => match ti.k with
      | .arr _ e => match T e with
        | some ei => ei.size == 1
        | none => false
      | _ => false
    | _, _ => false
  | .load _ a => match ρ a with
    | .pta _ _ _ _ _ => true
    | _ => false
  | _ => false

def segL (c : CT X.ι) : List (DV X) → Option (List (CT.T X.toSE c))
  | [] => some []
  | .c a x :: r => (castC a c x).bind fun y => (segL c r).bind fun l => some (y :: l)
  | _ => none

def arrD (o : Op) (ρ : Operand → DV X) (get : Nat → Option (DObj X)) (k : KK X A) : Option A :=
  match o with
  | .indexAddr t x j => (T t).bind fun ti => match ti.k, ρ x, ρ j with
    | .arr m e, .ptr kk row off, .c (.int _) n => (T e).bind fun ei => if ei.size = 1 then bif inb n m then k (.pta kk row off m n) [] [] [] else none else none
    | _, _, _ => none
  | .load t a => (T t).bind fun ti => match ρ a with
    | .pta kk row off m n => if ti.size = 1 ∧ ti.agg = false then (code t).bind fun c => if c.one = true then (get kk).bind fun o => match o with
      | .cells _ rows => (rows[row]?).bind fun q => (segL c ((q.drop off).take m)).bind fun (xs : List (CT.T X.toSE c)) => (at? xs n).bind fun y => k (.c c y) [] [kk] []
      | _ => none
      else none else none
    | _ => none
  | _ => none

variable {T code}

/-- What an operation has come to. -/
def SdAny (P : Program) (T : Tab) (i : Nat) (o : Oper) (ρ : Operand → DV X) (get : Nat → Option (DObj X)) (k : KK X A) (r : A) : Prop :=
  ∃ orc rd wr dv upd out, absAny P T i o orc (fun x => den (ρ x)) (restr rd (aget get)) = some out ∧ AllP out.obs ∧ out.v = den dv ∧ out.upd = denU upd ∧ (∀ p ∈ upd, p.1 = nid i ∨ p.1 ∈ wr) ∧ k dv upd rd wr = some r

section
variable {P : Program} {get : Nat → Option (DObj X)} {k : KK X A} {r : A} {i : Nat} {o : Oper} {ρ : Operand → DV X}

theorem aLen_orc {t : TypeId} {x : AV} {orc : Orc} (h : (∃ n, orc = .ext n) ∨ ∃ ids fr q, orc = .frz ids fr q) : aLen T t x .none = aLen T t x orc := by
  unfold aLen
  cases T t with
  | none => rfl
  | some ti =>
    simp only [Option.bind_some]
    generalize ti.k = kk
    rcases h with ⟨n, rfl⟩ | ⟨ids, fr, q, rfl⟩ <;> cases kk <;> try rfl
    all_goals cases x <;> try rfl
    all_goals (rename_i y; cases y <;> try rfl)
    all_goals (rename_i y; cases y <;> rfl)

theorem aIndexAddr_orc {t : TypeId} {x j : AV} {orc : Orc} {get : Nat → Option AObj} (h : (∃ n, orc = .ext n) ∨ ∃ ids fr q, orc = .frz ids fr q) : aIndexAddr T t x j .none get = aIndexAddr T t x j orc get := by
  unfold aIndexAddr
  cases T t with
  | none => rfl
  | some ti =>
    simp only [Option.bind_some]
    generalize ti.k = kk
    cases kk <;> try rfl
    case arr m e =>
      cases j <;> try rfl
      rename_i y
      cases y <;> try rfl
      rename_i y
      cases y <;> rfl
    cases j <;> try rfl
    rename_i e y
    cases y <;> try rfl
    rename_i y
    cases y <;> try rfl
    simp only
    cases T e with
    | none => rfl
    | some ei =>
      simp only [Option.bind_some]
      rcases h with ⟨n, rfl⟩ | ⟨ids, fr, q, rfl⟩ <;> cases x <;> try rfl
      all_goals (rename_i z; cases z <;> rfl)

theorem aAppend_orc {t : TypeId} {x y : AV} {orc : Orc} {get : Nat → Option AObj} (h : (∃ n, orc = .ext n) ∨ ∃ ids fr q, orc = .frz ids fr q) : aAppend T i t x y .none get = aAppend T i t x y orc get := by
  unfold aAppend
  rcases h with ⟨n, rfl⟩ | ⟨ids, fr, q, rfl⟩ <;> rfl

theorem absOp_orc {orc : Orc} {ρ : Operand → AV} {get : Nat → Option AObj} (h : (∃ n, orc = .ext n) ∨ ∃ ids fr q, orc = .frz ids fr q) : absOp T i o .none ρ get = absOp T i o orc ρ get := by
  obtain ⟨dst, op, ty, pos, after, guard⟩ := o
  cases op
  case call c =>
    obtain ⟨callee, args, tys⟩ := c
    cases callee <;> try rfl
    rename_i b
    simp only [absOp, aBuiltin]
    split
    · exact aLen_orc h
    · rfl
    · rfl
    · rw [aAppend_orc h]
    · rfl
  case slice t x lo hi mx => cases mx <;> rcases h with ⟨n, rfl⟩ | ⟨ids, fr, q, rfl⟩ <;> rfl
  case makeFunc fn a b => cases fn <;> rfl
  case indexAddr t x j => exact aIndexAddr_orc h
  all_goals (rcases h with ⟨n, rfl⟩ | ⟨ids, fr, q, rfl⟩ <;> rfl)

theorem SdAny.ext {n : Int} {rd wr : List Nat} {dv : DV X} {upd : List (Nat × Option (DObj X))} {out : Out} (h : absExt T i o n (fun x => den (ρ x)) (restr rd (aget get)) = some out) (h1 : AllP out.obs) (h2 : out.v = den dv) (h3 : out.upd = denU upd) (h4 : ∀ p ∈ upd, p.1 = nid i ∨ p.1 ∈ wr) (h5 : k dv upd rd wr = some r) (hx : isX2 o.op = false := by rfl) : SdAny P T i o ρ get k r :=
  ⟨.ext n, rd, wr, dv, upd, out, by show absExtA T i o n _ _ = some out; unfold absExtA; rw [hx]; exact h, h1, h2, h3, h4, h5⟩

theorem SdAny.ext2 {n : Int} {rd wr : List Nat} {dv : DV X} {upd : List (Nat × Option (DObj X))} {out : Out} (h : absExt2 T i o n (fun x => den (ρ x)) (restr rd (aget get)) = some out) (h1 : AllP out.obs) (h2 : out.v = den dv) (h3 : out.upd = denU upd) (h4 : ∀ p ∈ upd, p.1 = nid i ∨ p.1 ∈ wr) (h5 : k dv upd rd wr = some r) (hx : isX2 o.op = true := by rfl) : SdAny P T i o ρ get k r :=
  ⟨.ext n, rd, wr, dv, upd, out, by show absExtA T i o n _ _ = some out; unfold absExtA; rw [hx]; exact h, h1, h2, h3, h4, h5⟩

theorem nilCheckD_sound {x : DV X} (h : nilCheckD x k = some r) : ∃ dv, aNilCheck (den x) = some ⟨den dv, [], []⟩ ∧ k dv [] [] [] = some r := by
  cases x <;> simp only [nilCheckD] at h <;> first | cases h | exact ⟨_, rfl, h⟩

theorem absAny_op {orc : Orc} {ρ : Operand → AV} {get : Nat → Option AObj} (hne : ∀ f args tys, o.op ≠ .call { callee := .value f, args := args, argTypes := tys }) (ho : ∀ n, orc ≠ .ext n) (hf : ∀ ids fr q, orc ≠ .frz ids fr q) : absAny P T i o orc ρ get = absOp T i o orc ρ get := by
  have e : ∀ (α : Type) (a : Operand → Array Operand → Array TypeId → α) (b : α), (match o.op with | .call { callee := .value f, args := args, argTypes := tys } => a f args tys | _ => b) = b := by
    intro α a b
    split
    · rename_i f args tys heq
      exact (hne f args tys heq).elim
    · rfl
  cases orc <;> first | exact (ho _ rfl).elim | exact (hf _ _ _ rfl).elim | exact e _ _ _

theorem SdAny.op {orc : Orc} {rd wr : List Nat} {dv : DV X} {upd : List (Nat × Option (DObj X))} {out : Out} (hne : ∀ f args tys, o.op ≠ .call { callee := .value f, args := args, argTypes := tys })
    (h : absOp T i o orc (fun x => den (ρ x)) (restr rd (aget get)) = some out) (h1 : AllP out.obs ∧ out.v = den dv ∧ out.upd = denU upd ∧ (∀ p ∈ upd, p.1 = nid i ∨ p.1 ∈ wr) ∧ k dv upd rd wr = some r) : SdAny P T i o ρ get k r := by
  obtain ⟨orc', h'⟩ : ∃ orc', absAny P T i o orc' (fun x => den (ρ x)) (restr rd (aget get)) = some out := by
    by_cases hx : (∃ n, orc = .ext n) ∨ ∃ ids fr q, orc = .frz ids fr q
    · refine ⟨.none, ?_⟩
      rw [absAny_op hne (by simp) (by simp), absOp_orc hx, h]
    · simp only [not_or, not_exists] at hx
      exact ⟨orc, by rw [absAny_op hne hx.1 (fun ids fr q => hx.2 ids fr q), h]⟩
  exact ⟨orc', rd, wr, dv, upd, out, h', h1⟩

theorem SdAny.call {dst : Option Tmp} {f : Operand} {args : Array Operand} {tys : Array TypeId} {ty : TypeId} {pos : String} {after : Array Edge} {guard : Option (Nat × Bool)} {orc : Orc} {rd wr : List Nat} {dv : DV X} {upd : List (Nat × Option (DObj X))} {out : Out}
    (h : absCallX P i (den (ρ f)) (args.toList.map fun x => den (ρ x)) orc (restr rd (aget get)) = some out) (h1 : AllP out.obs ∧ out.v = den dv ∧ out.upd = denU upd ∧ (∀ p ∈ upd, p.1 = nid i ∨ p.1 ∈ wr) ∧ k dv upd rd wr = some r) :
    SdAny P T i ⟨dst, .call { callee := .value f, args := args, argTypes := tys }, ty, pos, after, guard⟩ ρ get k r := by
  refine ⟨orc, rd, wr, dv, upd, out, ?_, h1⟩
  unfold absAny
  split
  · unfold absCallX absCall at h; simp only at h; split at h <;> first | cases h | (rename_i e; cases e)
  · unfold absCallX absCall at h; simp only at h; split at h <;> first | cases h | (rename_i e; cases e)
  · exact h

theorem nilK_some {op : BinOp} {b : DV X} {yes : Bool} (h : nilK op b yes k = some r) : ∃ dv out, nilB op (den b) yes = some out ∧ AllP out.obs ∧ out.v = den dv ∧ out.upd = [] ∧ k dv [] [] [] = some r := by
  unfold nilK at h
  split at h
  · cases yes with
    | true => exact ⟨b, _, rfl, trivial, rfl, rfl, h⟩
    | false => exact ⟨.c .bool false, _, rfl, trivial, rfl, rfl, h⟩
  · cases yes with
    | true => exact ⟨b, _, rfl, trivial, rfl, rfl, h⟩
    | false => exact ⟨.c .bool true, _, rfl, trivial, rfl, rfl, h⟩
  · cases h

theorem nilD_sound {op : BinOp} {t : TypeId} {x : DV X} (h : nilD T op t x k = some r) : ∃ dv out, aNil T op t (den x) .nilsl = some out ∧ AllP out.obs ∧ out.v = den dv ∧ out.upd = [] ∧ k dv [] [] [] = some r := by
  unfold nilD at h
  rw [Option.bind_eq_some_iff] at h; obtain ⟨ti, h1, h⟩ := h
  split at h
  · rename_i e c l hk
    obtain ⟨dv, out, g1, g2⟩ := nilK_some h
    refine ⟨dv, out, ?_, g2⟩
    simp only [aNil, h1, Option.bind_some, hk, den, CT.tv, TV.av]
    rw [← g1]
    congr 1
    cases l <;> rfl
  · rename_i e kk off len hk
    obtain ⟨dv, out, g1, g2⟩ := nilK_some h
    exact ⟨dv, out, by simp only [aNil, h1, Option.bind_some, hk, den]; exact g1, g2⟩
  · rename_i e hk
    obtain ⟨dv, out, g1, g2⟩ := nilK_some h
    exact ⟨dv, out, by simp only [aNil, h1, Option.bind_some, hk, den]; exact g1, g2⟩
  · cases h

theorem strAt_some {s : ByteArray} {n b : Int} (h : strAt s n = some b) : 0 ≤ n ∧ ∃ c, s[n.toNat]? = some c ∧ b = c.toNat := by
  unfold strAt at h
  by_cases hn : 0 ≤ n
  · simp only [hn, decide_true, cond_true, Option.map_eq_some_iff] at h
    obtain ⟨c, h1, h2⟩ := h
    exact ⟨hn, c, h1, h2.symm⟩
  · simp [hn] at h

theorem mkOk_spec {m : Int} {bytes : Nat} (h : mkOk m bytes = true) : 0 ≤ m ∧ m.toNat * bytes ≤ 140737488355328 ∧ m.toNat ≤ maxLen := by
  simpa [mkOk, and_assoc] using h

theorem builtin2D_sound {b : Builtin} {args : List (DV X)} {tys : List TypeId} (h : builtin2D T code i b args tys get k = some r) :
    ∃ rd wr dv upd out, aBuiltin2 T i b (denL args) tys (restr rd (aget get)) = some out ∧ AllP out.obs ∧ out.v = den dv ∧ out.upd = denU upd ∧ (∀ p ∈ upd, p.1 = nid i ∨ p.1 ∈ wr) ∧ k dv upd rd wr = some r := by
  unfold builtin2D at h
  split at h
  · rename_i t
    rw [Option.bind_eq_some_iff] at h; obtain ⟨ti, h1, h⟩ := h
    split at h
    · rename_i e hk
      refine ⟨[], [], _, [], ⟨.t (.sc (.int .i64 0)), [], []⟩, ?_, trivial, rfl, rfl, by simp, h⟩
      simp only [aBuiltin2, denL, den, h1, Option.bind_some, hk]; rfl
    · cases h
  · rename_i kk off len t
    rw [Option.bind_eq_some_iff] at h; obtain ⟨ti, h1, h⟩ := h
    split at h
    · rename_i e hk
      rw [Option.bind_eq_some_iff] at h; obtain ⟨ei, h2, h⟩ := h
      rw [Option.bind_eq_some_iff] at h; obtain ⟨o, h3, h⟩ := h
      split at h
      · rename_i c l
        split at h
        · rename_i hs
          refine ⟨[kk], [kk], _, _, ⟨.tup [], [(kk, some ⟨CT.sz X c, (avRows (l.map (CT.row X.toSE c))).take off⟩)], []⟩, ?_, trivial, rfl, ?_, by simp, h⟩
          · simp only [aBuiltin2, denL, den, h1, Option.bind_some, hk, h2, restr_get (List.mem_singleton_self kk) h3, denO]
            rw [if_pos hs]
          · simp [denU, denO, avRows, List.map_take]
        · cases h
      · cases h
    · cases h
  · rename_i kd m t u
    rw [Option.bind_eq_some_iff] at h; obtain ⟨ti, h1, h⟩ := h
    rw [Option.bind_eq_some_iff] at h; obtain ⟨ui, h2, h⟩ := h
    split at h
    · rename_i e kn hk hk'
      rw [Option.bind_eq_some_iff] at h; obtain ⟨ei, h3, h⟩ := h
      rw [Option.bind_eq_some_iff] at h; obtain ⟨c, h4, h⟩ := h
      split at h
      · rename_i hs
        rw [Option.bind_eq_some_iff] at h; obtain ⟨z, h5, h⟩ := h
        obtain ⟨h6, h⟩ := cond_some h
        obtain ⟨m1, m2, m3⟩ := mkOk_spec h6
        have hz := mkRow_den h5
        rw [cvDs_den] at hz
        refine ⟨[], [], _, _, ⟨.own (nid i) 0 m.toNat, [(nid i, some ⟨ei.size, wkRows (List.replicate m.toNat (ei.zero.map cv))⟩)], [0 ≤ m ∧ m.toNat * ei.bytes ≤ 140737488355328 ∧ m.toNat ≤ maxLen ∧ 0 < ei.size]⟩, ?_, ?_, rfl, ?_, by simp, h⟩
        · simp only [aBuiltin2, denL, den, CT.tv, TV.av, h1, h2, h3, Option.bind_some, hk, hk']
        · exact ⟨m1, m2, m3, hs.2⟩
        · simp only [denU, List.map_cons, List.map_nil, Option.map_some, denO, hs.1, avRows, wkRows, List.map_replicate]
          rw [hz]
      · cases h
    · cases h
  · cases h

theorem makeD_sound {t : TypeId} {l c : DV X} (h : makeD T code i t l c k = some r) : ∃ dv upd out, aMake T i t (den l) (den c) = some out ∧ AllP out.obs ∧ out.v = den dv ∧ out.upd = denU upd ∧ (∀ p ∈ upd, p.1 = nid i) ∧ k dv upd [] [] = some r := by
  unfold makeD at h
  rw [Option.bind_eq_some_iff] at h; obtain ⟨ti, h1, h⟩ := h
  split at h
  · rename_i e kl n kc m hk
    rw [Option.bind_eq_some_iff] at h; obtain ⟨ei, h3, h⟩ := h
    rw [Option.bind_eq_some_iff] at h; obtain ⟨c, h4, h⟩ := h
    split at h
    · rename_i hs
      rw [Option.bind_eq_some_iff] at h; obtain ⟨z, h5, h⟩ := h
      obtain ⟨h6, h⟩ := cond_some h
      simp only [Bool.and_eq_true, decide_eq_true_eq] at h6
      obtain ⟨h7, h8, h9⟩ := h6
      obtain ⟨m1, m2, m3⟩ := mkOk_spec h9
      have hz := mkRow_den h5
      rw [cvDs_den] at hz
      refine ⟨_, _, ⟨.own (nid i) 0 n.toNat, [(nid i, some ⟨ei.size, wkRows (List.replicate n.toNat (ei.zero.map cv))⟩)], [0 ≤ n ∧ n ≤ m ∧ m.toNat * ei.bytes ≤ 140737488355328 ∧ m.toNat ≤ maxLen ∧ 0 < ei.size]⟩, ?_, ?_, rfl, ?_, by simp, h⟩
      · simp only [aMake, den, CT.tv, TV.av, h1, h3, Option.bind_some, hk]
      · exact ⟨h8, h7, m2, m3, hs.2⟩
      · simp only [denU, List.map_cons, List.map_nil, Option.map_some, denO, hs.1, avRows, wkRows, List.map_replicate]
        rw [hz]
    · cases h
  · cases h

theorem extD_sound (h : extD T code i o.op ρ get k = some r) : SdAny P T i o ρ get k r := by
  obtain ⟨dst, op, ty, pos, after, guard⟩ := o
  unfold extD at h
  simp only at h
  split at h
  · rename_i op t x y q
    split at h
    · rename_i hn
      obtain ⟨dv, out, g1, g2, g3, g4, g5⟩ := nilD_sound h
      have hy : den (ρ y) = .nilsl := by
        cases hρ : ρ y <;> rw [hρ] at hn <;> first | rfl | cases hn
      exact SdAny.ext (n := 0) (rd := []) (wr := []) (upd := []) (by simp only [absExt, hy]; exact g1) g2 g3 g4 (by simp) g5
    · cases h
  · rename_i s d x
    unfold convD at h
    rw [Option.bind_eq_some_iff] at h; obtain ⟨si, h1, h⟩ := h
    rw [Option.bind_eq_some_iff] at h; obtain ⟨di, h2, h⟩ := h
    split at h
    · rename_i kd k' n hk hx
      refine SdAny.ext (n := 0) (rd := []) (wr := []) (upd := []) (out := ⟨.t (.sc (.int kd (kd.wrap n))), [], []⟩) ?_ trivial rfl rfl (by simp) h
      simp only [absExt, aConv, h1, h2, Option.bind_some, hk, hx]; rfl
    · cases h
  · rename_i t x j
    unfold indexD at h
    rw [Option.bind_eq_some_iff] at h; obtain ⟨ti, h1, h⟩ := h
    split at h
    · rename_i s kk n hk hx hj
      rw [Option.bind_eq_some_iff] at h; obtain ⟨b, h2, h⟩ := h
      refine SdAny.ext (n := b) (rd := []) (wr := []) (upd := []) (out := ⟨.t (.sc (.int .u8 b)), [], [0 ≤ n ∧ ∃ c, s[n.toNat]? = some c ∧ b = c.toNat]⟩) ?_ (strAt_some h2) rfl rfl (by simp) h
      simp only [absExt, aIndex, h1, Option.bind_some, hk, hx, hj]; rfl
    · cases h
  · rename_i t x lo hi
    unfold sliceNilD at h
    rw [Option.bind_eq_some_iff] at h; obtain ⟨ti, h1, h⟩ := h
    split at h
    · rename_i e hk hx
      rw [Option.bind_eq_some_iff] at h; obtain ⟨ei, h2, h⟩ := h
      rw [Option.bind_eq_some_iff] at h; obtain ⟨l, h3, h⟩ := h
      rw [Option.bind_eq_some_iff] at h; obtain ⟨hh, h4, h⟩ := h
      obtain ⟨h5, h⟩ := cond_some h
      refine SdAny.ext (n := 0) (rd := []) (wr := []) (upd := []) (out := ⟨.nilsl, [], [l = 0 ∧ hh = 0]⟩) ?_ (show l = 0 ∧ hh = 0 by simpa using h5) rfl rfl (by simp) h
      have e1 := bndD_den h3
      have e2 := bndD_den h4
      rw [Option.map_map] at e1 e2
      simp only [absExt, aSliceNil, h1, Option.bind_some, hk, hx, h2, den]
      have e1' : bnd 0 (lo.map fun x => den (ρ x)) = some l := e1
      have e2' : bnd 0 (hi.map fun x => den (ρ x)) = some hh := e2
      rw [e1', Option.bind_some, e2']; rfl
    · cases h
  · rename_i x
    obtain ⟨dv, g1, g2⟩ := nilCheckD_sound h
    exact SdAny.ext2 (n := 0) (rd := []) (wr := []) (upd := []) g1 trivial rfl rfl (by simp) g2
  · rename_i t l c
    obtain ⟨dv, upd, out, g1, g2, g3, g4, g5, g6⟩ := makeD_sound h
    exact SdAny.ext2 (n := 0) (rd := []) (wr := []) (upd := upd) g1 g2 g3 g4 (fun p hp => .inl (g5 p hp)) g6
  · rename_i b args tys
    obtain ⟨rd, wr, dv, upd, out, g1, g2, g3, g4, g5, g6⟩ := builtin2D_sound h
    refine SdAny.ext (n := 0) (rd := rd) (wr := wr) (upd := upd) ?_ g2 g3 g4 g5 g6
    simp only [absExt, map_den]; exact g1
  · cases h

theorem frzI_mem {c : CT X.ι} : ∀ {xs : List Operand} {x : Operand} {y : CT.T X.toSE c × List Bool}, x ∈ xs → lendD get (ρ x) c = some y → ∀ j ∈ drefs (ρ x), j ∈ frzI get c ρ xs
  | z :: xs, x, y, hx, h, j, hj => by
    simp only [frzI, List.mem_append]
    rcases List.mem_cons.1 hx with rfl | hx
    · left; rw [h]; exact hj
    · exact .inr (frzI_mem hx h j hj)
  | [], _, _, hx, _, _, _ => by simp at hx

theorem frzC_mem {c : CT X.ι} : ∀ {xs : List Operand} {x : Operand} {y : CT.T X.toSE c × List Bool}, x ∈ xs → lendD get (ρ x) c = some y → ∀ b ∈ y.2, b ∈ frzC get c ρ xs
  | z :: xs, x, y, hx, h, b, hb => by
    simp only [frzC, List.mem_append]
    rcases List.mem_cons.1 hx with rfl | hx
    · left; rw [h]; exact hb
    · exact .inr (frzC_mem hx h b hb)
  | [], _, _, hx, _, _, _ => by simp at hx

theorem frzD_sound (h : frzD T code i o.op ρ get k = some r) : SdAny P T i o ρ get k r := by
  unfold frzD at h
  split at h
  · cases h
  rename_i hpick
  rw [Option.bind_eq_some_iff] at h; obtain ⟨c, h1, h⟩ := h
  obtain ⟨hcs, h⟩ := chkA_some h
  obtain ⟨orc, rd, wr, dv, upd, out, g1, g2, g3, g4, g5, g6⟩ := opD_sound h
  generalize hids : frzI get c ρ o.op.operands.toList = ids at *
  refine ⟨.frz ids (fun x => den (frzV get c ρ x)) orc, rd ++ ids, wr ++ ids, dv, upd ++ goneD ids, ⟨out.v, out.upd ++ ids.map (fun k => (k, none)), out.obs ++ [∀ x ∈ o.op.operands, (Bor P (restr (rd ++ ids) (aget get)) (den (ρ x)) (den (frzV get c ρ x)) ∧ ∀ k ∈ refs (den (ρ x)), k ∈ ids) ∨ den (frzV get c ρ x) = den (ρ x)]⟩, ?_, ?_, g3, ?_, ?_, g6⟩
  · unfold absAny absFrz
    simp only
    rw [if_neg hpick]
    have e : (fun k => if k ∈ ids then none else restr (rd ++ ids) (aget get) k) = restr rd (aget fun j => if j ∈ ids then none else get j) := by
      funext j
      simp only [restr, aget, List.mem_append]
      by_cases hj : j ∈ ids
      · simp [hj]
      · simp [hj]
    rw [e, g1]; rfl
  · refine AllP_of _ fun p hp => ?_
    rcases List.mem_append.1 hp with hp | hp
    · exact AllP_all _ g2 p hp
    · rw [List.mem_singleton] at hp
      subst hp
      intro x hx
      unfold frzV
      cases hl : lendD get (ρ x) c with
      | none => exact .inr rfl
      | some y =>
        left
        have hx' : x ∈ o.op.operands.toList := by simpa using hx
        have hin : ∀ j ∈ drefs (ρ x), j ∈ ids := fun j hj => hids ▸ frzI_mem hx' hl j hj
        obtain ⟨hs, obs, p1, p2⟩ := lendD_sound (P := P) (rd := rd ++ ids) hl (fun b hb => hcs b (frzC_mem hx' hl b hb)) (fun j hj => List.mem_append_right _ (hin j hj))
        refine ⟨?_, fun j hj => hin j (by rwa [drefs_den] at hj)⟩
        have := p2 []
        exact lend_sound _ _ _ this p1
  · simp only [denU_append, goneD_den, g4]
  · intro p hp
    rcases List.mem_append.1 hp with hp | hp
    · exact (g5 p hp).imp id (fun h => List.mem_append_left _ h)
    · exact .inr (List.mem_append_right _ (goneD_mem hp))

theorem segL_den {c : CT X.ι} : ∀ {ds : List (DV X)} {xs : List (CT.T X.toSE c)}, segL c ds = some xs → denL ds = xs.map fun y => den (.c c y : DV X)
  | [], xs, h => by simp only [segL, Option.some.injEq] at h; subst h; rfl
  | .c a x :: ds, xs, h => by
    simp only [segL] at h
    rw [Option.bind_eq_some_iff] at h; obtain ⟨y, h1, h⟩ := h
    rw [Option.bind_eq_some_iff] at h; obtain ⟨l, h2, h⟩ := h
    injection h with h; subst h
    simp only [denL, List.map_cons, segL_den h2, (castC_den h1).1]
  | .agg _ :: _, _, h => by simp [segL] at h
  | .tup _ :: _, _, h => by simp [segL] at h
  | .own _ _ _ :: _, _, h => by simp [segL] at h
  | .ptr _ _ _ :: _, _, h => by simp [segL] at h
  | .ptl _ _ _ :: _, _, h => by simp [segL] at h
  | .pta _ _ _ _ _ :: _, _, h => by simp [segL] at h
  | .rp _ _ _ :: _, _, h => by simp [segL] at h
  | .fn _ _ _ :: _, _, h => by simp [segL] at h
  | .clo _ _ _ :: _, _, h => by simp [segL] at h
  | .raw _ :: _, _, h => by simp [segL] at h
  | .nil :: _, _, h => by simp [segL] at h
  | .ub :: _, _, h => by simp [segL] at h
  | .skip :: _, _, h => by simp [segL] at h
  | .undef :: _, _, h => by simp [segL] at h

theorem arrD_sound (h : arrD T code o.op ρ get k = some r) : SdAny P T i o ρ get k r := by
  obtain ⟨dst, op, ty, pos, after, guard⟩ := o
  unfold arrD at h
  simp only at h
  split at h
  · rename_i t x j
    rw [Option.bind_eq_some_iff] at h; obtain ⟨ti, h1, h⟩ := h
    split at h
    · rename_i m e kk row off kd n hk hx hj
      rw [Option.bind_eq_some_iff] at h; obtain ⟨ei, h2, h⟩ := h
      split at h
      · rename_i hs
        obtain ⟨h3, h⟩ := cond_some h
        refine SdAny.op (orc := .none) (rd := []) (wr := []) (upd := []) (fun _ _ _ e => by cases e) (out := ⟨.ptr kk row (off + n.toNat * 1), [], [0 ≤ n ∧ n.toNat < m]⟩) ?_ ⟨?_, ?_, rfl, by simp, h⟩
        · simp only [absOp, aIndexAddr, h1, Option.bind_some, hk, hx, hj, den, CT.tv, TV.av, h2, hs]; rfl
        · simp only [inb, Bool.and_eq_true, decide_eq_true_eq] at h3
          exact ⟨h3.1, by omega⟩
        · simp only [den, Nat.mul_one]
      · cases h
    · cases h
  · rename_i t a
    rw [Option.bind_eq_some_iff] at h; obtain ⟨ti, h1, h⟩ := h
    split at h
    · rename_i kk row off m n hx
      split at h
      · rename_i hs
        rw [Option.bind_eq_some_iff] at h; obtain ⟨c, h2, h⟩ := h
        split at h
        · rename_i hc
          rw [Option.bind_eq_some_iff] at h; obtain ⟨ob, h3, h⟩ := h
          split at h
          · rename_i sz rows
            rw [Option.bind_eq_some_iff] at h; obtain ⟨q, h4, h⟩ := h
            rw [Option.bind_eq_some_iff] at h; obtain ⟨xs, h5, h⟩ := h
            rw [Option.bind_eq_some_iff] at h; obtain ⟨y, h6, h⟩ := h
            obtain ⟨_, h7⟩ := at_some h6
            have h8 := segL_den h5
            have h9 : ((denL q).drop (off + n.toNat)).take 1 = [den (.c c y : DV X)] := by
              have e1 : (denL ((q.drop off).take m))[n.toNat]? = some (den (.c c y : DV X)) := by rw [h8, List.getElem?_map, h7]; rfl
              rw [denL_drop_take, List.getElem?_take] at e1
              split at e1
              · rw [List.getElem?_drop] at e1
                obtain ⟨g1, g2⟩ := List.getElem?_eq_some_iff.1 e1
                rw [List.drop_eq_getElem_cons g1, List.take_succ_cons, List.take_zero, g2]
              · cases e1
            refine SdAny.op (orc := .none) (rd := [kk]) (wr := []) (upd := []) (fun _ _ _ e => by cases e) (out := ⟨den (.c c y : DV X), [], []⟩) ?_ ⟨trivial, rfl, rfl, by simp, h⟩
            simp only [absOp, aLoad, h1, Option.bind_some, hx, den, restr_get (List.mem_singleton_self kk) h3, denO, List.getElem?_map, h4, Option.map_some, hs.1, hs.2]
            rw [h9]
            obtain ⟨t', g1, g2⟩ := row_one hc y
            simp only [den, g2, TV.av]
            rfl
          · cases h
        · cases h
      · cases h
    · cases h
  · cases h
end
end
end Go.Gb
