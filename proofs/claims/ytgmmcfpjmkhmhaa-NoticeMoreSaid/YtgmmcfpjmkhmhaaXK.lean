/-
  Shapes of states: what is kept at a join and at a loop's head.
-/
import Derived.Test.YtgmmcfpjmkhmhaaXJ
namespace Go.Gb
open Go.RowKit

/-- A slot's value: a datum that varies, a whole slice of the call's own, the address of an object, nil, a function, an aggregate. -/
inductive Pt (ι : Type) where
  | v (c : CT ι)
  | o (k : Nat)
  | p (k : Nat)
  | nil
  | f (F : FuncId)
  | a (ps : List (Pt ι))

inductive OP (ι : Type) where
  | l (c : CT ι)
  | c (sz : Nat) (rows : List (List (Pt ι)))

/-- What a state is told as: the slots and the objects that change, those that stay as they were, the next name. -/
structure Sh (ι : Type) where
  slots : List (Nat × Pt ι)
  objs : List (Nat × OP ι)
  keep : List Nat
  keepO : List Nat
  nx : Nat
  nils : List (Nat × CT ι)

section
variable {ι : Type}
mutual
def Pt.vars : Pt ι → List (CT ι)
  | .v c => [c]
  | .a ps => varsL ps
  | _ => []
def varsL : List (Pt ι) → List (CT ι)
  | [] => []
  | p :: ps => p.vars ++ varsL ps
end
def varsS : List (Nat × Pt ι) → List (CT ι)
  | [] => []
  | p :: ps => p.2.vars ++ varsS ps
def varsR : List (List (Pt ι)) → List (CT ι)
  | [] => []
  | r :: rs => varsL r ++ varsR rs
def varsO : List (Nat × OP ι) → List (CT ι)
  | [] => []
  | (_, .l c) :: r => .sl c :: varsO r
  | (_, .c _ rows) :: r => varsR rows ++ varsO r
def Sh.vars (s : Sh ι) : List (CT ι) := varsS s.slots ++ varsO s.objs
end

section
variable {X : SX}
structure DC (X : SX) where
  c : CT X.ι
  x : CT.T X.toSE c

/-- Some data, as one value. -/
@[reducible] def VT : List (CT X.ι) → Type
  | [] => Unit
  | [c] => CT.T X.toSE c
  | c :: c' :: l => CT.T X.toSE c × VT (c' :: l)

def toVT : (l : List (CT X.ι)) → List (DC X) → Option (VT (X := X) l)
  | [], [] => some ()
  | [c], [d] => castC d.c c d.x
  | c :: c' :: l, d :: ds => (castC d.c c d.x).bind fun x => (toVT (c' :: l) ds).bind fun v => some (x, v)
  | _, _ => none

def dcsV : (l : List (CT X.ι)) → VT (X := X) l → List (DC X)
  | [], _ => []
  | [c], x => [⟨c, x⟩]
  | c :: c' :: l, v => ⟨c, v.1⟩ :: dcsV (c' :: l) v.2

theorem castC_dc {d : DC X} {c : CT X.ι} {x : CT.T X.toSE c} (h : castC d.c c d.x = some x) : (⟨c, x⟩ : DC X) = d := by
  obtain ⟨a, y⟩ := d
  obtain ⟨e, h⟩ := castC_some h
  simp only at e
  subst e; subst h; rfl

theorem toVT_dcs : ∀ {l : List (CT X.ι)} {ds : List (DC X)} {v : VT (X := X) l}, toVT l ds = some v → dcsV l v = ds
  | [], [], _, _ => rfl
  | [c], [d], v, h => by simp only [toVT] at h; simp only [dcsV, castC_dc h]
  | c :: c' :: l, d :: ds, v, h => by
    simp only [toVT] at h
    rw [Option.bind_eq_some_iff] at h; obtain ⟨x, h1, h⟩ := h
    rw [Option.bind_eq_some_iff] at h; obtain ⟨v', h2, h⟩ := h
    injection h with h
    subst h
    simp only [dcsV, castC_dc h1, toVT_dcs h2]
  | [], _ :: _, _, h => by simp [toVT] at h
  | [_], [], _, h => by simp [toVT] at h
  | [_], _ :: _ :: _, _, h => by simp [toVT] at h
  | _ :: _ :: _, [], _, h => by simp [toVT] at h

/-- What has been matched so far: names, data, what must hold. -/
structure MA (X : SX) where
  nm : List (Nat × Nat)
  dcs : List (DC X)
  chk : List Bool

def addN (m : MA X) (k' k : Nat) : MA X := if m.nm.contains (k', k) then m else ⟨m.nm ++ [(k', k)], m.dcs, m.chk⟩

section
variable (get : Nat → Option (DObj X))
mutual
def mP : Pt X.ι → DV X → MA X → Option (MA X)
  | .v c, d, m => (dat d c).bind fun x => some ⟨m.nm, m.dcs ++ [⟨c, x⟩], m.chk⟩
  | .o k, d, m => match d with
    | .own k' 0 len => (get k').bind fun o => match o with
      | .lst _ l => some (addN ⟨m.nm, m.dcs, m.chk ++ [eqL len l.length]⟩ k' k)
      | _ => none
    | _ => none
  | .p k, d, m => match d with
    | .ptr k' 0 0 => some (addN m k' k)
    | _ => none
  | .nil, d, m => match d with
    | .nil => some m
    | _ => none
  | .f F, d, m => match d with
    | .fn F' [] [] => if F = F' then some m else none
    | _ => none
  | .a ps, d, m => match d with
    | .agg ds => mPs ps ds m
    | _ => none
def mPs : List (Pt X.ι) → List (DV X) → MA X → Option (MA X)
  | [], [], m => some m
  | p :: ps, d :: ds, m => (mP p d m).bind fun m => mPs ps ds m
  | _, _, _ => none
end

def mSlots (env : Nat → DV X) : List (Nat × Pt X.ι) → MA X → Option (MA X)
  | [], m => some m
  | (t, p) :: r, m => (mP get p (env t) m).bind fun m => mSlots env r m

def mRows : List (List (Pt X.ι)) → List (List (DV X)) → MA X → Option (MA X)
  | [], [], m => some m
  | r :: rs, q :: qs, m => (mPs get r q m).bind fun m => mRows rs qs m
  | _, _, _ => none

def nameOf (m : MA X) (k : Nat) : Nat := match m.nm.find? (fun q => q.2 == k) with | some q => q.1 | none => k

def mObjs : List (Nat × OP X.ι) → MA X → Option (MA X)
  | [], m => some m
  | (k, op) :: r, m => (get (nameOf m k)).bind fun o => match op, o with
    | .l c, .lst c' l => (castC (.sl c') (.sl c) l).bind fun l' => mObjs r (addN ⟨m.nm, m.dcs ++ [⟨.sl c, l'⟩], m.chk⟩ (nameOf m k) k)
    | .c sz rows, .cells sz' rows' => if sz = sz' then (mRows get rows rows' (addN m (nameOf m k) k)).bind fun m => mObjs r m else none
    | _, _ => none
end

section
variable (olen : Nat → Nat)
mutual
def eP : Pt X.ι → List (DC X) → DV X × List (DC X)
  | .v _, L => match L with
    | d :: r => (.c d.c d.x, r)
    | [] => (.undef, [])
  | .o k, L => (.own k 0 (olen k), L)
  | .p k, L => (.ptr k 0 0, L)
  | .nil, L => (.nil, L)
  | .f F, L => (.fn F [] [], L)
  | .a ps, L => (.agg (ePs ps L).1, (ePs ps L).2)
def ePs : List (Pt X.ι) → List (DC X) → List (DV X) × List (DC X)
  | [], L => ([], L)
  | p :: ps, L => ((eP p L).1 :: (ePs ps (eP p L).2).1, (ePs ps (eP p L).2).2)
end
def eSlots : List (Nat × Pt X.ι) → List (DC X) → List (Nat × DV X)
  | [], _ => []
  | (t, p) :: r, L => (t, (eP olen p L).1) :: eSlots r (eP olen p L).2
def eRows : List (List (Pt X.ι)) → List (DC X) → List (List (DV X)) × List (DC X)
  | [], L => ([], L)
  | r :: rs, L => ((ePs olen r L).1 :: (eRows rs (ePs olen r L).2).1, (eRows rs (ePs olen r L).2).2)
def eObjs : List (Nat × OP X.ι) → List (DC X) → List (Nat × Option (DObj X))
  | [], _ => []
  | (k, .l _) :: r, L => match L with
    | ⟨.sl c', x⟩ :: L => (k, some (.lst c' x)) :: eObjs r L
    | _ => []
  | (k, .c sz rows) :: r, L => (k, some (.cells sz (eRows olen rows L).1)) :: eObjs r (eRows olen rows L).2
end

/-- The lengths of the lists among the objects. -/
def lens : List (Nat × OP X.ι) → List (DC X) → List (Nat × Nat)
  | [], _ => []
  | (k, .l _) :: r, L => match L with
    | ⟨.sl _, x⟩ :: L => (k, List.length x) :: lens r L
    | _ => []
  | (_, .c _ rows) :: r, L => lens r (L.drop (varsR rows).length)

/-- A nil slice in a slot, as an own slice of no rows. -/
def nil1 (s : DSt X) (t : Nat) (c : CT X.ι) : DSt X :=
  match lke s.env t with
  | .nil => if s.nx < 1000000 then ⟨(t, .own s.nx 0 0) :: s.env, (s.nx, some (.lst c [])) :: s.obj, s.nx + 1, s.nx :: s.log⟩ else s
  | _ => s
def nilAll : List (Nat × CT X.ι) → DSt X → DSt X
  | [], s => s
  | (t, c) :: r, s => nilAll r (nil1 s t c)

def isU : DV X → Bool
  | .undef | .skip => true
  | _ => false

def encS (sh : Sh X.ι) (s0 : DSt X) (v : VT (X := X) sh.vars) : DSt X :=
  let L := dcsV sh.vars v
  let n := (varsS sh.slots).length
  let ol := fun k => (lk (lens sh.objs (L.drop n)) k).getD 0
  ⟨eSlots ol sh.slots (L.take n) ++ sh.keep.map (fun t => (t, lke s0.env t)), eObjs ol sh.objs (L.drop n) ++ sh.keepO.map (fun k => (k, lko s0.obj k)), sh.nx,
    (List.range s0.nx).filter (fun k => !sh.keepO.contains k) ++ s0.log⟩

def okS (sh : Sh X.ι) (ds : List Nat) (s0 s' : DSt X) (m : MA X) : Bool :=
  decide (m.nm.map (·.1) ++ sh.keepO).Nodup && decide (m.nm.map (·.2) ++ sh.keepO).Nodup && decide (sh.objs.map (·.1)).Nodup && m.nm.all (fun q => (sh.objs.map (·.1)).contains q.2 && decide (q.2 < sh.nx) && (decide (q.1 = q.2) || decide (1000 ≤ q.2))) &&
    sh.slots.all (fun p => ds.contains p.1) && sh.keep.all (fun t => !ds.contains t && !isU (lke s'.env t) && (drefs (lke s0.env t)).all fun j => sh.keepO.contains j || m.nm.contains (j, j)) &&
    sh.keepO.all (fun k => decide (k < s0.nx) && !(s'.log.take (s'.log.length - s0.log.length)).contains k && (lko s'.obj k).isSome && match lko s0.obj k with | some o => (orefs o).all fun j => sh.keepO.contains j || m.nm.contains (j, j) | none => false) &&
    decide (s0.nx ≤ sh.nx) && decide (sh.nx ≤ 1000000)

/-- A state at its end, told as a shape says. -/
def matchT {A : Type} (sh : Sh X.ι) (ds : List Nat) (s0 s' : DSt X) (k : VT (X := X) sh.vars → Option A) : Option A :=
  (mSlots (lko s'.obj) (lke s'.env) sh.slots ⟨[], [], []⟩).bind fun m => (mObjs (lko s'.obj) sh.objs m).bind fun m => bif okS sh ds s0 s' m then (toVT sh.vars m.dcs).bind fun v => chkA m.chk (k v) else none

def matchS {A : Type} (sh : Sh X.ι) (ds : List Nat) (s0 s' : DSt X) (k : VT (X := X) sh.vars → Option A) : Option A :=
  bif sh.nils.all (fun p => ds.contains p.1) then matchT sh ds s0 (nilAll sh.nils s') k else none
end
end Go.Gb
