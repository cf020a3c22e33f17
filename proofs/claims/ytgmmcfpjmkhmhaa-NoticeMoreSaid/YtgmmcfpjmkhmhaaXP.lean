/-
  More operations of the typed walk.
-/
import Derived.Test.YtgmmcfpjmkhmhaaXF
namespace Go.Gb
open Go.RowKit

def strAt (s : ByteArray) (n : Int) : Option Int := bif decide (0 ≤ n) then (s[n.toNat]?).map fun b => (b.toNat : Int) else none
def mkOk (m : Int) (bytes : Nat) : Bool := decide (0 ≤ m) && decide (m.toNat * bytes ≤ 140737488355328) && decide (m.toNat ≤ maxLen)

section
variable {X : SX} {A : Type}
theorem denL_append (a b : List (DV X)) : denL (a ++ b) = denL a ++ denL b := by simp [denL_map]
theorem denU_append (a b : List (Nat × Option (DObj X))) : denU (a ++ b) = denU a ++ denU b := by simp [denU]
def goneD (ids : List Nat) : List (Nat × Option (DObj X)) := ids.map fun j => (j, none)
theorem goneD_den (ids : List Nat) : denU (goneD (X := X) ids) = ids.map fun k => (k, none) := by simp [denU, goneD]
theorem goneD_mem {ids : List Nat} {p : Nat × Option (DObj X)} (h : p ∈ goneD ids) : p.1 ∈ ids := by
  simp only [goneD, List.mem_map] at h
  obtain ⟨j, hj, rfl⟩ := h
  exact hj


variable (T : Tab) (code : TypeId → Option (CT X.ι))

def isNilD : DV X → Bool
  | .nil => true
  | _ => false

def nilK (op : BinOp) (b : DV X) (yes : Bool) (k : KK X A) : Option A :=
  match op with
  | .eql => bif yes then k b [] [] [] else k (.c .bool false) [] [] []
  | .neq => bif yes then k b [] [] [] else k (.c .bool true) [] [] []
  | _ => none

def nilD (op : BinOp) (t : TypeId) (x : DV X) (k : KK X A) : Option A :=
  (T t).bind fun ti => match ti.k, x with
  | .slice _, .c (.sl _) l => nilK op .ub (List.isEmpty l) k
  | .slice _, .own _ _ len => nilK op .ub (len == 0) k
  | .slice _, .nil => nilK op (.c .bool (op == .eql)) true k
  | _, _ => none

def convD (s d : TypeId) (x : DV X) (k : KK X A) : Option A :=
  (T s).bind fun _ => (T d).bind fun di => match di.k, x with
  | .int kd, .c (.int _) n => k (.c (.int kd) (kd.wrap (iN n))) [] [] []
  | _, _ => none

def indexD (t : TypeId) (x j : DV X) (k : KK X A) : Option A :=
  (T t).bind fun ti => match ti.k, x, j with
  | .str, .c .str s, .c (.int _) n => (strAt s n).bind fun b => k (.c (.int .u8) b) [] [] []
  | _, _, _ => none

def sliceNilD (t : TypeId) (x : DV X) (lo hi : Option (DV X)) (k : KK X A) : Option A :=
  (T t).bind fun ti => match ti.k, x with
  | .slice e, .nil => (T e).bind fun _ => (bndD 0 lo).bind fun l => (bndD 0 hi).bind fun h => bif decide (l = 0) && decide (h = 0) then k .nil [] [] [] else none
  | _, _ => none

def builtin2D (i : Nat) (b : Builtin) (args : List (DV X)) (tys : List TypeId) (get : Nat → Option (DObj X)) (k : KK X A) : Option A :=
  match b, args, tys with
  | .cap, [.nil], [t] => (T t).bind fun ti => match ti.k with
    | .slice _ => k (.c (.int .i64) (0 : Int)) [] [] []
    | _ => none
  | .clear, [.own kk off _], [t] => (T t).bind fun ti => match ti.k with
    | .slice e => (T e).bind fun ei => (get kk).bind fun o => match o with
      | .lst c l => if CT.sz X c = ei.size then k (.tup []) [(kk, some (.lst c (l.take off)))] [kk] [kk] else none
      | _ => none
    | _ => none
  | .append, [.nil, .c (.int _) m], [t, u] => (T t).bind fun ti => (T u).bind fun ui => match ti.k, ui.k with
    | .slice e, .int _ => (T e).bind fun ei => (code e).bind fun c => if CT.sz X c = ei.size ∧ 0 < ei.size then (mkRow c (ei.zero.map cvD)).bind fun z =>
        bif mkOk (iN m) ei.bytes then k (.own (nid i) 0 m.toNat) [(nid i, some (.lst c (List.replicate m.toNat z)))] [] [] else none else none
    | _, _ => none
  | _, _, _ => none

def nilCheckD (x : DV X) (k : KK X A) : Option A :=
  match x with
  | .ptr kk r f => k (.ptr kk r f) [] [] []
  | .ptl kk n f => k (.ptl kk n f) [] [] []
  | .pta kk r f m n => k (.pta kk r f m n) [] [] []
  | .rp c y f => k (.rp c y f) [] [] []
  | _ => none

def makeD (i : Nat) (t : TypeId) (l c : DV X) (k : KK X A) : Option A :=
  (T t).bind fun ti => match ti.k, l, c with
  | .slice e, .c (.int _) n, .c (.int _) m => (T e).bind fun ei => (code e).bind fun c => if CT.sz X c = ei.size ∧ 0 < ei.size then (mkRow c (ei.zero.map cvD)).bind fun z =>
      bif decide (iN n ≤ iN m) && (decide (0 ≤ iN n) && mkOk (iN m) ei.bytes) then k (.own (nid i) 0 n.toNat) [(nid i, some (.lst c (List.replicate n.toNat z)))] [] [] else none else none
  | _, _, _ => none

def isExt (o : Op) (ρ : Operand → DV X) : Bool :=
  match o with
  | .binOp _ _ _ y _ => isNilD (ρ y)
  | .convert _ _ _ => true
  | .index _ _ _ => true
  | .nilCheck _ => true
  | .makeSlice _ _ _ => true
  | .slice _ x _ _ none => isNilD (ρ x)
  | .call { callee := .builtin b, args := args, argTypes := _ } => match b, args.toList.map ρ with
    | .cap, _ => true
    | .clear, _ => true
    | .append, [_, .c (.int _) _] => true
    | _, _ => false
  | _ => false

def extD (i : Nat) (o : Op) (ρ : Operand → DV X) (get : Nat → Option (DObj X)) (k : KK X A) : Option A :=
  match o with
  | .binOp op t x y _ => if isNilD (ρ y) then nilD T op t (ρ x) k else none
  | .convert s d x => convD T s d (ρ x) k
  | .index t x j => indexD T t (ρ x) (ρ j) k
  | .slice t x lo hi none => sliceNilD T t (ρ x) (lo.map ρ) (hi.map ρ) k
  | .nilCheck x => nilCheckD (ρ x) k
  | .makeSlice t l c => makeD T code i t (ρ l) (ρ c) k
  | .call { callee := .builtin b, args := args, argTypes := tys } => builtin2D T code i b (args.toList.map ρ) tys.toList get k
  | _ => none

/-- An operand as it becomes data; what must hold; its objects. -/
def frzV (get : Nat → Option (DObj X)) (c : CT X.ι) (ρ : Operand → DV X) (x : Operand) : DV X :=
  match lendD get (ρ x) c with
  | some y => .c c y.1
  | none => ρ x
def frzC (get : Nat → Option (DObj X)) (c : CT X.ι) (ρ : Operand → DV X) : List Operand → List Bool
  | [] => []
  | x :: xs => (match lendD get (ρ x) c with | some y => y.2 | none => []) ++ frzC get c ρ xs
def frzI (get : Nat → Option (DObj X)) (c : CT X.ι) (ρ : Operand → DV X) : List Operand → List Nat
  | [] => []
  | x :: xs => (match lendD get (ρ x) c with | some _ => drefs (ρ x) | none => []) ++ frzI get c ρ xs

def frzCode (o : Op) (ρ : Operand → DV X) (get : Nat → Option (DObj X)) : Option (CT X.ι) :=
  match o with
  | .box t _ => code t
  | .assign x | .move x => match ρ x with
    | .own kk _ _ => (get kk).bind fun o => match o with
      | .lst c _ => some (.sl c)
      | _ => none
    | _ => none
  | .buildSlice t _ _ => (T t).bind fun ti => match ti.k with
    | .slice e => code e
    | _ => none
  | .store t _ _ => code t
  | _ => none

def isFrz (o : Op) (ρ : Operand → DV X) : Bool :=
  match o with
  | .buildSlice _ _ parts => !(drefsL (parts.toList.map fun p => ρ p.2)).isEmpty
  | .store _ a x => match ρ a with
    | .ptl _ _ _ => !(drefs (ρ x)).isEmpty
    | _ => false
  | _ => false

def frzD (i : Nat) (o : Op) (ρ : Operand → DV X) (get : Nat → Option (DObj X)) (k : KK X A) : Option A :=
  if isPick o then none else (frzCode T code o ρ get).bind fun c => chkA (frzC get c ρ o.operands.toList)
    (opD T code i o (frzV get c ρ) (fun j => if j ∈ frzI get c ρ o.operands.toList then none else get j) fun dv upd rd wr =>
      k dv (upd ++ goneD (frzI get c ρ o.operands.toList)) (rd ++ frzI get c ρ o.operands.toList) (wr ++ frzI get c ρ o.operands.toList))

def isArr (o : Op) (ρ : Operand → DV X) : Bool :=
  match o with
  | .indexAddr t x (.tmp _) => match ρ x, T t with
    | .ptr _ _ _, some ti => match ti.k with
      | .arr _ e => match T e with
        | some ei => ei.size == 1
        | none => false
      | _ => false
    | _, _ => false
  | .load _ a => match ρ a with
    | .pta _ _ _ _ _ => true
    | _ => false
  | _ => false

def segL (c : CT X.ι) : List (DV X) → Option (List (CT.T X.toSE c))
  | [] => some []
  | .c a x :: r => (castC a c x).bind fun y => (segL c r).bind fun l => some (y :: l)
  | _ => none

def arrD (o : Op) (ρ : Operand → DV X) (get : Nat → Option (DObj X)) (k : KK X A) : Option A :=
  match o with
  | .indexAddr t x j => (T t).bind fun ti => match ti.k, ρ x, ρ j with
    | .arr m e, .ptr kk row off, .c (.int _) n => (T e).bind fun ei => if ei.size = 1 then bif inb n m then k (.pta kk row off m n) [] [] [] else none else none
    | _, _, _ => none
  | .load t a => (T t).bind fun ti => match ρ a with
    | .pta kk row off m n => if ti.size = 1 ∧ ti.agg = false then (code t).bind fun c => if c.one = true then (get kk).bind fun o => match o with
      | .cells _ rows => (rows[row]?).bind fun q => (segL c ((q.drop off).take m)).bind fun (xs : List (CT.T X.toSE c)) => (at? xs n).bind fun y => k (.c c y) [] [kk] []
      | _ => none
      else none else none
    | _ => none
  | _ => none

variable {T code}

/-- What an operation has come to. -/
def SdAny (P : Program) (T : Tab) (i : Nat) (o : Oper) (ρ : Operand → DV X) (get : Nat → Option (DObj X)) (k : KK X A) (r : A) : Prop :=
  ∃ orc rd wr dv upd out, absAny P T i o orc (fun x => den (ρ x)) (restr rd (aget get)) = some out ∧ AllP out.obs ∧ out.v = den dv ∧ out.upd = denU upd ∧ (∀ p ∈ upd, p.1 = nid i ∨ p.1 ∈ wr) ∧ k dv upd rd wr = some r

section
variable {P : Program} {get : Nat → Option (DObj X)} {k : KK X A} {r : A} {i : Nat} {o : Oper} {ρ : Operand → DV X}

theorem aLen_orc {t : TypeId} {x : AV} {orc : Orc} (h : (∃ n, orc = .ext n) ∨ ∃ ids fr q, orc = .frz ids fr q) : aLen T t x .none = aLen T t x orc := by
  unfold aLen
  cases T t with
  | none => rfl
  | some ti =>
    simp only [Option.bind_some]
    generalize ti.k = kk
    rcases h with ⟨n, rfl⟩ | ⟨ids, fr, q, rfl⟩ <;> cases kk <;> try rfl
    all_goals cases x <;> try rfl
    all_goals (rename_i y; cases y <;> try rfl)
    all_goals (rename_i y; cases y <;> rfl)

theorem aIndexAddr_orc {t : TypeId} {x j : AV} {orc : Orc} {get : Nat → Option AObj} (h : (∃ n, orc = .ext n) ∨ ∃ ids fr q, orc = .frz ids fr q) : aIndexAddr T t x j .none get = aIndexAddr T t x j orc get := by
  unfold aIndexAddr
  cases T t with
  | none => rfl
  | some ti =>
    simp only [Option.bind_some]
    generalize ti.k = kk
    cases kk <;> try rfl
    case arr m e =>
      cases j <;> try rfl
      rename_i y
      cases y <;> try rfl
      rename_i y
      cases y <;> rfl
    cases j <;> try rfl
    rename_i e y
    cases y <;> try rfl
    rename_i y
    cases y <;> try rfl
    simp only
    cases T e with
    | none => rfl
    | some ei =>
      simp only [Option.bind_some]
      rcases h with ⟨n, rfl⟩ | ⟨ids, fr, q, rfl⟩ <;> cases x <;> try rfl
      all_goals (rename_i z; cases z <;> rfl)

theorem aAppend_orc {t : TypeId} {x y : AV} {orc : Orc} {get : Nat → Option AObj} (h : (∃ n, orc = .ext n) ∨ ∃ ids fr q, orc = .frz ids fr q) : aAppend T i t x y .none get = aAppend T i t x y orc get := by
  unfold aAppend
  rcases h with ⟨n, rfl⟩ | ⟨ids, fr, q, rfl⟩ <;> rfl

theorem absOp_orc {orc : Orc} {ρ : Operand → AV} {get : Nat → Option AObj} (h : (∃ n, orc = .ext n) ∨ ∃ ids fr q, orc = .frz ids fr q) : absOp T i o .none ρ get = absOp T i o orc ρ get := by
  obtain ⟨dst, op, ty, pos, after, guard⟩ := o
  cases op
  case call c =>
    obtain ⟨callee, args, tys⟩ := c
    cases callee <;> try rfl
    rename_i b
    simp only [absOp, aBuiltin]
    split
    · exact aLen_orc h
    · rfl
    · rfl
    · rw [aAppend_orc h]
    · rfl
  case slice t x lo hi mx => cases mx <;> rcases h with ⟨n, rfl⟩ | ⟨ids, fr, q, rfl⟩ <;> rfl
  case makeFunc fn a b => cases fn <;> rfl
  case indexAddr t x j => exact aIndexAddr_orc h
  all_goals (rcases h with ⟨n, rfl⟩ | ⟨ids, fr, q, rfl⟩ <;> rfl)

theorem SdAny.ext {n : Int} {rd wr : List Nat} {dv : DV X} {upd : List (Nat × Option (DObj X))} {out : Out} (h : absExt T i o n (fun x => den (ρ x)) (restr rd (aget get)) = some out) (h1 : AllP out.obs) (h2 : out.v = den dv) (h3 : out.upd = denU upd) (h4 : ∀ p ∈ upd, p.1 = nid i ∨ p.1 ∈ wr) (h5 : k dv upd rd wr = some r) (hx : isX2 o.op = false := by rfl) : SdAny P T i o ρ get k r :=
  ⟨.ext n, rd, wr, dv, upd, out, by show absExtA T i o n _ _ = some out; unfold absExtA; rw [hx]; exact h, h1, h2, h3, h4, h5⟩

theorem SdAny.ext2 {n : Int} {rd wr : List Nat} {dv : DV X} {upd : List (Nat × Option (DObj X))} {out : Out} (h : absExt2 T i o n (fun x => den (ρ x)) (restr rd (aget get)) = some out) (h1 : AllP out.obs) (h2 : out.v = den dv) (h3 : out.upd = denU upd) (h4 : ∀ p ∈ upd, p.1 = nid i ∨ p.1 ∈ wr) (h5 : k dv upd rd wr = some r) (hx : isX2 o.op = true := by rfl) : SdAny P T i o ρ get k r :=
  ⟨.ext n, rd, wr, dv, upd, out, by show absExtA T i o n _ _ = some out; unfold absExtA; rw [hx]; exact h, h1, h2, h3, h4, h5⟩

theorem nilCheckD_sound {x : DV X} (h : nilCheckD x k = some r) : ∃ dv, aNilCheck (den x) = some ⟨den dv, [], []⟩ ∧ k dv [] [] [] = some r := by
  cases x <;> simp only [nilCheckD] at h <;> first | cases h | exact ⟨_, rfl, h⟩

theorem absAny_op {orc : Orc} {ρ : Operand → AV} {get : Nat → Option AObj} (hne : ∀ f args tys, o.op ≠ .call { callee := .value f, args := args, argTypes := tys }) (ho : ∀ n, orc ≠ .ext n) (hf : ∀ ids fr q, orc ≠ .frz ids fr q) : absAny P T i o orc ρ get = absOp T i o orc ρ get := by
  have e : ∀ (α : Type) (a : Operand → Array Operand → Array TypeId → α) (b : α), (match o.op with | .call { callee := .value f, args := args, argTypes := tys } => a f args tys | _ => b) = b := by
    intro α a b
    split
    · rename_i f args tys heq
      exact (hne f args tys heq).elim
    · rfl
  cases orc <;> first | exact (ho _ rfl).elim | exact (hf _ _ _ rfl).elim | exact e _ _ _

theorem SdAny.op {orc : Orc} {rd wr : List Nat} {dv : DV X} {upd : List (Nat × Option (DObj X))} {out : Out} (hne : ∀ f args tys, o.op ≠ .call { callee := .value f, args := args, argTypes := tys })
    (h : absOp T i o orc (fun x => den (ρ x)) (restr rd (aget get)) = some out) (h1 : AllP out.obs ∧ out.v = den dv ∧ out.upd = denU upd ∧ (∀ p ∈ upd, p.1 = nid i ∨ p.1 ∈ wr) ∧ k dv upd rd wr = some r) : SdAny P T i o ρ get k r := by
  obtain ⟨orc', h'⟩ : ∃ orc', absAny P T i o orc' (fun x => den (ρ x)) (restr rd (aget get)) = some out := by
    by_cases hx : (∃ n, orc = .ext n) ∨ ∃ ids fr q, orc = .frz ids fr q
    · refine ⟨.none, ?_⟩
      rw [absAny_op hne (by simp) (by simp), absOp_orc hx, h]
    · simp only [not_or, not_exists] at hx
      exact ⟨orc, by rw [absAny_op hne hx.1 (fun ids fr q => hx.2 ids fr q), h]⟩
  exact ⟨orc', rd, wr, dv, upd, out, h', h1⟩

theorem SdAny.call {dst : Option Tmp} {f : Operand} {args : Array Operand} {tys : Array TypeId} {ty : TypeId} {pos : String} {after : Array Edge} {guard : Option (Nat × Bool)} {orc : Orc} {rd wr : List Nat} {dv : DV X} {upd : List (Nat × Option (DObj X))} {out : Out}
    (h : absCallX P i (den (ρ f)) (args.toList.map fun x => den (ρ x)) orc (restr rd (aget get)) = some out) (h1 : AllP out.obs ∧ out.v = den dv ∧ out.upd = denU upd ∧ (∀ p ∈ upd, p.1 = nid i ∨ p.1 ∈ wr) ∧ k dv upd rd wr = some r) :
    SdAny P T i ⟨dst, .call { callee := .value f, args := args, argTypes := tys }, ty, pos, after, guard⟩ ρ get k r := by
  refine ⟨orc, rd, wr, dv, upd, out, ?_, h1⟩
  unfold absAny
  split
  · unfold absCallX absCall at h; simp only at h; split at h <;> first | cases h | (rename_i e; cases e)
  · unfold absCallX absCall at h; simp only at h; split at h <;> first | cases h | (rename_i e; cases e)
  · exact h

theorem nilK_some {op : BinOp} {b : DV X} {yes : Bool} (h : nilK op b yes k = some r) : ∃ dv out, nilB op (den b) yes = some out ∧ AllP out.obs ∧ out.v = den dv ∧ out.upd = [] ∧ k dv [] [] [] = some r := by
  unfold nilK at h
  split at h
  · cases yes with
    | true => exact ⟨b, _, rfl, trivial, rfl, rfl, h⟩
    | false => exact ⟨.c .bool false, _, rfl, trivial, rfl, rfl, h⟩
  · cases yes with
    | true => exact ⟨b, _, rfl, trivial, rfl, rfl, h⟩
    | false => exact ⟨.c .bool true, _, rfl, trivial, rfl, rfl, h⟩
  · cases h

theorem nilD_sound {op : BinOp} {t : TypeId} {x : DV X} (h : nilD T op t x k = some r) : ∃ dv out, aNil T op t (den x) .nilsl = some out ∧ AllP out.obs ∧ out.v = den dv ∧ out.upd = [] ∧ k dv [] [] [] = some r := by
  unfold nilD at h
  rw [Option.bind_eq_some_iff] at h; obtain ⟨ti, h1, h⟩ := h
  split at h
  · rename_i e c l hk
    obtain ⟨dv, out, g1, g2⟩ := nilK_some h
    refine ⟨dv, out, ?_, g2⟩
    simp only [aNil, h1, Option.bind_some, hk, den, CT.tv, TV.av]
    rw [← g1]
    congr 1
    cases l <;> rfl
  · rename_i e kk off len hk
    obtain ⟨dv, out, g1, g2⟩ := nilK_some h
    exact ⟨dv, out, by simp only [aNil, h1, Option.bind_some, hk, den]; exact g1, g2⟩
  · rename_i e hk
    obtain ⟨dv, out, g1, g2⟩ := nilK_some h
    exact ⟨dv, out, by simp only [aNil, h1, Option.bind_some, hk, den]; exact g1, g2⟩
  · cases h

theorem strAt_some {s : ByteArray} {n b : Int} (h : strAt s n = some b) : 0 ≤ n ∧ ∃ c, s[n.toNat]? = some c ∧ b = c.toNat := by
  unfold strAt at h
  by_cases hn : 0 ≤ n
  · simp only [hn, decide_true, cond_true, Option.map_eq_some_iff] at h
    obtain ⟨c, h1, h2⟩ := h
    exact ⟨hn, c, h1, h2.symm⟩
  · simp [hn] at h

theorem mkOk_spec {m : Int} {bytes : Nat} (h : mkOk m bytes = true) : 0 ≤ m ∧ m.toNat * bytes ≤ 140737488355328 ∧ m.toNat ≤ maxLen := by
  simpa [mkOk, and_assoc] using h

theorem builtin2D_sound {b : Builtin} {args : List (DV X)} {tys : List TypeId} (h : builtin2D T code i b args tys get k = some r) :
    ∃ rd wr dv upd out, aBuiltin2 T i b (denL args) tys (restr rd (aget get)) = some out ∧ AllP out.obs ∧ out.v = den dv ∧ out.upd = denU upd ∧ (∀ p ∈ upd, p.1 = nid i ∨ p.1 ∈ wr) ∧ k dv upd rd wr = some r := by
  unfold builtin2D at h
  split at h
  · rename_i t
    rw [Option.bind_eq_some_iff] at h; obtain ⟨ti, h1, h⟩ := h
    split at h
    · rename_i e hk
      refine ⟨[], [], _, [], ⟨.t (.sc (.int .i64 0)), [], []⟩, ?_, trivial, rfl, rfl, by simp, h⟩
      simp only [aBuiltin2, denL, den, h1, Option.bind_some, hk]; rfl
    · cases h
  · rename_i kk off len t
    rw [Option.bind_eq_some_iff] at h; obtain ⟨ti, h1, h⟩ := h
    split at h
    · rename_i e hk
      rw [Option.bind_eq_some_iff] at h; obtain ⟨ei, h2, h⟩ := h
      rw [Option.bind_eq_some_iff] at h; obtain ⟨o, h3, h⟩ := h
      split at h
      · rename_i c l
        split at h
        · rename_i hs
          refine ⟨[kk], [kk], _, _, ⟨.tup [], [(kk, some ⟨CT.sz X c, (avRows (l.map (CT.row X.toSE c))).take off⟩)], []⟩, ?_, trivial, rfl, ?_, by simp, h⟩
          · simp only [aBuiltin2, denL, den, h1, Option.bind_some, hk, h2, restr_get (List.mem_singleton_self kk) h3, denO]
            rw [if_pos hs]
          · simp [denU, denO, avRows, List.map_take]
        · cases h
      · cases h
    · cases h
  · rename_i kd m t u
    rw [Option.bind_eq_some_iff] at h; obtain ⟨ti, h1, h⟩ := h
    rw [Option.bind_eq_some_iff] at h; obtain ⟨ui, h2, h⟩ := h
    split at h
    · rename_i e kn hk hk'
      rw [Option.bind_eq_some_iff] at h; obtain ⟨ei, h3, h⟩ := h
      rw [Option.bind_eq_some_iff] at h; obtain ⟨c, h4, h⟩ := h
      split at h
      · rename_i hs
        rw [Option.bind_eq_some_iff] at h; obtain ⟨z, h5, h⟩ := h
        obtain ⟨h6, h⟩ := cond_some h
        obtain ⟨m1, m2, m3⟩ := mkOk_spec h6
        have hz := mkRow_den h5
        rw [cvDs_den] at hz
        refine ⟨[], [], _, _, ⟨.own (nid i) 0 m.toNat, [(nid i, some ⟨ei.size, wkRows (List.replicate m.toNat (ei.zero.map cv))⟩)], [0 ≤ m ∧ m.toNat * ei.bytes ≤ 140737488355328 ∧ m.toNat ≤ maxLen ∧ 0 < ei.size]⟩, ?_, ?_, rfl, ?_, by simp, h⟩
        · simp only [aBuiltin2, denL, den, CT.tv, TV.av, h1, h2, h3, Option.bind_some, hk, hk']
        · exact ⟨m1, m2, m3, hs.2⟩
        · simp only [denU, List.map_cons, List.map_nil, Option.map_some, denO, hs.1, avRows, wkRows, List.map_replicate]
          rw [hz]
      · cases h
    · cases h
  · cases h

theorem makeD_sound {t : TypeId} {l c : DV X} (h : makeD T code i t l c k = some r) : ∃ dv upd out, aMake T i t (den l) (den c) = some out ∧ AllP out.obs ∧ out.v = den dv ∧ out.upd = denU upd ∧ (∀ p ∈ upd, p.1 = nid i) ∧ k dv upd [] [] = some r := by
  unfold makeD at h
  rw [Option.bind_eq_some_iff] at h; obtain ⟨ti, h1, h⟩ := h
  split at h
  · rename_i e kl n kc m hk
    rw [Option.bind_eq_some_iff] at h; obtain ⟨ei, h3, h⟩ := h
    rw [Option.bind_eq_some_iff] at h; obtain ⟨c, h4, h⟩ := h
    split at h
    · rename_i hs
      rw [Option.bind_eq_some_iff] at h; obtain ⟨z, h5, h⟩ := h
      obtain ⟨h6, h⟩ := cond_some h
      simp only [Bool.and_eq_true, decide_eq_true_eq] at h6
      obtain ⟨h7, h8, h9⟩ := h6
      obtain ⟨m1, m2, m3⟩ := mkOk_spec h9
      have hz := mkRow_den h5
      rw [cvDs_den] at hz
      refine ⟨_, _, ⟨.own (nid i) 0 n.toNat, [(nid i, some ⟨ei.size, wkRows (List.replicate n.toNat (ei.zero.map cv))⟩)], [0 ≤ n ∧ n ≤ m ∧ m.toNat * ei.bytes ≤ 140737488355328 ∧ m.toNat ≤ maxLen ∧ 0 < ei.size]⟩, ?_, ?_, rfl, ?_, by simp, h⟩
      · simp only [aMake, den, CT.tv, TV.av, h1, h3, Option.bind_some, hk]
      · exact ⟨h8, h7, m2, m3, hs.2⟩
      · simp only [denU, List.map_cons, List.map_nil, Option.map_some, denO, hs.1, avRows, wkRows, List.map_replicate]
        rw [hz]
    · cases h
  · cases h

theorem extD_sound (h : extD T code i o.op ρ get k = some r) : SdAny P T i o ρ get k r := by
  obtain ⟨dst, op, ty, pos, after, guard⟩ := o
  unfold extD at h
  simp only at h
  split at h
  · rename_i op t x y q
    split at h
    · rename_i hn
      obtain ⟨dv, out, g1, g2, g3, g4, g5⟩ := nilD_sound h
      have hy : den (ρ y) = .nilsl := by
        cases hρ : ρ y <;> rw [hρ] at hn <;> first | rfl | cases hn
      exact SdAny.ext (n := 0) (rd := []) (wr := []) (upd := []) (by simp only [absExt, hy]; exact g1) g2 g3 g4 (by simp) g5
    · cases h
  · rename_i s d x
    unfold convD at h
    rw [Option.bind_eq_some_iff] at h; obtain ⟨si, h1, h⟩ := h
    rw [Option.bind_eq_some_iff] at h; obtain ⟨di, h2, h⟩ := h
    split at h
    · rename_i kd k' n hk hx
      refine SdAny.ext (n := 0) (rd := []) (wr := []) (upd := []) (out := ⟨.t (.sc (.int kd (kd.wrap n))), [], []⟩) ?_ trivial rfl rfl (by simp) h
      simp only [absExt, aConv, h1, h2, Option.bind_some, hk, hx]; rfl
    · cases h
  · rename_i t x j
    unfold indexD at h
    rw [Option.bind_eq_some_iff] at h; obtain ⟨ti, h1, h⟩ := h
    split at h
    · rename_i s kk n hk hx hj
      rw [Option.bind_eq_some_iff] at h; obtain ⟨b, h2, h⟩ := h
      refine SdAny.ext (n := b) (rd := []) (wr := []) (upd := []) (out := ⟨.t (.sc (.int .u8 b)), [], [0 ≤ n ∧ ∃ c, s[n.toNat]? = some c ∧ b = c.toNat]⟩) ?_ (strAt_some h2) rfl rfl (by simp) h
      simp only [absExt, aIndex, h1, Option.bind_some, hk, hx, hj]; rfl
    · cases h
  · rename_i t x lo hi
    unfold sliceNilD at h
    rw [Option.bind_eq_some_iff] at h; obtain ⟨ti, h1, h⟩ := h
    split at h
    · rename_i e hk hx
      rw [Option.bind_eq_some_iff] at h; obtain ⟨ei, h2, h⟩ := h
      rw [Option.bind_eq_some_iff] at h; obtain ⟨l, h3, h⟩ := h
      rw [Option.bind_eq_some_iff] at h; obtain ⟨hh, h4, h⟩ := h
      obtain ⟨h5, h⟩ := cond_some h
      refine SdAny.ext (n := 0) (rd := []) (wr := []) (upd := []) (out := ⟨.nilsl, [], [l = 0 ∧ hh = 0]⟩) ?_ (show l = 0 ∧ hh = 0 by simpa using h5) rfl rfl (by simp) h
      have e1 := bndD_den h3
      have e2 := bndD_den h4
      rw [Option.map_map] at e1 e2
      simp only [absExt, aSliceNil, h1, Option.bind_some, hk, hx, h2, den]
      have e1' : bnd 0 (lo.map fun x => den (ρ x)) = some l := e1
      have e2' : bnd 0 (hi.map fun x => den (ρ x)) = some hh := e2
      rw [e1', Option.bind_some, e2']; rfl
    · cases h
  · rename_i x
    obtain ⟨dv, g1, g2⟩ := nilCheckD_sound h
    exact SdAny.ext2 (n := 0) (rd := []) (wr := []) (upd := []) g1 trivial rfl rfl (by simp) g2
  · rename_i t l c
    obtain ⟨dv, upd, out, g1, g2, g3, g4, g5, g6⟩ := makeD_sound h
    exact SdAny.ext2 (n := 0) (rd := []) (wr := []) (upd := upd) g1 g2 g3 g4 (fun p hp => .inl (g5 p hp)) g6
  · rename_i b args tys
    obtain ⟨rd, wr, dv, upd, out, g1, g2, g3, g4, g5, g6⟩ := builtin2D_sound h
    refine SdAny.ext (n := 0) (rd := rd) (wr := wr) (upd := upd) ?_ g2 g3 g4 g5 g6
    simp only [absExt, map_den]; exact g1
  · cases h

theorem frzI_mem {c : CT X.ι} : ∀ {xs : List Operand} {x : Operand} {y : CT.T X.toSE c × List Bool}, x ∈ xs → lendD get (ρ x) c = some y → ∀ j ∈ drefs (ρ x), j ∈ frzI get c ρ xs
  | z :: xs, x, y, hx, h, j, hj => by
    simp only [frzI, List.mem_append]
    rcases List.mem_cons.1 hx with rfl | hx
    · left; rw [h]; exact hj
    · exact .inr (frzI_mem hx h j hj)
  | [], _, _, hx, _, _, _ => by simp at hx

theorem frzC_mem {c : CT X.ι} : ∀ {xs : List Operand} {x : Operand} {y : CT.T X.toSE c × List Bool}, x ∈ xs → lendD get (ρ x) c = some y → ∀ b ∈ y.2, b ∈ frzC get c ρ xs
  | z :: xs, x, y, hx, h, b, hb => by
    simp only [frzC, List.mem_append]
    rcases List.mem_cons.1 hx with rfl | hx
    · left; rw [h]; exact hb
    · exact .inr (frzC_mem hx h b hb)
  | [], _, _, hx, _, _, _ => by simp at hx

theorem frzD_sound (h : frzD T code i o.op ρ get k = some r) : SdAny P T i o ρ get k r := by
  unfold frzD at h
  split at h
  · cases h
  rename_i hpick
  rw [Option.bind_eq_some_iff] at h; obtain ⟨c, h1, h⟩ := h
  obtain ⟨hcs, h⟩ := chkA_some h
  obtain ⟨orc, rd, wr, dv, upd, out, g1, g2, g3, g4, g5, g6⟩ := opD_sound h
  generalize hids : frzI get c ρ o.op.operands.toList = ids at *
  refine ⟨.frz ids (fun x => den (frzV get c ρ x)) orc, rd ++ ids, wr ++ ids, dv, upd ++ goneD ids, ⟨out.v, out.upd ++ ids.map (fun k => (k, none)), out.obs ++ [∀ x ∈ o.op.operands, (Bor P (restr (rd ++ ids) (aget get)) (den (ρ x)) (den (frzV get c ρ x)) ∧ ∀ k ∈ refs (den (ρ x)), k ∈ ids) ∨ den (frzV get c ρ x) = den (ρ x)]⟩, ?_, ?_, g3, ?_, ?_, g6⟩
  · unfold absAny absFrz
    simp only
    rw [if_neg hpick]
    have e : (fun k => if k ∈ ids then none else restr (rd ++ ids) (aget get) k) = restr rd (aget fun j => if j ∈ ids then none else get j) := by
      funext j
      simp only [restr, aget, List.mem_append]
      by_cases hj : j ∈ ids
      · simp [hj]
      · simp [hj]
    rw [e, g1]; rfl
  · refine AllP_of _ fun p hp => ?_
    rcases List.mem_append.1 hp with hp | hp
    · exact AllP_all _ g2 p hp
    · rw [List.mem_singleton] at hp
      subst hp
      intro x hx
      unfold frzV
      cases hl : lendD get (ρ x) c with
      | none => exact .inr rfl
      | some y =>
        left
        have hx' : x ∈ o.op.operands.toList := by simpa using hx
        have hin : ∀ j ∈ drefs (ρ x), j ∈ ids := fun j hj => hids ▸ frzI_mem hx' hl j hj
        obtain ⟨hs, obs, p1, p2⟩ := lendD_sound (P := P) (rd := rd ++ ids) hl (fun b hb => hcs b (frzC_mem hx' hl b hb)) (fun j hj => List.mem_append_right _ (hin j hj))
        refine ⟨?_, fun j hj => hin j (by rwa [drefs_den] at hj)⟩
        have := p2 []
        exact lend_sound _ _ _ this p1
  · simp only [denU_append, goneD_den, g4]
  · intro p hp
    rcases List.mem_append.1 hp with hp | hp
    · exact (g5 p hp).imp id (fun h => List.mem_append_left _ h)
    · exact .inr (List.mem_append_right _ (goneD_mem hp))

theorem segL_den {c : CT X.ι} : ∀ {ds : List (DV X)} {xs : List (CT.T X.toSE c)}, segL c ds = some xs → denL ds = xs.map fun y => den (.c c y : DV X)
  | [], xs, h => by simp only [segL, Option.some.injEq] at h; subst h; rfl
  | .c a x :: ds, xs, h => by
    simp only [segL] at h
    rw [Option.bind_eq_some_iff] at h; obtain ⟨y, h1, h⟩ := h
    rw [Option.bind_eq_some_iff] at h; obtain ⟨l, h2, h⟩ := h
    injection h with h; subst h
    simp only [denL, List.map_cons, segL_den h2, (castC_den h1).1]
  | .agg _ :: _, _, h => by simp [segL] at h
  | .tup _ :: _, _, h => by simp [segL] at h
  | .own _ _ _ :: _, _, h => by simp [segL] at h
  | .ptr _ _ _ :: _, _, h => by simp [segL] at h
  | .ptl _ _ _ :: _, _, h => by simp [segL] at h
  | .pta _ _ _ _ _ :: _, _, h => by simp [segL] at h
  | .rp _ _ _ :: _, _, h => by simp [segL] at h
  | .fn _ _ _ :: _, _, h => by simp [segL] at h
  | .clo _ _ _ :: _, _, h => by simp [segL] at h
  | .raw _ :: _, _, h => by simp [segL] at h
  | .nil :: _, _, h => by simp [segL] at h
  | .ub :: _, _, h => by simp [segL] at h
  | .skip :: _, _, h => by simp [segL] at h
  | .undef :: _, _, h => by simp [segL] at h

theorem arrD_sound (h : arrD T code o.op ρ get k = some r) : SdAny P T i o ρ get k r := by
  obtain ⟨dst, op, ty, pos, after, guard⟩ := o
  unfold arrD at h
  simp only at h
  split at h
  · rename_i t x j
    rw [Option.bind_eq_some_iff] at h; obtain ⟨ti, h1, h⟩ := h
    split at h
    · rename_i m e kk row off kd n hk hx hj
      rw [Option.bind_eq_some_iff] at h; obtain ⟨ei, h2, h⟩ := h
      split at h
      · rename_i hs
        obtain ⟨h3, h⟩ := cond_some h
        refine SdAny.op (orc := .none) (rd := []) (wr := []) (upd := []) (fun _ _ _ e => by cases e) (out := ⟨.ptr kk row (off + n.toNat * 1), [], [0 ≤ n ∧ n.toNat < m]⟩) ?_ ⟨?_, ?_, rfl, by simp, h⟩
        · simp only [absOp, aIndexAddr, h1, Option.bind_some, hk, hx, hj, den, CT.tv, TV.av, h2, hs]; rfl
        · simp only [inb, Bool.and_eq_true, decide_eq_true_eq] at h3
          exact ⟨h3.1, by omega⟩
        · simp only [den, Nat.mul_one]
      · cases h
    · cases h
  · rename_i t a
    rw [Option.bind_eq_some_iff] at h; obtain ⟨ti, h1, h⟩ := h
    split at h
    · rename_i kk row off m n hx
      split at h
      · rename_i hs
        rw [Option.bind_eq_some_iff] at h; obtain ⟨c, h2, h⟩ := h
        split at h
        · rename_i hc
          rw [Option.bind_eq_some_iff] at h; obtain ⟨ob, h3, h⟩ := h
          split at h
          · rename_i sz rows
            rw [Option.bind_eq_some_iff] at h; obtain ⟨q, h4, h⟩ := h
            rw [Option.bind_eq_some_iff] at h; obtain ⟨xs, h5, h⟩ := h
            rw [Option.bind_eq_some_iff] at h; obtain ⟨y, h6, h⟩ := h
            obtain ⟨_, h7⟩ := at_some h6
            have h8 := segL_den h5
            have h9 : ((denL q).drop (off + n.toNat)).take 1 = [den (.c c y : DV X)] := by
              have e1 : (denL ((q.drop off).take m))[n.toNat]? = some (den (.c c y : DV X)) := by rw [h8, List.getElem?_map, h7]; rfl
              rw [denL_drop_take, List.getElem?_take] at e1
              split at e1
              · rw [List.getElem?_drop] at e1
                obtain ⟨g1, g2⟩ := List.getElem?_eq_some_iff.1 e1
                rw [List.drop_eq_getElem_cons g1, List.take_succ_cons, List.take_zero, g2]
              · cases e1
            refine SdAny.op (orc := .none) (rd := [kk]) (wr := []) (upd := []) (fun _ _ _ e => by cases e) (out := ⟨den (.c c y : DV X), [], []⟩) ?_ ⟨trivial, rfl, rfl, by simp, h⟩
            simp only [absOp, aLoad, h1, Option.bind_some, hx, den, restr_get (List.mem_singleton_self kk) h3, denO, List.getElem?_map, h4, Option.map_some, hs.1, hs.2]
            rw [h9]
            obtain ⟨t', g1, g2⟩ := row_one hc y
            simp only [den, g2, TV.av]
            rfl
          · cases h
        · cases h
      · cases h
    · cases h
  · cases h
end
end
end Go.Gb
