/-
  More operations of the abstract walk; values that become data for good.
-/
import Derived.Test.YtgmmcfpjmkhmhaaGU
import Derived.Lib.AppendZeros
namespace Go.Gb
open Go.RowKit

def nilB (op : BinOp) (b : AV) (yes : Bool) : Option Out :=
  match op with
  | .eql => pv (if yes then b else .t (.sc (.bool false)))
  | .neq => pv (if yes then b else .t (.sc (.bool true)))
  | _ => none

/-- A slice against nil. -/
def aNil (T : Tab) (op : BinOp) (t : TypeId) (x y : AV) : Option Out :=
  (T t).bind fun ti => match ti.k, x, y with
  | .slice _, .t (.sl rows), .nilsl => nilB op .ub rows.isEmpty
  | .slice _, .own _ _ len, .nilsl => nilB op .ub (len == 0)
  | .slice _, .nilsl, .nilsl => nilB op (.t (.sc (.bool (op == .eql)))) true
  | _, _, _ => none

def aConv (T : Tab) (s d : TypeId) (x : AV) : Option Out :=
  (T s).bind fun _ => (T d).bind fun di => match di.k, x with
  | .int k, .t (.sc (.int _ n)) => pv (.t (.sc (.int k (k.wrap n))))
  | _, _ => none

/-- A byte of a string. -/
def aIndex (T : Tab) (t : TypeId) (x j : AV) (n : Int) : Option Out :=
  (T t).bind fun ti => match ti.k, x, j with
  | .str, .t (.sc (.string s)), .t (.sc (.int _ m)) => pvo (.t (.sc (.int .u8 n))) (0 ≤ m ∧ ∃ b, s[m.toNat]? = some b ∧ n = b.toNat)
  | _, _, _ => none

def aSliceNil (T : Tab) (t : TypeId) (x : AV) (lo hi : Option AV) : Option Out :=
  (T t).bind fun ti => match ti.k, x with
  | .slice e, .nilsl => (T e).bind fun _ => (bnd 0 lo).bind fun l => (bnd 0 hi).bind fun h => pvo .nilsl (l = 0 ∧ h = 0)
  | _, _ => none

def aBuiltin2 (T : Tab) (i : Nat) (b : Builtin) (args : List AV) (tys : List TypeId) (get : Nat → Option AObj) : Option Out :=
  match b, args, tys with
  | .cap, [.nilsl], [t] => (T t).bind fun ti => match ti.k with
    | .slice _ => pv (.t (.sc (.int .i64 0)))
    | _ => none
  | .clear, [.own k off _], [t] => (T t).bind fun ti => match ti.k with
    | .slice e => (T e).bind fun ei => (get k).bind fun o => if o.sz = ei.size then some ⟨.tup [], [(k, some ⟨o.sz, o.rows.take off⟩)], []⟩ else none
    | _ => none
  | .append, [.nilsl, .t (.sc (.int _ m))], [t, u] => (T t).bind fun ti => (T u).bind fun ui => match ti.k, ui.k with
    | .slice e, .int _ => (T e).bind fun ei => some ⟨.own (nid i) 0 m.toNat, [(nid i, some ⟨ei.size, wkRows (List.replicate m.toNat (ei.zero.map cv))⟩)], [0 ≤ m ∧ m.toNat * ei.bytes ≤ 140737488355328 ∧ m.toNat ≤ maxLen ∧ 0 < ei.size]⟩
    | _, _ => none
  | _, _, _ => none

def absExt (T : Tab) (i : Nat) (o : Oper) (n : Int) (ρ : Operand → AV) (get : Nat → Option AObj) : Option Out :=
  match o.op with
  | .binOp op t x y _ => aNil T op t (ρ x) (ρ y)
  | .convert s d x => aConv T s d (ρ x)
  | .index t x j => aIndex T t (ρ x) (ρ j) n
  | .slice t x lo hi none => aSliceNil T t (ρ x) (lo.map ρ) (hi.map ρ)
  | .call { callee := .builtin b, args := args, argTypes := tys } => aBuiltin2 T i b (args.toList.map ρ) tys.toList get
  | _ => none

section
variable {T : Tab}
theorem absOp_congr {i : Nat} {o : Oper} {orc : Orc} {ρ ρ' : Operand → AV} {get : Nat → Option AObj} (h : ∀ x ∈ o.op.operands, ρ x = ρ' x) : absOp T i o orc ρ get = absOp T i o orc ρ' get := by
  obtain ⟨dst, op, ty, pos, after, guard⟩ := o
  have pairs : ∀ ps : Array (Nat × Operand), (∀ x ∈ (ps.toList.map (·.2)).toArray, ρ x = ρ' x) → (ps.toList.map fun (j, x) => (j, ρ x)) = (ps.toList.map fun (j, x) => (j, ρ' x)) := fun ps hp =>
    List.map_congr_left fun p hm => by
      obtain ⟨i, x⟩ := p
      simp only [hp x (by simp only [List.mem_toArray]; exact List.mem_map.2 ⟨(i, x), hm, rfl⟩)]
  cases op <;> simp only [Op.operands] at h <;> simp only [absOp]
  case build t ps => rw [pairs ps h]
  case buildSlice t n ps => rw [pairs ps h]
  case makeFunc fn first captured =>
    have h1 : first.toList.map ρ = first.toList.map ρ' := List.map_congr_left fun x hx => h x (by simp; exact .inl (by simpa using hx))
    have h2 : captured.toList.map ρ = captured.toList.map ρ' := List.map_congr_left fun x hx => h x (by simp; exact .inr (by simpa using hx))
    cases fn <;> simp only [h1, h2]
  case call c =>
    obtain ⟨callee, args, tys⟩ := c
    cases callee <;> simp only
    case builtin b =>
      have h1 : args.toList.map ρ = args.toList.map ρ' := List.map_congr_left fun x hx => h x (by simp [Call.operands]; simpa using hx)
      rw [h1]
  case slice t x lo hi mx =>
    have hx := h x (by simp)
    cases mx with
    | some m => rfl
    | none =>
      simp only [hx]
      cases lo <;> cases hi <;> simp_all
  case pick c a b => rw [h c (by simp), h a (by simp), h b (by simp)]
  all_goals (first | rfl | (simp_all; done))

theorem AllP_of : ∀ (l : List Prop), (∀ p ∈ l, p) → AllP l
  | [], _ => trivial
  | [q], h => h q (by simp)
  | q :: r :: l, h => ⟨h q (by simp), AllP_of (r :: l) fun p hp => h p (List.mem_cons_of_mem _ hp)⟩


theorem absExt_congr {i : Nat} {o : Oper} {n : Int} {ρ ρ' : Operand → AV} {get : Nat → Option AObj} (h : ∀ x ∈ o.op.operands, ρ x = ρ' x) : absExt T i o n ρ get = absExt T i o n ρ' get := by
  obtain ⟨dst, op, ty, pos, after, guard⟩ := o
  cases op <;> simp only [Op.operands] at h <;> simp only [absExt]
  case binOp a b c d e => rw [h c (by simp), h d (by simp)]
  case convert s d x => rw [h x (by simp)]
  case index t x j => rw [h x (by simp), h j (by simp)]
  case call c =>
    obtain ⟨callee, args, tys⟩ := c
    cases callee <;> simp only
    case builtin b =>
      have h1 : args.toList.map ρ = args.toList.map ρ' := List.map_congr_left fun x hx => h x (by simp [Call.operands]; simpa using hx)
      rw [h1]
  case slice t x lo hi mx =>
    have hx := h x (by simp)
    cases mx with
    | some m => rfl
    | none =>
      simp only [hx]
      cases lo <;> cases hi <;> simp_all
end

def isPick : Op → Bool
  | .pick .. => true
  | _ => false

/-- An operation on values that become data: their objects are given up. -/
def absFrz (P : Program) (T : Tab) (i : Nat) (o : Oper) (ids : List Nat) (fr : Operand → AV) (orc : Orc) (ρ : Operand → AV) (get : Nat → Option AObj) : Option Out :=
  if isPick o.op then none else (absOp T i o orc fr (fun k => if k ∈ ids then none else get k)).bind fun out =>
    some ⟨out.v, out.upd ++ ids.map (fun k => (k, none)), out.obs ++ [∀ x ∈ o.op.operands, (Bor P get (ρ x) (fr x) ∧ ∀ k ∈ refs (ρ x), k ∈ ids) ∨ fr x = ρ x]⟩

theorem absFrz_congr {P : Program} {T : Tab} {i : Nat} {o : Oper} {ids : List Nat} {fr : Operand → AV} {orc : Orc} {ρ ρ' : Operand → AV} {get : Nat → Option AObj} (h : ∀ x ∈ o.op.operands, ρ x = ρ' x) : absFrz P T i o ids fr orc ρ get = absFrz P T i o ids fr orc ρ' get := by
  unfold absFrz
  have : (∀ x ∈ o.op.operands, (Bor P get (ρ x) (fr x) ∧ ∀ k ∈ refs (ρ x), k ∈ ids) ∨ fr x = ρ x) = (∀ x ∈ o.op.operands, (Bor P get (ρ' x) (fr x) ∧ ∀ k ∈ refs (ρ' x), k ∈ ids) ∨ fr x = ρ' x) := by
    apply propext
    constructor <;> intro hh x hx
    · rw [← h x hx]; exact hh x hx
    · rw [h x hx]; exact hh x hx
  rw [this]

section
variable {P : Program} {T : Tab} {w0 : World} {O0 : Was} {β : Nat → Option Blk} {I : Nat → Prop} {obj : Nat → Option AObj} {w : World} {i : Nat}

theorem aNil_sound (hT : TabOk P T) {op : BinOp} {t : TypeId} {x y : AV} {xo yo : Operand} {u v : Value} {out : Out} (ha : aNil T op t x y = some out) (hx : VR P β w I x u) (hy : VR P β w I y v) :
    ∃ z, (do eqGuard op t xo yo u v; binOp op t u v : Sem Value).run P w = .ok z w ∧ VR P β w I out.v z ∧ out.upd = [] := by
  unfold aNil at ha
  cases hti : T t with
  | none => simp [hti] at ha
  | some ti =>
    have ht := hT t ti hti
    simp only [hti, Option.bind_some] at ha
    have eq : ∀ e a n c, P.underlying t = some (.slice e) → (Op.equal t (.slice a n c) (.slice none 0 0)).run P w = .ok a.isNone w := by
      intro e a n c hu
      have : ∀ d, (Op.equalIn (d + 1) t (.slice a n c) (.slice none 0 0)).run P w = .ok a.isNone w := by
        intro d
        cases a <;> simp [Op.equalIn, run_underlying hu]
      exact this 9999
    have main : ∀ e, P.underlying t = some (.slice e) → ∀ a n c, u = .slice a n c → v = .slice none 0 0 → (op = .eql ∨ op = .neq) →
        (do eqGuard op t xo yo u v; binOp op t u v : Sem Value).run P w = .ok (.bool (if op = .eql then a.isNone else !a.isNone)) w := by
      rintro e hu a n c rfl rfl (rfl | rfl)
      · simp [eqGuard, binOp, eq e a n c hu]
      · simp [eqGuard, binOp, eq e a n c hu]
    have fin : ∀ e, P.underlying t = some (.slice e) → ∀ a n c, u = .slice a n c → v = .slice none 0 0 → ∀ (bv : AV) (yes : Bool), nilB op bv yes = some out →
        (yes = false → a.isNone = false) → (yes = true → ∀ q, (q = if op = .eql then a.isNone else !a.isNone) → VR P β w I bv (.bool q)) →
        ∃ z, (do eqGuard op t xo yo u v; binOp op t u v : Sem Value).run P w = .ok z w ∧ VR P β w I out.v z ∧ out.upd = [] := by
      intro e hu a n c h1 h2 bv yes hn hno hyes
      unfold nilB at hn
      split at hn
      · simp only [pv, Option.some.injEq] at hn
        subst hn
        refine ⟨_, main e hu a n c h1 h2 (.inl rfl), ?_, rfl⟩
        cases yes with
        | true => exact hyes rfl _ rfl
        | false => simp only [VR, TR, hno rfl]; exact ⟨by simp, trivial⟩
      · simp only [pv, Option.some.injEq] at hn
        subst hn
        refine ⟨_, main e hu a n c h1 h2 (.inr rfl), ?_, rfl⟩
        cases yes with
        | true => exact hyes rfl _ rfl
        | false => simp only [VR, TR, hno rfl]; exact ⟨by simp, trivial⟩
      · cases hn
    split at ha
    · rename_i e rows hk
      have hu := kind_slice ht hk
      simp only [VR] at hy
      simp only [VR, TR] at hx
      rcases hx with ⟨rfl, a, c, rfl, _⟩ | ⟨b, off, c, sz, rfl, _⟩
      · exact fin _ hu _ _ _ rfl hy _ _ ha (fun h => by simp at h) (fun _ q _ => by simp only [VR]; exact ⟨q, rfl⟩)
      · exact fin _ hu _ _ _ rfl hy _ _ ha (fun _ => rfl) (fun _ q _ => by simp only [VR]; exact ⟨q, rfl⟩)
    · rename_i e k off len hk
      have hu := kind_slice ht hk
      simp only [VR] at hx hy
      rcases hx with ⟨_, rfl, _, rfl⟩ | ⟨b, sz, n, cap, o, _, rfl, _⟩
      · exact fin _ hu _ _ _ rfl hy _ _ ha (fun h => by simp at h) (fun _ q _ => by simp only [VR]; exact ⟨q, rfl⟩)
      · exact fin _ hu _ _ _ rfl hy _ _ ha (fun _ => rfl) (fun _ q _ => by simp only [VR]; exact ⟨q, rfl⟩)
    · rename_i e hk
      have hu := kind_slice ht hk
      simp only [VR] at hx hy
      subst hx
      refine fin _ hu _ _ _ rfl hy _ _ ha (fun h => by cases h) (fun _ q hq => ?_)
      simp only [VR, TR, hq]
      cases op <;> exact ⟨by simp, trivial⟩
    · cases ha

theorem aConv_sound (hT : TabOk P T) {s d : TypeId} {x : AV} {u : Value} {out : Out} (ha : aConv T s d x = some out) (hx : VR P β w I x u) :
    ∃ z, (convert s d u).run P w = .ok z w ∧ VR P β w I out.v z ∧ out.upd = [] := by
  unfold aConv at ha
  cases hsi : T s with
  | none => simp [hsi] at ha
  | some si =>
    cases hdi : T d with
    | none => simp [hsi, hdi] at ha
    | some di =>
      simp only [hsi, hdi, Option.bind_some] at ha
      split at ha
      · rename_i k kk n hk
        simp only [pv, Option.some.injEq] at ha
        subst ha
        obtain ⟨info, dd, z, _, h2, _⟩ := (hT s si hsi).ex
        obtain ⟨info', dd', z', _, h2', _, _, _, _, _, h8⟩ := (hT d di hdi).ex
        rw [hk] at h8
        have h8 : dd' = .int k := h8
        subst h8
        simp only [VR, TR] at hx
        obtain ⟨rfl, _⟩ := hx
        refine ⟨.int k (k.wrap n), ?_, by simp only [VR, TR]; exact ⟨trivial, trivial⟩, rfl⟩
        simp [convert, run_underlying h2, run_underlying h2', Conv.intToInt]
      · cases ha

theorem aIndex_sound (hT : TabOk P T) {t : TypeId} {x j : AV} {n : Int} {u v : Value} {out : Out} (ha : aIndex T t x j n = some out) (hob : out.ob) (hx : VR P β w I x u) (hj : VR P β w I j v) :
    ∃ z, (Instr.index t u v).run P w = .ok z w ∧ VR P β w I out.v z ∧ out.upd = [] := by
  unfold aIndex at ha
  cases hti : T t with
  | none => simp [hti] at ha
  | some ti =>
    simp only [hti, Option.bind_some] at ha
    split at ha
    · rename_i s k m hk
      simp only [pvo, Option.some.injEq] at ha
      subst ha
      obtain ⟨h0, b, hb, rfl⟩ := hob
      obtain ⟨info', dd', z', _, h2', _, _, _, _, _, h8⟩ := (hT t ti hti).ex
      rw [hk] at h8
      have h8 : dd' = .string := h8
      subst h8
      simp only [VR, TR] at hx hj
      obtain ⟨rfl, _⟩ := hx
      obtain ⟨rfl, _⟩ := hj
      refine ⟨.int .u8 b.toNat, ?_, by simp only [VR, TR]; exact ⟨trivial, trivial⟩, rfl⟩
      simp [Instr.index, asIntOf, run_underlying h2', h0, hb]
    · cases ha

theorem aSliceNil_sound (hT : TabOk P T) {t : TypeId} {x : AV} {lo hi : Option AV} {out : Out} {v : Value} {lov hiv : Option Value}
    (ha : aSliceNil T t x lo hi = some out) (hob : out.ob) (hx : VR P β w I x v) (hlo : ∀ x, lo = some x → ∃ v, lov = some v ∧ VR P β w I x v) (hlo0 : lo = none → lov = none) (hhi : ∀ x, hi = some x → ∃ v, hiv = some v ∧ VR P β w I x v) (hhi0 : hi = none → hiv = none) :
    ∃ u, (Instr.sliceAt t v lov hiv none).run P w = .ok u w ∧ VR P β w I out.v u ∧ out.upd = [] := by
  unfold aSliceNil at ha
  cases hti : T t with
  | none => simp [hti] at ha
  | some ti =>
    have ht := hT t ti hti
    simp only [hti, Option.bind_some] at ha
    split at ha
    · rename_i e hkd
      cases hei : T e with
      | none => simp [hei] at ha
      | some ei =>
        have he := hT e ei hei
        simp only [hei, Option.bind_some] at ha
        cases hl : bnd 0 lo with
        | none => simp [hl] at ha
        | some l =>
          cases hh : bnd 0 hi with
          | none => simp [hl, hh] at ha
          | some r =>
            simp only [hl, hh, Option.bind_some, pvo, Option.some.injEq] at ha
            subst ha
            obtain ⟨rfl, rfl⟩ := hob
            simp only [VR] at hx
            subst hx
            have := run_sliceBounds (P := P) (w := w) (len := 0) (cap := 0) (bnd_sound hl hlo hlo0) (bnd_sound hh hhi hhi0) (by omega) (by omega) (by omega)
            refine ⟨.slice none 0 0, ?_, by simp only [VR], rfl⟩
            simp [Instr.sliceAt, Instr.slice, run_underlying (kind_slice ht hkd), this, he.size (w := w)]
    · cases ha

theorem ORows.congr : ∀ (rows : List (List AV)) (c c' : Array Value) (off sz : Nat), (∀ j, j < off + rows.length * sz → c'[j]? = c[j]?) → ORows P β w I rows c off sz → ORows P β w I rows c' off sz
  | [], _, _, _, _, _, _ => trivial
  | r :: rs, c, c', off, sz, hc, ⟨h1, h2, h3⟩ => by
    have hl : (r :: rs).length * sz = sz + rs.length * sz := by rw [List.length_cons, Nat.add_mul]; omega
    rw [hl] at hc
    refine ⟨h1, ?_, ORows.congr rs c c' (off + sz) sz (fun j hj => hc j (by omega)) h3⟩
    rw [ORow_iff] at h2 ⊢
    intro j x hx
    have hj := (List.getElem?_eq_some_iff.1 hx).1
    rw [hc (off + j) (by omega)]
    exact h2 j x hx

theorem ORows.zeros (z : List Value) (sz : Nat) (hz : z.length = sz) (h1 : ∀ v ∈ z, oneCell v) : ∀ (n : Nat) (c : Array Value) (off : Nat), (∀ i j, i < n → j < sz → c[off + i * sz + j]? = z[j]?) → ORows P β w I (List.replicate n (z.map cv)) c off sz
  | 0, _, _, _ => trivial
  | n + 1, c, off, hc => by
    rw [List.replicate_succ]
    refine ⟨by simpa using hz, ?_, ORows.zeros z sz hz h1 n c (off + sz) fun i j hi hj => ?_⟩
    · rw [ORow_iff]
      intro j x hx
      simp only [List.getElem?_map, Option.map_eq_some_iff] at hx
      obtain ⟨v, hv, rfl⟩ := hx
      have hj := (List.getElem?_eq_some_iff.1 hv).1
      refine ⟨v, ?_, VR.cv, h1 v (List.mem_of_getElem? hv)⟩
      have := hc 0 j (by omega) (by omega)
      rw [Nat.zero_mul, Nat.add_zero] at this
      rw [this]; exact hv
    · have := hc (i + 1) j (by omega) hj
      rw [show off + sz + i * sz + j = off + (i + 1) * sz + j by rw [Nat.add_mul]; omega]
      exact this

theorem zeroCells_get (z : Array Value) (n j : Nat) (h : j < n * z.size) : (Builtin.zeroCells z n)[j]? = z[j % z.size]? := by
  have hz : 0 < z.size := Nat.pos_of_ne_zero fun e => by rw [e] at h; omega
  have hm : j % z.size < z.size := Nat.mod_lt _ hz
  simp [Builtin.zeroCells, h, hm]

theorem aBuiltin2_sound (hT : TabOk P T) (h : Mem P w0 O0 β I obj w) (hn : β (nid i) = none) {b : Builtin} {args : List AV} {tys : Array TypeId} {get : Nat → Option AObj} {out : Out} (hg : ∀ k o, get k = some o → obj k = some o)
    {vs : Array Value} {ty : TypeId} {ops : Array Operand} (ha : aBuiltin2 T i b args tys.toList get = some out) (hob : out.ob) (hv : VRl P β w I args vs.toList) {r : Operand → Value} (hops : vs = ops.map r) {dst : Option Tmp} {pos : String} {after : Array Edge} {guard : Option (Nat × Bool)} :
    Did P w0 O0 β I obj w i out ((execOp r ⟨dst, .call { callee := .builtin b, args := ops, argTypes := tys }, ty, pos, after, guard⟩).run P w) := by
  unfold aBuiltin2 at ha
  split at ha
  · rename_i t htys
    obtain ⟨v, hvs⟩ : ∃ v, vs = #[v] := by
      obtain ⟨l⟩ := vs
      match l, hv with
      | [v], _ => exact ⟨v, rfl⟩
      | [], h => simp [VRl] at h
      | _ :: _ :: _, h => simp [VRl] at h
    have ht : tys = #[t] := by cases tys; simpa using htys
    subst hvs ht
    simp only [VRl, VR] at hv
    cases hti : T t with
    | none => simp [hti] at ha
    | some ti =>
      simp only [hti, Option.bind_some] at ha
      split at ha
      · rename_i e hk
        simp only [pv, Option.some.injEq] at ha
        subst ha
        refine ⟨.int .i64 0, w, β, I, .inl ?_, Step.refl .., h, by simp only [VR, TR]; exact ⟨trivial, trivial⟩⟩
        rw [hv.1] at hops
        simp [execOp, resolve, invoke, builtin, ← hops, Builtin.cap_, run_underlying (kind_slice (hT t ti hti) hk), goInt]
      · cases ha
  · rename_i k off len t htys
    obtain ⟨v, hvs⟩ : ∃ v, vs = #[v] := by
      obtain ⟨l⟩ := vs
      match l, hv with
      | [v], _ => exact ⟨v, rfl⟩
      | [], h => simp [VRl] at h
      | _ :: _ :: _, h => simp [VRl] at h
    have ht : tys = #[t] := by cases tys; simpa using htys
    subst hvs ht
    simp only [VRl] at hv
    have hv := hv.1
    cases hti : T t with
    | none => simp [hti] at ha
    | some ti =>
      simp only [hti, Option.bind_some] at ha
      split at ha
      · rename_i e hkd
        cases hei : T e with
        | none => simp [hei] at ha
        | some ei =>
          cases hk : get k with
          | none => simp [hei, hk] at ha
          | some o =>
            simp only [hei, hk, Option.bind_some] at ha
            split at ha
            · rename_i hsz
              injection ha with ha
              subst ha
              have he := hT e ei hei
              have hund := kind_slice (hT t ti hti) hkd
              obtain ⟨info, d, z, g1, g2, g3, g4, g5, g6, g7, g8⟩ := he.ex
              have hko := hg k o hk
              have weak : ∀ {w' : World}, Mem P w0 O0 β I obj w' → Mem P w0 O0 β I (updo obj [(k, some ⟨o.sz, o.rows.take off⟩)]) w' := by
                intro w' hm
                refine hm.weak fun j o' hj => ?_
                simp only [updo] at hj
                split at hj
                · rename_i e; subst e
                  injection hj with hj; subst hj
                  refine ⟨o, hko, fun B hB hO => ?_⟩
                  cases B with
                  | none => simp only [OR] at hO ⊢; simp [hO]
                  | «at» b s n =>
                    obtain ⟨h1, c, e, h2, h3, h4⟩ := hO
                    exact ⟨h1, c, e, h2, h3, ORows.take _ _ _ _ _ h4⟩
                · exact ⟨o', hj, fun _ _ h => h⟩
              have hdone : ∀ w', (Builtin.clear_ #[t] ty #[v]).run P w = .ok (.tuple #[]) w' → (execOp r ⟨dst, .call { callee := .builtin .clear, args := ops, argTypes := #[t] }, ty, pos, after, guard⟩).run P w = .ok (.value (.tuple #[])) w' := by
                intro w' hw
                simp [execOp, resolve, invoke, builtin, ← hops, hw]
              have htup : ∀ {w' : World}, VR P β w' I (.tup []) (.tuple #[]) := by
                intro w'
                simp only [VR]; exact ⟨#[], rfl, trivial⟩
              simp only [VR] at hv
              rcases hv with ⟨h1, rfl, _, rfl⟩ | ⟨b, sz, m, cap, a, h1, rfl, h2, h3, h4⟩
              · exact ⟨_, w, β, I, .inl (hdone w (by simp [Builtin.clear_, run_underlying hund])), Step.refl .., weak h, htup⟩
              · by_cases h0 : len = 0
                · subst h0
                  exact ⟨_, w, β, I, .inl (hdone w (by simp [Builtin.clear_, run_underlying hund])), Step.refl .., weak h, htup⟩
                · obtain ⟨B, hB, hO⟩ := h.objs k o hko
                  rw [h1] at hB; injection hB with hB; subst hB
                  obtain ⟨hs, c, ce, hc, hcn, hO⟩ := hO
                  have ha' : a = off * sz := h4 (by omega)
                  subst ha'
                  have hzs : z.cells.size = ei.size := by rw [← Array.length_toList, g6]; exact he.len
                  have hzl : (Builtin.zeroCells z.cells len).toList.length = len * ei.size := by simp [size_zeroCells, hzs]
                  have hfit : off * sz + len * ei.size ≤ c.size := by
                    rw [hcn, ← hsz, ← hs, ← Nat.add_mul]
                    exact Nat.le_trans (Nat.mul_le_mul_right _ (by omega)) h3
                  have hone : ∀ u ∈ (Builtin.zeroCells z.cells len).toList, u.oneCell' = true := by
                    intro u hu
                    obtain ⟨j, hj⟩ := List.getElem?_of_mem hu
                    have hjl := (List.getElem?_eq_some_iff.1 hj).1
                    rw [hzl, ← hzs] at hjl
                    rw [Array.getElem?_toList, zeroCells_get _ _ _ hjl] at hj
                    have : u ∈ ei.zero := by rw [← g6]; exact Array.mem_toList_iff.2 (Array.mem_of_getElem? hj)
                    exact oneCell' (oneCell_of_B (List.all_eq_true.1 he.one u this))
                  have hst := run_storeCells_at P b (off * sz) ce (Builtin.zeroCells z.cells len).toList 0 c w hc (by rw [hzl]; omega) hone
                  simp only [Nat.add_zero] at hst
                  generalize hcc : (List.take (off * sz) c.toList ++ (Builtin.zeroCells z.cells len).toList ++ List.drop (off * sz + (Builtin.zeroCells z.cells len).toList.length) c.toList).toArray = cc at hst
                  have hccs : cc.size = c.size := by rw [← hcc]; simp [List.length_take, List.length_drop, size_zeroCells, hzs]; omega
                  have hzv : (zeroValue e).run P w = .ok z w := by simp [zeroValue, typeInfo, g1, g5]
                  have hrun : (Builtin.clear_ #[t] ty #[.slice (some ⟨b, off * sz, none⟩) len cap]).run P w = .ok (.tuple #[]) (w.setRow b cc) := by
                    obtain ⟨len', rfl⟩ : ∃ len', len = len' + 1 := ⟨len - 1, by omega⟩
                    simp [Builtin.clear_, run_underlying hund, hzv, hst]
                  obtain ⟨hSame, hM⟩ := Mem.write (o' := ⟨o.sz, o.rows.take off⟩) h hko h1 (c' := cc) (e := ce) (setRow_heap w b c cc ce (0, 0) hc) (fun b' hb => setRow_other w b b' cc hb) (by simp) rfl rfl rfl hs (by omega) (by
                    refine ORows.congr _ c cc 0 o.sz (fun j hj => ?_) (by rw [← hs]; exact ORows.take _ _ _ _ _ hO)
                    have hj2 : j < off * sz := by
                      rw [hs]
                      refine Nat.lt_of_lt_of_le hj ?_
                      rw [Nat.zero_add]
                      exact Nat.mul_le_mul_right _ (by simp [List.length_take]; omega)
                    rw [← hcc, List.getElem?_toArray, List.append_assoc, List.getElem?_append_left (by simp [List.length_take]; omega), List.getElem?_take, if_pos hj2, Array.getElem?_toList])
                  exact ⟨_, _, β, I, .inl (hdone _ hrun), ⟨fun _ _ => rfl, fun _ _ h => h, hSame, fun _ h => h⟩, hM, htup⟩
            · cases ha
      · cases ha
  · rename_i kk m t u htys
    obtain ⟨v, v', hvs⟩ : ∃ v v', vs = #[v, v'] := by
      obtain ⟨l⟩ := vs
      match l, hv with
      | [v, v'], _ => exact ⟨v, v', rfl⟩
      | [], h => simp [VRl] at h
      | [_], h => simp [VRl] at h
      | _ :: _ :: _ :: _, h => simp [VRl] at h
    have ht : tys = #[t, u] := by cases tys; simpa using htys
    subst hvs ht
    simp only [VRl, VR, TR] at hv
    obtain ⟨rfl, ⟨rfl, _⟩, _⟩ := hv
    cases hti : T t with
    | none => simp [hti] at ha
    | some ti =>
      cases hui : T u with
      | none => simp [hti, hui] at ha
      | some ui =>
        simp only [hti, hui, Option.bind_some] at ha
        split at ha
        · rename_i e kn hkd hku
          cases hei : T e with
          | none => simp [hei] at ha
          | some ei =>
            simp only [hei, Option.bind_some, Option.some.injEq] at ha
            subst ha
            obtain ⟨m0, m48, m63, mpos⟩ := hob
            have he := hT e ei hei
            have hund := kind_slice (hT t ti hti) hkd
            obtain ⟨info, d, z, g1, g2, g3, g4, g5, g6, g7, g8⟩ := he.ex
            obtain ⟨_, dd', _, _, h2', _, _, _, _, _, h8⟩ := (hT u ui hui).ex
            rw [hku] at h8
            have h8 : dd' = .int kn := h8
            subst h8
            obtain ⟨n, rfl⟩ : ∃ n : Nat, m = (n : Int) := ⟨m.toNat, by omega⟩
            simp only [Int.toNat_natCast] at m48 m63 ⊢
            by_cases h0 : n = 0
            · subst h0
              obtain ⟨hS, hM⟩ := Mem.addNil (i := nid i) (o := ⟨ei.size, []⟩) h hn rfl
              have hrun : (Builtin.append_ #[t, u] ty #[.slice none 0 0, .int kk ((0 : Nat) : Int)]).run P w = .ok (.slice none 0 0) w := by
                have hw0 : IntKind.i64.wrap (0 : Int) = 0 := by decide
                simp [Builtin.append_, run_underlying hund, run_underlying h2', sizeOf, typeInfo, g1, asInt, asIntOf, hw0]
              replace hrun : (Builtin.append_ #[t, u] ty #[.slice none 0 0, .int kk 0]).run P w = .ok (.slice none 0 0) w := hrun
              refine ⟨.slice none 0 0, w, _, I, .inl (by simp [execOp, resolve, invoke, builtin, ← hops, hrun]), hS, by simpa [wkRows] using hM, by simp only [VR]; exact .inl ⟨by simp [ins], trivial, trivial, trivial⟩⟩
            · have hrun := Lib.run_append_nil_zeros (P := P) w t u ty e info z kk kn hund h2' g1 g5 n (by omega) (by omega) (by simp only [maxLen] at m63; omega) (by rw [g4]; omega)
              have hd := h.drew
              have hzs : z.cells.size = ei.size := by rw [← Array.length_toList, g6]; exact he.len
              have hge := grownCap_ge w n 0 e
              generalize hC : Builtin.zeroCells z.cells n ++ Builtin.zeroCells z.cells (grownCap w n 0 e - n) = cs at hrun
              have hcs : cs.size = grownCap w n 0 e * ei.size := by
                rw [← hC]
                simp only [Array.size_append, size_zeroCells, hzs, ← Nat.add_mul]
                rw [show n + (grownCap w n 0 e - n) = grownCap w n 0 e by omega]
              obtain ⟨hS, hM⟩ := Mem.alloc (i := nid i) (o := ⟨ei.size, List.replicate n (ei.zero.map cv)⟩) (c := cs) (e := e) hd hn (by
                refine ORows.zeros ei.zero ei.size he.len (fun v hv => oneCell_of_B (List.all_eq_true.1 he.one v hv)) n cs 0 (fun i j hi hj => ?_)
                have hlt : 0 + i * ei.size + j < n * ei.size := by
                  have : (i + 1) * ei.size ≤ n * ei.size := Nat.mul_le_mul_right _ (by omega)
                  rw [Nat.add_mul] at this
                  omega
                rw [← hC, Array.getElem?_append_left (by simpa [size_zeroCells, hzs] using hlt), zeroCells_get _ _ _ (by rw [hzs]; exact hlt), hzs, ← g6, Array.getElem?_toList]
                congr 1
                rw [Nat.zero_add, Nat.mul_comm, Nat.mul_add_mod, Nat.mod_eq_of_lt hj])
              refine ⟨_, _, _, I, .inl (by simp [execOp, resolve, invoke, builtin, ← hops, hrun]; rfl), ⟨hS.other, hS.ext, fun b hb => hS.same b hb, hS.inc⟩, hM.wkAt, ?_⟩
              simp only [VR]
              refine .inr ⟨w.heap.size, ei.size, _, _, 0, by simp [ins]; rfl, rfl, hge, ?_, by simp⟩
              rw [hcs, Nat.zero_add]; exact Nat.le_refl _
        · cases ha
  · cases ha

theorem absExt_sound (hT : TabOk P T) (h : Mem P w0 O0 β I obj w) (hn : β (nid i) = none) {o : Oper} {n : Int} {ρ : Operand → AV} {get : Nat → Option AObj} {out : Out} (hg : ∀ k o, get k = some o → obj k = some o)
    {r : Operand → Value} (hρ : ∀ x, VR P β w I (ρ x) (r x)) (ha : absExt T i o n ρ get = some out) (hob : out.ob) : Did P w0 O0 β I obj w i out ((execOp r o).run P w) := by
  obtain ⟨dst, op, ty, pos, after, guard⟩ := o
  have val : ∀ {s : Sem Value} {z : Value}, s.run P w = .ok z w → out.upd = [] → VR P β w I out.v z → Did P w0 O0 β I obj w i out ((do pure (.value (← s)) : Sem Next).run P w) := by
    intro s z h1 h2 h3
    refine ⟨z, w, β, I, .inl (by simp [h1]), Step.refl .., by rw [h2]; exact h, h3⟩
  unfold absExt at ha
  split at ha
  · rename_i bop t x y q heq
    simp only at heq; subst heq
    obtain ⟨z, h1, h2, h3⟩ := aNil_sound (xo := x) (yo := y) hT ha (hρ x) (hρ y)
    exact val h1 h3 h2
  · rename_i s d x heq
    simp only at heq; subst heq
    obtain ⟨z, h1, h2, h3⟩ := aConv_sound hT ha (hρ x)
    exact val h1 h3 h2
  · rename_i t x j heq
    simp only at heq; subst heq
    obtain ⟨z, h1, h2, h3⟩ := aIndex_sound hT ha hob (hρ x) (hρ j)
    exact val h1 h3 h2
  · rename_i t x lo hi heq
    simp only at heq; subst heq
    obtain ⟨z, h1, h2, h3⟩ := aSliceNil_sound (lov := lo.map r) (hiv := hi.map r) hT ha hob (hρ x) (fun y hy => by
      cases lo with
      | none => cases hy
      | some q => injection hy with hy; subst hy; exact ⟨r q, rfl, hρ q⟩) (fun h => by cases lo <;> first | rfl | cases h) (fun y hy => by
      cases hi with
      | none => cases hy
      | some q => injection hy with hy; subst hy; exact ⟨r q, rfl, hρ q⟩) (fun h => by cases hi <;> first | rfl | cases h)
    exact val h1 h3 h2
  · rename_i b args tys heq
    simp only at heq; subst heq
    exact aBuiltin2_sound hT h hn hg ha hob (by rw [Array.toList_map]; exact VRl.map hρ _) rfl
  · cases ha

theorem absFrz_sound (hT : TabOk P T) (h : Mem P w0 O0 β I obj w) (hn : β (nid i) = none) {o : Oper} {ids : List Nat} {fr : Operand → AV} {orc : Orc} {ρ : Operand → AV} {get : Nat → Option AObj} {out : Out} (hg : ∀ k o, get k = some o → obj k = some o)
    {r : Operand → Value} (hρ : ∀ x, VR P β w I (ρ x) (r x)) (ha : absFrz P T i o ids fr orc ρ get = some out) (hob : out.ob) : Did P w0 O0 β I obj w i out ((execOp r o).run P w) := by
  unfold absFrz at ha
  split at ha
  · cases ha
  rw [Option.bind_eq_some_iff] at ha
  obtain ⟨out', h1, h2⟩ := ha
  injection h2 with h2
  subst h2
  have hob := AllP_all _ hob
  have hb := hob (∀ x ∈ o.op.operands, (Bor P get (ρ x) (fr x) ∧ ∀ k ∈ refs (ρ x), k ∈ ids) ∨ fr x = ρ x) (by simp)
  have hsub : ∀ k o', updo obj (ids.map fun k => (k, none)) k = some o' → obj k = some o' ∧ k ∉ ids := by
    intro k o' hk
    rw [updo_none] at hk
    split at hk
    · cases hk
    · exact ⟨hk, ‹_›⟩
  have hd := h.drop (updo obj (ids.map fun k => (k, none))) (fun k o hk => (hsub k o hk).1)
  obtain ⟨_, hM⟩ := hd.below (I' := Lent β obj ids I) (w' := w) ⟨rfl, rfl, rfl, Nat.le_refl _, fun _ _ => rfl⟩ (fun b hb => .inl hb) (lent_lt h ids) (fun b k o s n hb' e1 e2 => by
    obtain ⟨f1, f2⟩ := hsub k o e1
    obtain ⟨a1, _, _⟩ := h.own k o b s n f1 e2
    rcases hb' with h5 | ⟨k', o', s', n', g1, g2, g3⟩
    · exact a1 h5
    · have := h.inj k k' o o' b s n s' n' f1 g2 e2 g3
      subst this
      exact f2 g1) (fun b hb' => by
    rcases hb' with h5 | ⟨k', o', s', n', g1, g2, g3⟩
    · exact h.up b h5
    · exact .inr (h.own k' o' b s' n' g2 g3).2.2)
  have hfr : ∀ x, VR P β w (Lent β obj ids I) ((fun x => open Classical in if x ∈ o.op.operands then fr x else .undef) x) (r x) := by
    intro x
    by_cases hx : x ∈ o.op.operands
    · simp only [hx, if_true]
      rcases hb x hx with ⟨b1, b2⟩ | b1
      · exact VR.mono (fun k B h => by simp [nob] at h) (fun _ _ => rfl) (fun _ h => h) _ _ (Bor.sound h ids _ _ _ b2 (Bor.weaken hg _ _ b1) (hρ x))
      · rw [b1]; exact VR.mono (fun _ _ h => h) (fun _ _ => rfl) (fun _ h => .inl h) _ _ (hρ x)
    · simp only [hx, if_false, VR]
  rw [absOp_congr (ρ' := fun x => open Classical in if x ∈ o.op.operands then fr x else .undef) (fun x hx => by simp only [hx, if_true])] at h1
  obtain ⟨v', w', β', I', k1, k2, k3, k4⟩ := absOp_sound hT hM hn (fun k o' hk => by
    rw [updo_none]
    split at hk
    · cases hk
    · rw [if_neg ‹_›]; exact hg k o' hk) hfr h1 (AllP_of _ fun p hp => hob p (by simp [hp]))
  refine ⟨v', w', β', I', k1, ⟨k2.other, k2.ext, fun b hb => k2.same b (.inl hb), fun b hb => k2.inc b (.inl hb)⟩, ?_, k4⟩
  have e : updo obj (out'.upd ++ ids.map fun k => (k, none)) = updo (updo obj (ids.map fun k => (k, none))) out'.upd := funext fun k => updo_append obj _ _ k
  rw [e]; exact k3
end
end Go.Gb
