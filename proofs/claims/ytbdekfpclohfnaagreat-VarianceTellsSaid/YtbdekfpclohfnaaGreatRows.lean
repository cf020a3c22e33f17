/-
  NARROWER THAN 'FOR EVERY INPUT', by the rows' own cells (each row's printed sentence says how): VarianceTells: loops.
  DERIVED. THE GIVEN ROWS OF THIS SEAT. 2 by the template 'for every input the law returns true; each argument reads behind the call as it read before'; 0 by the template 'total and deterministic' (their statements: YtbdekfpclohfnaaGreatTotals.lean).
  GIVEN WITH THE SEED: the statements are not yours to turn. If you find one false, say at which input.
  Laid BY PROGRAM, IN A SANDBOX (cutbox-rows.mjs): the forced cells as the released guide's own fill.sh prints them over the translation 660f916a94cc0450… (all of the seat's roots in one cut). By AI agents, Wed Nov 11 2026. No macro, syntax, notation, axiom, sorry.
-/
import Derived.Test.YtbdekfpclohfnaaGreatChecked
import GoSem.Claim
import GoSem.ClaimJoined
import GoSem.ClaimMapViews
import Derived.JoinedTies
import Derived.KernelRfl
namespace Go.Proofs.YtbdekfpclohfnaaGreat
/- THE CELL 'sum', in the pinned program and in every row, IS THE sha256 OF THE DUMP (.gsa) THAT YtbdekfpclohfnaaGreatProg.lean LOADS. Nothing in Lean hashes anything: it is a label: what it is worth is what the hold of that sum in a sandbox is worth. -/
noncomputable def Tryz.pinned : Pinned := { name := "ytbdekfpclohfnaagreat", sum := "660f916a94cc0450d91a56a0c497315889621285335bb581205e838f411e0ec4", checked := Tryz.checked }
namespace Rows
def none {H : Type} : Left H := { results := [], args := [] }

/-- 'greenbeltlaw40.VarianceTells': WHATEVER THE INPUT: true; the input reads as it did. -/
def varianceTellsSpec : ChangeSpec := { name := "varianceTells", fn := fun _ => fun
  | [d1, d2, d3, d4, d5, d6] => { results := [.lit (.bool true)], args := [d1, d2, d3, d4, d5, d6] }
  | _ => none }
def varianceTellsRow : OpenClaim := { program := "ytbdekfpclohfnaagreat", sum := "660f916a94cc0450d91a56a0c497315889621285335bb581205e838f411e0ec4", func := "greenbelt/greenbeltlaw40.VarianceTells", spec := "varianceTells", unfollowed := true, recurses := true, loops := true, apart := false }
def VarianceTellsSaid : Prop := varianceTellsRow.holds Tryz.pinned (OpenSpec.ofChange varianceTellsSpec)

/-- ITS FALSE NEIGHBOUR: 'it returns false'. Refute it at one input. -/
def varianceTellsWrong : ChangeSpec := { name := "varianceTells", fn := fun _ => fun
  | [d1, d2, d3, d4, d5, d6] => { results := [.lit (.bool false)], args := [d1, d2, d3, d4, d5, d6] }
  | _ => none }
def VarianceTellsWrongFalsely : Prop := varianceTellsRow.holds Tryz.pinned (OpenSpec.ofChange varianceTellsWrong)

/-- 'greenbeltlaw40.VarianceAlike': WHATEVER THE INPUT: true; the input reads as it did. -/
def varianceAlikeSpec : ChangeSpec := { name := "varianceAlike", fn := fun _ => fun
  | [d1, d2] => { results := [.lit (.bool true)], args := [d1, d2] }
  | _ => none }
def varianceAlikeRow : OpenClaim := { program := "ytbdekfpclohfnaagreat", sum := "660f916a94cc0450d91a56a0c497315889621285335bb581205e838f411e0ec4", func := "greenbelt/greenbeltlaw40.VarianceAlike", spec := "varianceAlike", unfollowed := true, recurses := true, apart := false }
def VarianceAlikeSaid : Prop := varianceAlikeRow.holds Tryz.pinned (OpenSpec.ofChange varianceAlikeSpec)

/-- ITS FALSE NEIGHBOUR: 'it returns false'. Refute it at one input. -/
def varianceAlikeWrong : ChangeSpec := { name := "varianceAlike", fn := fun _ => fun
  | [d1, d2] => { results := [.lit (.bool false)], args := [d1, d2] }
  | _ => none }
def VarianceAlikeWrongFalsely : Prop := varianceAlikeRow.holds Tryz.pinned (OpenSpec.ofChange varianceAlikeWrong)

/- THE SECOND FORM. 'bulk': how many values and letters a reading holds, each counted each time it is reached (what is shared counts as often as it is met; a slice's spare places count too). A statement '..UptoSaid' is the law's where the arguments, and the package variables that the reading takes, are together of bulk at most 1048576: NARROWER than '..Said'. Prove '..Said' where nothing that the law and all that it calls make is longer than what came in: it says more and counts as full. Else prove '..UptoSaid'. A law counts once. -/
mutual
def uptoBulk {H : Type} : DataW H → Nat
  | .lit (.string bytes) => bytes.length + 1
  | .lit _ => 1
  | .nil => 1
  | .ptr d => uptoBulk d + 1
  | .slice elems spare => uptoBulkAll elems + uptoBulkAll spare + 1
  | .agg parts => uptoBulkAll parts + 1
  | .iface _ d => uptoBulk d + 1
  | .map entries => uptoBulkEntries entries + 1
  | .held _ => 1
def uptoBulkAll {H : Type} : List (DataW H) → Nat
  | [] => 0
  | d :: r => uptoBulk d + uptoBulkAll r
def uptoBulkEntries {H : Type} : List (Lit × DataW H) → Nat
  | [] => 0
  | x :: r => uptoBulkEntry x + uptoBulkEntries r
def uptoBulkEntry {H : Type} : Lit × DataW H → Nat
  | (.string bytes, d) => bytes.length + uptoBulk d + 1
  | (_, d) => uptoBulk d + 1
 end
def uptoSmall : (H : Type) → List (DataW H) → Bool := fun _ ds => decide (uptoBulkAll ds ≤ 1048576)
def OpenSpec.upto (s : _root_.Go.ChangeSpec) : _root_.Go.OpenSpec := { _root_.Go.OpenSpec.ofChange s with cond := some uptoSmall }

/-- 'greenbeltlaw40.VarianceTells', WHERE WHAT IT READS IS OF BULK AT MOST 1048576: true; the input reads as it did. -/
def varianceTellsUptoRow : OpenClaim := { program := "ytbdekfpclohfnaagreat", sum := "660f916a94cc0450d91a56a0c497315889621285335bb581205e838f411e0ec4", func := "greenbelt/greenbeltlaw40.VarianceTells", spec := "varianceTells", unfollowed := true, recurses := true, loops := true, apart := false, narrowed := true }
def VarianceTellsUptoSaid : Prop := varianceTellsUptoRow.holds Tryz.pinned (OpenSpec.upto varianceTellsSpec)

/-- 'greenbeltlaw40.VarianceAlike', WHERE WHAT IT READS IS OF BULK AT MOST 1048576: true; the input reads as it did. -/
def varianceAlikeUptoRow : OpenClaim := { program := "ytbdekfpclohfnaagreat", sum := "660f916a94cc0450d91a56a0c497315889621285335bb581205e838f411e0ec4", func := "greenbelt/greenbeltlaw40.VarianceAlike", spec := "varianceAlike", unfollowed := true, recurses := true, apart := false, narrowed := true }
def VarianceAlikeUptoSaid : Prop := varianceAlikeUptoRow.holds Tryz.pinned (OpenSpec.upto varianceAlikeSpec)

end Rows
end Go.Proofs.YtbdekfpclohfnaaGreat
