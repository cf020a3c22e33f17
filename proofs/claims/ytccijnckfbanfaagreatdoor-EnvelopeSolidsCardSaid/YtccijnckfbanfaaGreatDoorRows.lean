/-
  NARROWER THAN 'FOR EVERY INPUT', by the rows' own cells (each row's printed sentence says how): EnvelopeTells: loops, laid · EnvelopeDescends: loops, laid · EnvelopeSolids: loops, laid.
  DERIVED. THE GIVEN ROWS OF THIS SEAT. 3 by the template 'for every input the law returns true; each argument reads behind the call as it read before'; 0 by the template 'total and deterministic' (their statements: YtccijnckfbanfaaGreatDoorTotals.lean).
  GIVEN WITH THE SEED: the statements are not yours to turn. If you find one false, say at which input.
  Laid BY PROGRAM, IN A SANDBOX (cutbox-rows.mjs): the forced cells as the released guide's own fill.sh prints them over the translation 53eaaed217d63b2e… (all of the seat's roots in one cut). By AI agents, Wed Nov 11 2026. No macro, syntax, notation, axiom, sorry.
-/
import Derived.Test.YtccijnckfbanfaaGreatDoorChecked
import GoSem.Claim
import GoSem.ClaimJoined
import GoSem.ClaimMapViews
import Derived.JoinedTies
import Derived.KernelRfl
namespace Go.Proofs.YtccijnckfbanfaaGreatDoor
/- THE CELL 'sum', in the pinned program and in every row, IS THE sha256 OF THE DUMP (.gsa) THAT YtccijnckfbanfaaGreatDoorProg.lean LOADS. Nothing in Lean hashes anything: it is a label: what it is worth is what the hold of that sum in a sandbox is worth. -/
noncomputable def Tryz.pinned : Pinned := { name := "ytccijnckfbanfaagreatdoor", sum := "53eaaed217d63b2e42af2d8e03073dd0a5b5ad4e00acd294e765214d7e1136b1", checked := Tryz.checked }
namespace Rows
def none {H : Type} : Left H := { results := [], args := [] }

/- WHAT THE LISTED PACKAGE-LEVEL VARIABLES READ AS WHEN THE CALL BEGINS. Each datum BY PROGRAM (the guide's laid-datum.mjs) off the statement by which the dump's own 'gosem.cut.vars' lays the variable. In a bare row this is a premise. The card (YtccijnckfbanfaaGreatDoorCards.lean) ties it to the program's text. -/
def laid_greenbelt_plane_grid {H : Type} : DataW H := .agg [.lit (.int .i64 0), .lit (.int .i64 0), .lit (.int .i64 1048576), .lit (.int .i64 1048576)]

/-- 'greenbeltlaw24.EnvelopeTells': WHATEVER THE INPUT: true; the input reads as it did. -/
def envelopeTellsSpec : ChangeSpec := { name := "envelopeTells", fn := fun _ => fun
  | [d1, d2, d3, d4, d5] => { results := [.lit (.bool true)], args := [d1, d2, d3, d4, d5] }
  | _ => none }
def envelopeTellsRow : OpenClaim := { program := "ytccijnckfbanfaagreatdoor", sum := "53eaaed217d63b2e42af2d8e03073dd0a5b5ad4e00acd294e765214d7e1136b1", func := "greenbelt/greenbeltlaw24.EnvelopeTells", spec := "envelopeTells", unfollowed := true, recurses := true, named := ["greenbelt/plane.grid"], loops := true, apart := false, laid := [("greenbelt/plane.grid", laid_greenbelt_plane_grid)] }
def EnvelopeTellsSaid : Prop := envelopeTellsRow.holds Tryz.pinned (OpenSpec.ofChange envelopeTellsSpec)

/-- ITS FALSE NEIGHBOUR: 'it returns false'. Refute it at one input. -/
def envelopeTellsWrong : ChangeSpec := { name := "envelopeTells", fn := fun _ => fun
  | [d1, d2, d3, d4, d5] => { results := [.lit (.bool false)], args := [d1, d2, d3, d4, d5] }
  | _ => none }
def EnvelopeTellsWrongFalsely : Prop := envelopeTellsRow.holds Tryz.pinned (OpenSpec.ofChange envelopeTellsWrong)

/-- 'greenbeltlaw24.EnvelopeDescends': WHATEVER THE INPUT: true; the input reads as it did. -/
def envelopeDescendsSpec : ChangeSpec := { name := "envelopeDescends", fn := fun _ => fun
  | [d1, d2, d3, d4, d5] => { results := [.lit (.bool true)], args := [d1, d2, d3, d4, d5] }
  | _ => none }
def envelopeDescendsRow : OpenClaim := { program := "ytccijnckfbanfaagreatdoor", sum := "53eaaed217d63b2e42af2d8e03073dd0a5b5ad4e00acd294e765214d7e1136b1", func := "greenbelt/greenbeltlaw24.EnvelopeDescends", spec := "envelopeDescends", unfollowed := true, recurses := true, named := ["greenbelt/plane.grid"], loops := true, apart := false, laid := [("greenbelt/plane.grid", laid_greenbelt_plane_grid)] }
def EnvelopeDescendsSaid : Prop := envelopeDescendsRow.holds Tryz.pinned (OpenSpec.ofChange envelopeDescendsSpec)

/-- ITS FALSE NEIGHBOUR: 'it returns false'. Refute it at one input. -/
def envelopeDescendsWrong : ChangeSpec := { name := "envelopeDescends", fn := fun _ => fun
  | [d1, d2, d3, d4, d5] => { results := [.lit (.bool false)], args := [d1, d2, d3, d4, d5] }
  | _ => none }
def EnvelopeDescendsWrongFalsely : Prop := envelopeDescendsRow.holds Tryz.pinned (OpenSpec.ofChange envelopeDescendsWrong)

/-- 'greenbeltlaw24.EnvelopeSolids': WHATEVER THE INPUT: true; the input reads as it did. -/
def envelopeSolidsSpec : ChangeSpec := { name := "envelopeSolids", fn := fun _ => fun
  | [d1, d2, d3, d4, d5] => { results := [.lit (.bool true)], args := [d1, d2, d3, d4, d5] }
  | _ => none }
def envelopeSolidsRow : OpenClaim := { program := "ytccijnckfbanfaagreatdoor", sum := "53eaaed217d63b2e42af2d8e03073dd0a5b5ad4e00acd294e765214d7e1136b1", func := "greenbelt/greenbeltlaw24.EnvelopeSolids", spec := "envelopeSolids", unfollowed := true, recurses := true, named := ["greenbelt/plane.grid"], loops := true, apart := false, laid := [("greenbelt/plane.grid", laid_greenbelt_plane_grid)] }
def EnvelopeSolidsSaid : Prop := envelopeSolidsRow.holds Tryz.pinned (OpenSpec.ofChange envelopeSolidsSpec)

/-- ITS FALSE NEIGHBOUR: 'it returns false'. Refute it at one input. -/
def envelopeSolidsWrong : ChangeSpec := { name := "envelopeSolids", fn := fun _ => fun
  | [d1, d2, d3, d4, d5] => { results := [.lit (.bool false)], args := [d1, d2, d3, d4, d5] }
  | _ => none }
def EnvelopeSolidsWrongFalsely : Prop := envelopeSolidsRow.holds Tryz.pinned (OpenSpec.ofChange envelopeSolidsWrong)

/- THE SECOND FORM. 'bulk': how many values and letters a reading holds, each counted each time it is reached (what is shared counts as often as it is met; a slice's spare places count too). A statement '..UptoSaid' is the law's where the arguments, and the package variables that the reading takes, are together of bulk at most 1048576: NARROWER than '..Said'. Prove '..Said' where nothing that the law and all that it calls make is longer than what came in: it says more and counts as full. Else prove '..UptoSaid'. A law counts once. -/
mutual
def uptoBulk {H : Type} : DataW H → Nat
  | .lit (.string bytes) => bytes.length + 1
  | .lit _ => 1
  | .nil => 1
  | .ptr d => uptoBulk d + 1
  | .slice elems spare => uptoBulkAll elems + uptoBulkAll spare + 1
  | .agg parts => uptoBulkAll parts + 1
  | .iface _ d => uptoBulk d + 1
  | .map entries => uptoBulkEntries entries + 1
  | .held _ => 1
def uptoBulkAll {H : Type} : List (DataW H) → Nat
  | [] => 0
  | d :: r => uptoBulk d + uptoBulkAll r
def uptoBulkEntries {H : Type} : List (Lit × DataW H) → Nat
  | [] => 0
  | x :: r => uptoBulkEntry x + uptoBulkEntries r
def uptoBulkEntry {H : Type} : Lit × DataW H → Nat
  | (.string bytes, d) => bytes.length + uptoBulk d + 1
  | (_, d) => uptoBulk d + 1
 end
def uptoSmall : (H : Type) → List (DataW H) → Bool := fun _ ds => decide (uptoBulkAll ds ≤ 1048576)
def OpenSpec.upto (s : _root_.Go.ChangeSpec) : _root_.Go.OpenSpec := { _root_.Go.OpenSpec.ofChange s with cond := some uptoSmall }

/-- 'greenbeltlaw24.EnvelopeTells', WHERE WHAT IT READS IS OF BULK AT MOST 1048576: true; the input reads as it did. -/
def envelopeTellsUptoRow : OpenClaim := { program := "ytccijnckfbanfaagreatdoor", sum := "53eaaed217d63b2e42af2d8e03073dd0a5b5ad4e00acd294e765214d7e1136b1", func := "greenbelt/greenbeltlaw24.EnvelopeTells", spec := "envelopeTells", unfollowed := true, recurses := true, named := ["greenbelt/plane.grid"], loops := true, apart := false, laid := [("greenbelt/plane.grid", laid_greenbelt_plane_grid)], narrowed := true }
def EnvelopeTellsUptoSaid : Prop := envelopeTellsUptoRow.holds Tryz.pinned (OpenSpec.upto envelopeTellsSpec)

/-- 'greenbeltlaw24.EnvelopeDescends', WHERE WHAT IT READS IS OF BULK AT MOST 1048576: true; the input reads as it did. -/
def envelopeDescendsUptoRow : OpenClaim := { program := "ytccijnckfbanfaagreatdoor", sum := "53eaaed217d63b2e42af2d8e03073dd0a5b5ad4e00acd294e765214d7e1136b1", func := "greenbelt/greenbeltlaw24.EnvelopeDescends", spec := "envelopeDescends", unfollowed := true, recurses := true, named := ["greenbelt/plane.grid"], loops := true, apart := false, laid := [("greenbelt/plane.grid", laid_greenbelt_plane_grid)], narrowed := true }
def EnvelopeDescendsUptoSaid : Prop := envelopeDescendsUptoRow.holds Tryz.pinned (OpenSpec.upto envelopeDescendsSpec)

/-- 'greenbeltlaw24.EnvelopeSolids', WHERE WHAT IT READS IS OF BULK AT MOST 1048576: true; the input reads as it did. -/
def envelopeSolidsUptoRow : OpenClaim := { program := "ytccijnckfbanfaagreatdoor", sum := "53eaaed217d63b2e42af2d8e03073dd0a5b5ad4e00acd294e765214d7e1136b1", func := "greenbelt/greenbeltlaw24.EnvelopeSolids", spec := "envelopeSolids", unfollowed := true, recurses := true, named := ["greenbelt/plane.grid"], loops := true, apart := false, laid := [("greenbelt/plane.grid", laid_greenbelt_plane_grid)], narrowed := true }
def EnvelopeSolidsUptoSaid : Prop := envelopeSolidsUptoRow.holds Tryz.pinned (OpenSpec.upto envelopeSolidsSpec)

end Rows
end Go.Proofs.YtccijnckfbanfaaGreatDoor
