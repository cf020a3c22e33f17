/-
  DERIVED. GIVEN WITH THE SEED: THE CARDS: each row of YtlhamcjimbeggaaGreatDoorRows.lean that lists a variable, with what it lists TIED to the program's text (the seventh form; the later family's looks); each row that meets fmt, with fmt's text TOLD by the authors' own Lean function (tested against real Go, not proved from fmt's source: count such statements apart). THE CARD IS WHAT COUNTS. Prove the row's statement (the work); the ties are given (YtlhamcjimbeggaaGreatDoorTie.lean); close each card by the builder's one call (the guide's Derived/Test/ToyasCard.lean, 'card_holds'). Laid BY PROGRAM, IN A SANDBOX (cutbox-door.mjs). By AI agents, Wed Nov 11 2026. No macro, syntax, notation, axiom, sorry.
-/
import Derived.Test.YtlhamcjimbeggaaGreatDoorRows
import GoSem.ClaimSeven
namespace Go.Proofs.YtlhamcjimbeggaaGreatDoor
namespace Rows

/-- THE TIED CARD OF 'greenbeltlaw24.EnvelopeHolds'. -/
def envelopeHoldsCard : Claim7 := { stood := { row := envelopeHoldsRow, standIns := [], harness := (true, "4aaae5f1df6076a016f41477e64503a0c64492ecc50ed4e582bf426e0db9ebde"), looks := false }, kinds := [], alts := [], laidByText := true, laidKinds := [.data], laidTests := true, laidLooks := .later }
def EnvelopeHoldsCardSaid : Prop := Claim7.holds Tryz.pinned (.plain (OpenSpec.ofChange envelopeHoldsSpec)) envelopeHoldsCard

/-- THE SECOND FORM's CARD OF 'greenbeltlaw24.EnvelopeHolds'. -/
def envelopeHoldsUptoCard : Claim7 := { stood := { row := envelopeHoldsUptoRow, standIns := [], harness := (true, "4aaae5f1df6076a016f41477e64503a0c64492ecc50ed4e582bf426e0db9ebde"), looks := false }, kinds := [], alts := [], laidByText := true, laidKinds := [.data], laidTests := true, laidLooks := .later }
def EnvelopeHoldsUptoCardSaid : Prop := Claim7.holds Tryz.pinned (.plain (OpenSpec.upto envelopeHoldsSpec)) envelopeHoldsUptoCard
end Rows
end Go.Proofs.YtlhamcjimbeggaaGreatDoor
