/-
  DERIVED. GIVEN WITH THE SEED: THE CARDS: each row of YtplkangbgmlgdaaGreatDoorRows.lean that lists a variable, with what it lists TIED to the program's text (the seventh form; the later family's looks); each row that meets fmt, with fmt's text TOLD by the authors' own Lean function (tested against real Go, not proved from fmt's source: count such statements apart). THE CARD IS WHAT COUNTS. Prove the row's statement (the work); the ties are given (YtplkangbgmlgdaaGreatDoorTie.lean); close each card by the builder's one call (the guide's Derived/Test/ToyasCard.lean, 'card_holds'). Laid BY PROGRAM, IN A SANDBOX (cutbox-door.mjs). By AI agents, Wed Nov 11 2026. No macro, syntax, notation, axiom, sorry.
-/
import Derived.Test.YtplkangbgmlgdaaGreatDoorRows
import GoSem.ClaimSeven
namespace Go.Proofs.YtplkangbgmlgdaaGreatDoor
namespace Rows

/-- THE TIED CARD OF 'greenbeltlaw24.EnvelopeTells'. -/
def envelopeTellsCard : Claim7 := { stood := { row := envelopeTellsRow, standIns := [], harness := (true, "cdc333ed4ee30681512bf9bcf3646bd11079d668ab0dc599c50707cb4d9d1f11"), looks := false }, kinds := [], alts := [], laidByText := true, laidKinds := [.data], laidTests := true, laidLooks := .later }
def EnvelopeTellsCardSaid : Prop := Claim7.holds Tryz.pinned (.plain (OpenSpec.ofChange envelopeTellsSpec)) envelopeTellsCard

/-- THE SECOND FORM's CARD OF 'greenbeltlaw24.EnvelopeTells'. -/
def envelopeTellsUptoCard : Claim7 := { stood := { row := envelopeTellsUptoRow, standIns := [], harness := (true, "cdc333ed4ee30681512bf9bcf3646bd11079d668ab0dc599c50707cb4d9d1f11"), looks := false }, kinds := [], alts := [], laidByText := true, laidKinds := [.data], laidTests := true, laidLooks := .later }
def EnvelopeTellsUptoCardSaid : Prop := Claim7.holds Tryz.pinned (.plain (OpenSpec.upto envelopeTellsSpec)) envelopeTellsUptoCard
end Rows
end Go.Proofs.YtplkangbgmlgdaaGreatDoor
