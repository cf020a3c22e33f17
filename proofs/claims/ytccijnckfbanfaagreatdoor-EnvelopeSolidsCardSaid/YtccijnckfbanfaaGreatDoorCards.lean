/-
  DERIVED. GIVEN WITH THE SEED: THE CARDS: each row of YtccijnckfbanfaaGreatDoorRows.lean that lists a variable, with what it lists TIED to the program's text (the seventh form; the later family's looks); each row that meets fmt, with fmt's text TOLD by the authors' own Lean function (tested against real Go, not proved from fmt's source: count such statements apart). THE CARD IS WHAT COUNTS. Prove the row's statement (the work); the ties are given (YtccijnckfbanfaaGreatDoorTie.lean); close each card by the builder's one call (the guide's Derived/Test/ToyasCard.lean, 'card_holds'). Laid BY PROGRAM, IN A SANDBOX (cutbox-door.mjs). By AI agents, Wed Nov 11 2026. No macro, syntax, notation, axiom, sorry.
-/
import Derived.Test.YtccijnckfbanfaaGreatDoorRows
import GoSem.ClaimSeven
namespace Go.Proofs.YtccijnckfbanfaaGreatDoor
namespace Rows

/-- THE TIED CARD OF 'greenbeltlaw24.EnvelopeTells'. -/
def envelopeTellsCard : Claim7 := { stood := { row := envelopeTellsRow, standIns := [], harness := (true, "4b94dc192833aba8aa6d939ad3086e93a7bf701053db2ed280ff10d5a5c43e53"), looks := false }, kinds := [], alts := [], laidByText := true, laidKinds := [.data], laidTests := true, laidLooks := .later }
def EnvelopeTellsCardSaid : Prop := Claim7.holds Tryz.pinned (.plain (OpenSpec.ofChange envelopeTellsSpec)) envelopeTellsCard

/-- THE TIED CARD OF 'greenbeltlaw24.EnvelopeDescends'. -/
def envelopeDescendsCard : Claim7 := { stood := { row := envelopeDescendsRow, standIns := [], harness := (true, "4b94dc192833aba8aa6d939ad3086e93a7bf701053db2ed280ff10d5a5c43e53"), looks := false }, kinds := [], alts := [], laidByText := true, laidKinds := [.data], laidTests := true, laidLooks := .later }
def EnvelopeDescendsCardSaid : Prop := Claim7.holds Tryz.pinned (.plain (OpenSpec.ofChange envelopeDescendsSpec)) envelopeDescendsCard

/-- THE TIED CARD OF 'greenbeltlaw24.EnvelopeSolids'. -/
def envelopeSolidsCard : Claim7 := { stood := { row := envelopeSolidsRow, standIns := [], harness := (true, "4b94dc192833aba8aa6d939ad3086e93a7bf701053db2ed280ff10d5a5c43e53"), looks := false }, kinds := [], alts := [], laidByText := true, laidKinds := [.data], laidTests := true, laidLooks := .later }
def EnvelopeSolidsCardSaid : Prop := Claim7.holds Tryz.pinned (.plain (OpenSpec.ofChange envelopeSolidsSpec)) envelopeSolidsCard

/-- THE SECOND FORM's CARD OF 'greenbeltlaw24.EnvelopeTells'. -/
def envelopeTellsUptoCard : Claim7 := { stood := { row := envelopeTellsUptoRow, standIns := [], harness := (true, "4b94dc192833aba8aa6d939ad3086e93a7bf701053db2ed280ff10d5a5c43e53"), looks := false }, kinds := [], alts := [], laidByText := true, laidKinds := [.data], laidTests := true, laidLooks := .later }
def EnvelopeTellsUptoCardSaid : Prop := Claim7.holds Tryz.pinned (.plain (OpenSpec.upto envelopeTellsSpec)) envelopeTellsUptoCard

/-- THE SECOND FORM's CARD OF 'greenbeltlaw24.EnvelopeDescends'. -/
def envelopeDescendsUptoCard : Claim7 := { stood := { row := envelopeDescendsUptoRow, standIns := [], harness := (true, "4b94dc192833aba8aa6d939ad3086e93a7bf701053db2ed280ff10d5a5c43e53"), looks := false }, kinds := [], alts := [], laidByText := true, laidKinds := [.data], laidTests := true, laidLooks := .later }
def EnvelopeDescendsUptoCardSaid : Prop := Claim7.holds Tryz.pinned (.plain (OpenSpec.upto envelopeDescendsSpec)) envelopeDescendsUptoCard

/-- THE SECOND FORM's CARD OF 'greenbeltlaw24.EnvelopeSolids'. -/
def envelopeSolidsUptoCard : Claim7 := { stood := { row := envelopeSolidsUptoRow, standIns := [], harness := (true, "4b94dc192833aba8aa6d939ad3086e93a7bf701053db2ed280ff10d5a5c43e53"), looks := false }, kinds := [], alts := [], laidByText := true, laidKinds := [.data], laidTests := true, laidLooks := .later }
def EnvelopeSolidsUptoCardSaid : Prop := Claim7.holds Tryz.pinned (.plain (OpenSpec.upto envelopeSolidsSpec)) envelopeSolidsUptoCard
end Rows
end Go.Proofs.YtccijnckfbanfaaGreatDoor
