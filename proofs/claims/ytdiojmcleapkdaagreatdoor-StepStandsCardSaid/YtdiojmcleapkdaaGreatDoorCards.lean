/-
  DERIVED. GIVEN WITH THE SEED: THE CARDS: each row of YtdiojmcleapkdaaGreatDoorRows.lean that lists a variable, with what it lists TIED to the program's text (the seventh form; the later family's looks); each row that meets fmt, with fmt's text TOLD by the authors' own Lean function (tested against real Go, not proved from fmt's source: count such statements apart). THE CARD IS WHAT COUNTS. Prove the row's statement (the work); the ties are given (YtdiojmcleapkdaaGreatDoorTie.lean); close each card by the builder's one call (the guide's Derived/Test/ToyasCard.lean, 'card_holds'). Laid BY PROGRAM, IN A SANDBOX (cutbox-door.mjs). By AI agents, Wed Nov 11 2026. No macro, syntax, notation, axiom, sorry.
-/
import Derived.Test.YtdiojmcleapkdaaGreatDoorRows
import GoSem.ClaimSeven
namespace Go.Proofs.YtdiojmcleapkdaaGreatDoor
namespace Rows

/-- THE TIED CARD OF 'retrospectlaw33.StepStands'. -/
def stepStandsCard : Claim7 := { stood := { row := stepStandsRow, standIns := [], harness := (true, "8e5c29794b0d826652a93480c1935638aa834dee6d32f76b0bcb30db4330ff75"), looks := false }, kinds := [], alts := [], laidByText := true, laidKinds := [.data, .pinned], laidTests := true, laidLooks := .later }
def StepStandsCardSaid : Prop := Claim7.holds Tryz.pinned (.plain (OpenSpec.ofChange stepStandsSpec)) stepStandsCard

/-- THE SECOND FORM's CARD OF 'retrospectlaw33.StepStands'. -/
def stepStandsUptoCard : Claim7 := { stood := { row := stepStandsUptoRow, standIns := [], harness := (true, "8e5c29794b0d826652a93480c1935638aa834dee6d32f76b0bcb30db4330ff75"), looks := false }, kinds := [], alts := [], laidByText := true, laidKinds := [.data, .pinned], laidTests := true, laidLooks := .later }
def StepStandsUptoCardSaid : Prop := Claim7.holds Tryz.pinned (.plain (OpenSpec.upto stepStandsSpec)) stepStandsUptoCard
end Rows
end Go.Proofs.YtdiojmcleapkdaaGreatDoor
