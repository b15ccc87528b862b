/-
  DERIVED. GIVEN WITH THE SEED: THE CARDS: each row of YtkeiahlgcgabjaaGreatDoorRows.lean that lists a variable, with what it lists TIED to the program's text (the seventh form; the later family's looks); each row that meets fmt, with fmt's text TOLD by the authors' own Lean function (tested against real Go, not proved from fmt's source: count such statements apart). THE CARD IS WHAT COUNTS. Prove the row's statement (the work); the ties are given (YtkeiahlgcgabjaaGreatDoorTie.lean); close each card by the builder's one call (the guide's Derived/Test/ToyasCard.lean, 'card_holds'). Laid BY PROGRAM, IN A SANDBOX (cutbox-door.mjs). By AI agents, Wed Nov 11 2026. No macro, syntax, notation, axiom, sorry.
-/
import Derived.Test.YtkeiahlgcgabjaaGreatDoorRows
import GoSem.ClaimSeven
namespace Go.Proofs.YtkeiahlgcgabjaaGreatDoor
namespace Rows

/-- THE TIED CARD OF 'concordlaw12.MeaningExact'. -/
def meaningExactCard : Claim7 := { stood := { row := meaningExactRow, standIns := [], harness := (true, "6f81cfc44ed8909dd79861e5befda25833527e016ecd228219d6e6a8973f0880"), looks := true }, kinds := [], alts := [], laidByText := true, laidKinds := [.data, .data, .data, .data, .pinned, .data, .pinned, .sentinel, .sentinel, .data, .data], laidTests := true, laidLooks := .later }
def MeaningExactCardSaid : Prop := Claim7.holds Tryz.pinned (.plain (OpenSpec.ofChange meaningExactSpec)) meaningExactCard

/-- THE SECOND FORM's CARD OF 'concordlaw12.MeaningExact'. -/
def meaningExactUptoCard : Claim7 := { stood := { row := meaningExactUptoRow, standIns := [], harness := (true, "6f81cfc44ed8909dd79861e5befda25833527e016ecd228219d6e6a8973f0880"), looks := true }, kinds := [], alts := [], laidByText := true, laidKinds := [.data, .data, .data, .data, .pinned, .data, .pinned, .sentinel, .sentinel, .data, .data], laidTests := true, laidLooks := .later }
def MeaningExactUptoCardSaid : Prop := Claim7.holds Tryz.pinned (.plain (OpenSpec.upto meaningExactSpec)) meaningExactUptoCard
end Rows
end Go.Proofs.YtkeiahlgcgabjaaGreatDoor
