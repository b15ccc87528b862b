/-
  DERIVED. GIVEN WITH THE SEED: THE CARDS: each row of YtgnjilecndiffaaGreatDoorRows.lean that lists a variable, with what it lists TIED to the program's text (the seventh form; the later family's looks); each row that meets fmt, with fmt's text TOLD by the authors' own Lean function (tested against real Go, not proved from fmt's source: count such statements apart). THE CARD IS WHAT COUNTS. Prove the row's statement (the work); the ties are given (YtgnjilecndiffaaGreatDoorTie.lean); close each card by the builder's one call (the guide's Derived/Test/ToyasCard.lean, 'card_holds'). Laid BY PROGRAM, IN A SANDBOX (cutbox-door.mjs). By AI agents, Wed Nov 11 2026. No macro, syntax, notation, axiom, sorry.
-/
import Derived.Test.YtgnjilecndiffaaGreatDoorRows
import GoSem.ClaimSeven
namespace Go.Proofs.YtgnjilecndiffaaGreatDoor
namespace Rows

/-- THE TIED CARD OF 'concordlaw12.MeaningEmpty'. -/
def meaningEmptyCard : Claim7 := { stood := { row := meaningEmptyRow, standIns := [], harness := (true, "9c76fc0c368da9fedd717ab545f69191ee448d28b41816b67d9fa52099209a92"), looks := true }, kinds := [], alts := [], laidByText := true, laidKinds := [.data, .data, .data, .data, .pinned, .data, .pinned, .sentinel, .sentinel, .data, .data], laidTests := true, laidLooks := .later }
def MeaningEmptyCardSaid : Prop := Claim7.holds Tryz.pinned (.plain (OpenSpec.ofChange meaningEmptySpec)) meaningEmptyCard

/-- THE SECOND FORM's CARD OF 'concordlaw12.MeaningEmpty'. -/
def meaningEmptyUptoCard : Claim7 := { stood := { row := meaningEmptyUptoRow, standIns := [], harness := (true, "9c76fc0c368da9fedd717ab545f69191ee448d28b41816b67d9fa52099209a92"), looks := true }, kinds := [], alts := [], laidByText := true, laidKinds := [.data, .data, .data, .data, .pinned, .data, .pinned, .sentinel, .sentinel, .data, .data], laidTests := true, laidLooks := .later }
def MeaningEmptyUptoCardSaid : Prop := Claim7.holds Tryz.pinned (.plain (OpenSpec.upto meaningEmptySpec)) meaningEmptyUptoCard
end Rows
end Go.Proofs.YtgnjilecndiffaaGreatDoor
