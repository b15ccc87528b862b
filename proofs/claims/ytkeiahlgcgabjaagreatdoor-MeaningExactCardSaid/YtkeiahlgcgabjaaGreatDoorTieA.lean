/- The ties of the row of MeaningExact to the text of the program, each closed fact by itself. -/
import Derived.Test.YtkeiahlgcgabjaaGreatDoorRows
import Derived.LaidByTextLater
import Derived.SevenTiedAt
set_option maxRecDepth 100000
namespace Go.Proofs.YtkeiahlgcgabjaaGreatDoor
open Go
noncomputable def laidL : List (String × DataW Unit) := Rows.meaningExactRow.laid.take 4 ++ (Rows.meaningExactRow.laid.drop 5).take 1 ++ Rows.meaningExactRow.laid.drop 7
def kindsL : List LaidKind := [.data, .data, .data, .data, .data, .sentinel, .sentinel, .data, .data]
noncomputable def nm (k : Nat) : String := (Rows.meaningExactRow.laid.map (·.1)).getD k ""
theorem tw1 : Tryz.prog.worded (varsWordLater true) = true := by kernel_rfl
theorem tw2 : Tryz.prog.worded (varsWordLater !true) = false := by kernel_rfl
theorem tw3 : Tryz.prog.worded rootWordLater = true := by kernel_rfl
theorem tk : laidL.map (fun x => Tryz.prog.kindOfLater x.1) = kindsL.map some := by kernel_rfl
theorem tg : (Tryz.prog.funcNamed "gosem.cut.vars").isSome = true := by kernel_rfl
theorem tn : varsNamedLaterB Tryz.prog (varsId Tryz.prog) laidL = true := by kernel_rfl
theorem td : ∀ os tape, varsDone Tryz.prog 400 (varsId Tryz.prog) os tape = true := fun _ _ => by kernel_rfl
end Go.Proofs.YtkeiahlgcgabjaaGreatDoor
