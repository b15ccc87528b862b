/- Closed facts of the row of MeaningEmpty about the program. -/
import Derived.Test.YtgnjilecndiffaaGreatDoorCards
import Derived.ProofKit
import Derived.JoinedOf
set_option maxRecDepth 100000
set_option linter.all false
namespace Go.Proofs.YtgnjilecndiffaaGreatDoor
open Go
theorem j17:((Rows.meaningEmptyRow.wideKeys==(Tryz.f3.params.toList++Rows.meaningEmptySpec.plain.varTypes Tryz.prog++Tryz.f3.resultTypes.toList).any (Tryz.prog.wideKeysFrom ·)))=true:=by kernel_rfl
theorem j18:(Rows.meaningEmptySpec.vars.all (Tryz.prog.varReadable ·))=true:=by kernel_rfl
theorem j19:(Tryz.f3.resultTypes.all (fun t=>Tryz.prog.readableRec t && decide (t<Tryz.prog.types.size)))=true:=by kernel_rfl
theorem j20:((Rows.meaningEmptyRow.ifacesOut==Tryz.f3.resultTypes.toList.any (Tryz.prog.ifacesRec ·)))=true:=by kernel_rfl
theorem j21:((Rows.meaningEmptyRow.loopsOut==Tryz.f3.resultTypes.toList.any (Tryz.prog.loopsFrom ·)))=true:=by kernel_rfl
theorem j22:((Rows.meaningEmptyRow.plainKeys==Tryz.prog.plainKeys))=true:=by kernel_rfl
theorem j23:(Rows.meaningEmptyRow.shortTexts.isNone)=true:=by kernel_rfl
theorem j24:(Tryz.prog.stopsHeard)=true:=by kernel_rfl
theorem j25:(Tryz.prog.mayEnter)=true:=by kernel_rfl
theorem j26:((Rows.meaningEmptyRow.lifted==Tryz.prog.liftsFinal))=true:=by kernel_rfl
theorem j27:((Tryz.prog.make==some Rows.meaningEmptyRow.make))=true:=by kernel_rfl
theorem j28:((Rows.meaningEmptyRow.kinds==(if Rows.meaningEmptyRow.domain.isEmpty then [] else Tryz.f3.params.toList.map fun t=>match Tryz.prog.underlying t with | some (.int k)=>some k | _=>none)))=true:=by kernel_rfl
theorem j29:((Rows.meaningEmptyRow.pinned==Rows.meaningEmptyRow.pinnedBy))=true:=by kernel_rfl
theorem j30:((Rows.meaningEmptyRow.veiled==(Tryz.f3.params.toList++Rows.meaningEmptySpec.plain.varTypes Tryz.prog++Tryz.f3.resultTypes.toList).any (Tryz.prog.veiledRec ·)))=true:=by kernel_rfl
theorem j31:(Rows.meaningEmptyRow.veiledFits Tryz.prog Tryz.f3.params.toList (Tryz.f3.params.toList++Rows.meaningEmptySpec.plain.varTypes Tryz.prog++Tryz.f3.resultTypes.toList))=true:=by kernel_rfl
theorem cw:Rows.meaningEmptyRow.wfByText (OpenSpec.ofChange Rows.meaningEmptySpec)=true:=by kernel_rfl
theorem cm:Tryz.pinned.checked.prog.mainIs=some (Rows.meaningEmptyCard.stood.harness.1,Rows.meaningEmptyCard.stood.harness.2.toList):=by kernel_rfl
end Go.Proofs.YtgnjilecndiffaaGreatDoor
