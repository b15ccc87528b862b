/- Closed facts of the row of MeaningExact about the program. -/
import Derived.Test.YtkeiahlgcgabjaaGreatDoorCards
import Derived.ProofKit
import Derived.JoinedOf
set_option maxRecDepth 100000
set_option linter.all false
namespace Go.Proofs.YtkeiahlgcgabjaaGreatDoor
open Go
theorem j17:((Rows.meaningExactRow.wideKeys==(Tryz.f3.params.toList++Rows.meaningExactSpec.plain.varTypes Tryz.prog++Tryz.f3.resultTypes.toList).any (Tryz.prog.wideKeysFrom ·)))=true:=by kernel_rfl
theorem j18:(Rows.meaningExactSpec.vars.all (Tryz.prog.varReadable ·))=true:=by kernel_rfl
theorem j19:(Tryz.f3.resultTypes.all (fun t=>Tryz.prog.readableRec t && decide (t<Tryz.prog.types.size)))=true:=by kernel_rfl
theorem j20:((Rows.meaningExactRow.ifacesOut==Tryz.f3.resultTypes.toList.any (Tryz.prog.ifacesRec ·)))=true:=by kernel_rfl
theorem j21:((Rows.meaningExactRow.loopsOut==Tryz.f3.resultTypes.toList.any (Tryz.prog.loopsFrom ·)))=true:=by kernel_rfl
theorem j22:((Rows.meaningExactRow.plainKeys==Tryz.prog.plainKeys))=true:=by kernel_rfl
theorem j23:(Rows.meaningExactRow.shortTexts.isNone)=true:=by kernel_rfl
theorem j24:(Tryz.prog.stopsHeard)=true:=by kernel_rfl
theorem j25:(Tryz.prog.mayEnter)=true:=by kernel_rfl
theorem j26:((Rows.meaningExactRow.lifted==Tryz.prog.liftsFinal))=true:=by kernel_rfl
theorem j27:((Tryz.prog.make==some Rows.meaningExactRow.make))=true:=by kernel_rfl
theorem j28:((Rows.meaningExactRow.kinds==(if Rows.meaningExactRow.domain.isEmpty then [] else Tryz.f3.params.toList.map fun t=>match Tryz.prog.underlying t with | some (.int k)=>some k | _=>none)))=true:=by kernel_rfl
theorem j29:((Rows.meaningExactRow.pinned==Rows.meaningExactRow.pinnedBy))=true:=by kernel_rfl
theorem j30:((Rows.meaningExactRow.veiled==(Tryz.f3.params.toList++Rows.meaningExactSpec.plain.varTypes Tryz.prog++Tryz.f3.resultTypes.toList).any (Tryz.prog.veiledRec ·)))=true:=by kernel_rfl
theorem j31:(Rows.meaningExactRow.veiledFits Tryz.prog Tryz.f3.params.toList (Tryz.f3.params.toList++Rows.meaningExactSpec.plain.varTypes Tryz.prog++Tryz.f3.resultTypes.toList))=true:=by kernel_rfl
theorem cw:Rows.meaningExactRow.wfByText (OpenSpec.ofChange Rows.meaningExactSpec)=true:=by kernel_rfl
theorem cm:Tryz.pinned.checked.prog.mainIs=some (Rows.meaningExactCard.stood.harness.1,Rows.meaningExactCard.stood.harness.2.toList):=by kernel_rfl
end Go.Proofs.YtkeiahlgcgabjaaGreatDoor
