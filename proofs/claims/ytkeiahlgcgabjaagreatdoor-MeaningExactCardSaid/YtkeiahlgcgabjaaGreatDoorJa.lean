/- Closed facts of the row of MeaningExact about the program. -/
import Derived.Test.YtkeiahlgcgabjaaGreatDoorCards
import Derived.ProofKit
import Derived.JoinedOf
set_option maxRecDepth 100000
set_option linter.all false
namespace Go.Proofs.YtkeiahlgcgabjaaGreatDoor
open Go
theorem j0:(Rows.meaningExactRow.wf (OpenSpec.ofChange Rows.meaningExactSpec))=true:=by kernel_rfl
theorem j1:(laidOutB Tryz.prog)=true:=by kernel_rfl
theorem j2:(mapsRowed Tryz.prog)=true:=by kernel_rfl
theorem j3:(Tryz.f3.params.all (Tryz.prog.readableRec ·))=true:=by kernel_rfl
theorem j4:(namedTie Tryz.prog Rows.meaningExactRow.named Rows.meaningExactSpec.vars)=true:=by kernel_rfl
theorem j5:((Rows.meaningExactRow.stops==[]))=true:=by kernel_rfl
theorem j6:((Tryz.prog.stops==[]))=true:=by kernel_rfl
theorem j7:((Rows.meaningExactRow.knobs==[]))=true:=by kernel_rfl
theorem j8:((Tryz.prog.stopKnobs==[]))=true:=by kernel_rfl
theorem j13:((Rows.meaningExactRow.maps==(Tryz.f3.params.toList++Rows.meaningExactSpec.plain.varTypes Tryz.prog).any (Tryz.prog.mapsRec ·)))=true:=by kernel_rfl
theorem j14:((Rows.meaningExactRow.ifaces==(Tryz.f3.params.toList++Rows.meaningExactSpec.plain.varTypes Tryz.prog).any (Tryz.prog.ifacesRec ·)))=true:=by kernel_rfl
theorem j15:((Rows.meaningExactRow.mapsOut==Tryz.prog.mapsAmong Tryz.f3.resultTypes.toList))=true:=by kernel_rfl
theorem j16:((Rows.meaningExactRow.loops==(Tryz.f3.params.toList++Rows.meaningExactSpec.plain.varTypes Tryz.prog).any (Tryz.prog.loopsFrom ·)))=true:=by kernel_rfl
end Go.Proofs.YtkeiahlgcgabjaaGreatDoor
