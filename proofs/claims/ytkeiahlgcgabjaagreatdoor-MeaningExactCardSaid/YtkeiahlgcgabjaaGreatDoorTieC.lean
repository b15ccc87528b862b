/- The tie of the row of MeaningExact. -/
import Derived.Test.YtkeiahlgcgabjaaGreatDoorTieB
set_option maxRecDepth 100000
namespace Go.Proofs.YtkeiahlgcgabjaaGreatDoor
open Go
theorem tr2 : ∀ os tape, (DataW.laidRun Tryz.prog (varsWorld Tryz.prog 400 (varsId Tryz.prog) os tape).memory 8 (laidL.map (·.1))).map (fun x => decide x.2.Nodup && laidRowsB Tryz.prog (varsWorld Tryz.prog 400 (varsId Tryz.prog) os tape).memory x.2) = some true := fun _ _ => by kernel_rfl
theorem pin4 : Tryz.pinned.checked.prog.pinnedFits (nm 4) = true := by kernel_rfl
theorem pin6 : Tryz.pinned.checked.prog.pinnedFits (nm 6) = true := by kernel_rfl
theorem noOwn : Tryz.pinned.checked.prog.headLifts.contains "ownunsafe" = false := by kernel_rfl
theorem fits1 : Tryz.pinned.checked.prog.listedFits Rows.meaningExactRow.laid = true := by
  unfold Program.listedFits
  rw [noOwn]
  kernel_rfl
theorem tie : Tryz.prog.laidByTextLater laidL kindsL true :=
  Program.laidByTextLater_by_run 400 8 tw1 tw2 tw3 tk tg tn td tr1 tr2
theorem row_tie : Rows.meaningExactRow.laidByTextAt .later Tryz.pinned [.data, .data, .data, .data, .pinned, .data, .pinned, .sentinel, .sentinel, .data, .data] true :=
  OpenClaim.laidByTextAt_pinned rfl rfl tie rfl rfl rfl rfl (fun y hy e => by
    simp only [Rows.meaningExactRow, List.zip_cons_cons, List.zip_nil_right, List.mem_cons, List.mem_nil_iff, or_false] at hy
    rcases hy with rfl | rfl | rfl | rfl | rfl | rfl | rfl | rfl | rfl | rfl | rfl
    · cases e
    · cases e
    · cases e
    · cases e
    · exact ⟨pin4, by kernel_rfl⟩
    · cases e
    · exact ⟨pin6, by kernel_rfl⟩
    · cases e
    · cases e
    · cases e
    · cases e) fits1
end Go.Proofs.YtkeiahlgcgabjaaGreatDoor
