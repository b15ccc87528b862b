/- What the listed variables read as behind the program text that lays them. -/
import Derived.Test.YtkeiahlgcgabjaaGreatDoorTieA
set_option maxRecDepth 100000
namespace Go.Proofs.YtkeiahlgcgabjaaGreatDoor
open Go
theorem tr1 : ∀ os tape, (DataW.laidRun Tryz.prog (varsWorld Tryz.prog 400 (varsId Tryz.prog) os tape).memory 8 (laidL.map (·.1))).map (·.1) = some laidL := fun _ _ => by kernel_rfl
end Go.Proofs.YtkeiahlgcgabjaaGreatDoor
