/- A part of the proof of MeaningEmpty. -/
import Derived.Test.YtgnjilecndiffaaGreatDoorP12
set_option linter.all false
set_option maxRecDepth 1000000
set_option maxHeartbeats 0
namespace Go.Sx.E1
variable [MaxL]
theorem st0:chkT (CC 0) 30000 60 0 3 ents=true:=by kernel_rfl
theorem st4:chkT (CC 9) 30000 60 9 12 ents=true:=by kernel_rfl
theorem st8:chkT (CC 28) 30000 60 28 41 ents=true:=by kernel_rfl
theorem st12:chkT (CC 70) 30000 60 70 71 ents=true:=by kernel_rfl
theorem st16:chkT (CC 77) 30000 60 77 82 ents=true:=by kernel_rfl
theorem st20:chkT (CC 89) 30000 60 89 91 ents=true:=by kernel_rfl
end Go.Sx.E1
