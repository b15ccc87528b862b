/- A part of the proof of MeaningEmpty. -/
import Derived.Test.YtgnjilecndiffaaGreatDoorP12
set_option linter.all false
set_option maxRecDepth 1000000
set_option maxHeartbeats 0
namespace Go.Sx.E1
variable [MaxL]
theorem st3:chkT (CC 7) 30000 60 7 9 ents=true:=by kernel_rfl
theorem st7:chkT (CC 19) 30000 60 19 28 ents=true:=by kernel_rfl
theorem st11:chkT (CC 67) 30000 60 67 70 ents=true:=by kernel_rfl
theorem st15:chkT (CC 75) 30000 60 75 77 ents=true:=by kernel_rfl
theorem st19:chkT (CC 87) 30000 60 87 89 ents=true:=by kernel_rfl
end Go.Sx.E1
