/- A part of the proof of MeaningEmpty. -/
import Derived.Test.YtgnjilecndiffaaGreatDoorP12
set_option linter.all false
set_option maxRecDepth 1000000
set_option maxHeartbeats 0
namespace Go.Sx.E1
variable [MaxL]
theorem st2:chkT (CC 5) 30000 60 5 7 ents=true:=by kernel_rfl
theorem st6:chkT (CC 16) 30000 60 16 19 ents=true:=by kernel_rfl
theorem st10:chkT (CC 54) 30000 60 54 67 ents=true:=by kernel_rfl
theorem st14:chkT (CC 73) 30000 60 73 75 ents=true:=by kernel_rfl
theorem st18:chkT (CC 86) 30000 60 86 87 ents=true:=by kernel_rfl
end Go.Sx.E1
