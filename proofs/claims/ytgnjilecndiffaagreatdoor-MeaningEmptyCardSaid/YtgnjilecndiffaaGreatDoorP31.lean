/- A part of the proof of MeaningEmpty. -/
import Derived.Test.YtgnjilecndiffaaGreatDoorP12
set_option linter.all false
set_option maxRecDepth 1000000
set_option maxHeartbeats 0
namespace Go.Sx.E1
variable [MaxL]
theorem st1:chkT (CC 3) 30000 60 3 5 ents=true:=by kernel_rfl
theorem st5:chkT (CC 12) 30000 60 12 16 ents=true:=by kernel_rfl
theorem st9:chkT (CC 41) 30000 60 41 54 ents=true:=by kernel_rfl
theorem st13:chkT (CC 71) 30000 60 71 73 ents=true:=by kernel_rfl
theorem st17:chkT (CC 82) 30000 60 82 86 ents=true:=by kernel_rfl
end Go.Sx.E1
