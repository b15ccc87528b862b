/- Part of MeaningExact. -/
import Derived.Test.YtkeiahlgcgabjaaGreatDoorP9
set_option linter.all false
set_option maxRecDepth 1000000
set_option maxHeartbeats 0
namespace Go.Sx.E1
variable [af]
def b6:ed (CC 3) 30000 60 3 5 aM=true:=by kernel_rfl
def Vf:ed (CC 12) 30000 60 12 16 aM=true:=by kernel_rfl
def Vg:ed (CC 41) 30000 60 41 54 aM=true:=by kernel_rfl
def Uk:ed (CC 71) 30000 60 71 73 aM=true:=by kernel_rfl
def Ul:ed (CC 82) 30000 60 82 86 aM=true:=by kernel_rfl
end Go.Sx.E1
