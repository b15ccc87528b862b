/- Part of MeaningExact. -/
import Derived.Test.YtkeiahlgcgabjaaGreatDoorP9
set_option linter.all false
set_option maxRecDepth 1000000
set_option maxHeartbeats 0
namespace Go.Sx.E1
variable [af]
def bM:ed (CC 5) 30000 60 5 7 aM=true:=by kernel_rfl
def Vh:ed (CC 16) 30000 60 16 19 aM=true:=by kernel_rfl
def Um:ed (CC 54) 30000 60 54 67 aM=true:=by kernel_rfl
def Un:ed (CC 73) 30000 60 73 75 aM=true:=by kernel_rfl
def Uo:ed (CC 86) 30000 60 86 87 aM=true:=by kernel_rfl
end Go.Sx.E1
