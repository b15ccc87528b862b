/- Part of MeaningExact. -/
import Derived.Test.YtkeiahlgcgabjaaGreatDoorP9
set_option linter.all false
set_option maxRecDepth 1000000
set_option maxHeartbeats 0
namespace Go.Sx.E1
variable [af]
def nn:ed (CC 7) 30000 60 7 9 aM=true:=by kernel_rfl
def Vi:ed (CC 19) 30000 60 19 28 aM=true:=by kernel_rfl
def Uq:ed (CC 67) 30000 60 67 70 aM=true:=by kernel_rfl
def Ur:ed (CC 75) 30000 60 75 77 aM=true:=by kernel_rfl
def Us:ed (CC 87) 30000 60 87 89 aM=true:=by kernel_rfl
end Go.Sx.E1
