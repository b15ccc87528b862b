/- Part of MeaningExact. -/
import Derived.Test.YtkeiahlgcgabjaaGreatDoorP9
set_option linter.all false
set_option maxRecDepth 1000000
set_option maxHeartbeats 0
namespace Go.Sx.E1
variable [af]
def ED:ed (CC 0) 30000 60 0 3 aM=true:=by kernel_rfl
def Vd:ed (CC 9) 30000 60 9 12 aM=true:=by kernel_rfl
def Ve:ed (CC 28) 30000 60 28 41 aM=true:=by kernel_rfl
def Uh:ed (CC 70) 30000 60 70 71 aM=true:=by kernel_rfl
def Ui:ed (CC 77) 30000 60 77 82 aM=true:=by kernel_rfl
def Uj:ed (CC 89) 30000 60 89 91 aM=true:=by kernel_rfl
end Go.Sx.E1
