/- Part of MeaningExact. -/
import Derived.Test.YtkeiahlgcgabjaaGreatDoorP27
import Derived.Test.YtkeiahlgcgabjaaGreatDoorP28
import Derived.Test.YtkeiahlgcgabjaaGreatDoorP29
import Derived.Test.YtkeiahlgcgabjaaGreatDoorP30
set_option linter.all false
set_option maxRecDepth 1000000
set_option maxHeartbeats 0
namespace Go.Sx.E1
open Go.Proofs Go.Proofs.Tryz
variable [af]
def base(n:Nat):(CC n).gK prim:=⟨tok,wf,mix,funcOk,oJ,by intro _ _ _ _ _ h;cases h⟩
def P1:cJ prog GG aM 91:=cJ.el (C:=CC 89) (base 89) (cJ.el (C:=CC 87) (base 87) (cJ.el (C:=CC 86) (base 86) (cJ.el (C:=CC 82) (base 82) (cJ.el (C:=CC 77) (base 77) (cJ.el (C:=CC 75) (base 75) (cJ.el (C:=CC 73) (base 73) (cJ.el (C:=CC 71) (base 71) (cJ.el (C:=CC 70) (base 70) (cJ.el (C:=CC 67) (base 67) (cJ.el (C:=CC 54) (base 54) (cJ.el (C:=CC 41) (base 41) (cJ.el (C:=CC 28) (base 28) (cJ.el (C:=CC 19) (base 19) (cJ.el (C:=CC 16) (base 16) (cJ.el (C:=CC 12) (base 12) (cJ.el (C:=CC 9) (base 9) (cJ.el (C:=CC 7) (base 7) (cJ.el (C:=CC 5) (base 5) (cJ.el (C:=CC 3) (base 3) (cJ.el (C:=CC 0) (base 0) cJ.zero rfl ED) rfl b6) rfl bM) rfl nn) rfl Vd) rfl Vf) rfl Vh) rfl Vi) rfl Ve) rfl Vg) rfl Um) rfl Uq) rfl Uh) rfl Uk) rfl Un) rfl Ur) rfl Ui) rfl Ul) rfl Uo) rfl Us) rfl Uj
def Ut:aM.get 4=some [⟨90,[],o (b true)⟩]:=by kernel_rfl
def J9:aR prog GG 4 [] (·=o (b true)):=P1 4 _ Ut ⟨90,[],o (b true)⟩ s_ d_
end Go.Sx.E1
