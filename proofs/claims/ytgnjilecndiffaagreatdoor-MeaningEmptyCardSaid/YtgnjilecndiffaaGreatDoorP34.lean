/- A part of the proof of MeaningEmpty. -/
import Derived.Test.YtgnjilecndiffaaGreatDoorP30
import Derived.Test.YtgnjilecndiffaaGreatDoorP31
import Derived.Test.YtgnjilecndiffaaGreatDoorP32
import Derived.Test.YtgnjilecndiffaaGreatDoorP33
set_option linter.all false
set_option maxRecDepth 1000000
set_option maxHeartbeats 0
namespace Go.Sx.E1
open Go.Proofs
variable [MaxL]
theorem base (n:Nat):(CC n).Base prim:=⟨tok,wf,mix,funcOk,primOk,by intro _ _ _ _ _ h;cases h⟩
theorem entsOk:EntOk Tryz.prog GG ents 91:=EntOk.stage (C:=CC 89) (base 89) (EntOk.stage (C:=CC 87) (base 87) (EntOk.stage (C:=CC 86) (base 86) (EntOk.stage (C:=CC 82) (base 82) (EntOk.stage (C:=CC 77) (base 77) (EntOk.stage (C:=CC 75) (base 75) (EntOk.stage (C:=CC 73) (base 73) (EntOk.stage (C:=CC 71) (base 71) (EntOk.stage (C:=CC 70) (base 70) (EntOk.stage (C:=CC 67) (base 67) (EntOk.stage (C:=CC 54) (base 54) (EntOk.stage (C:=CC 41) (base 41) (EntOk.stage (C:=CC 28) (base 28) (EntOk.stage (C:=CC 19) (base 19) (EntOk.stage (C:=CC 16) (base 16) (EntOk.stage (C:=CC 12) (base 12) (EntOk.stage (C:=CC 9) (base 9) (EntOk.stage (C:=CC 7) (base 7) (EntOk.stage (C:=CC 5) (base 5) (EntOk.stage (C:=CC 3) (base 3) (EntOk.stage (C:=CC 0) (base 0) EntOk.zero rfl st0) rfl st1) rfl st2) rfl st3) rfl st4) rfl st5) rfl st6) rfl st7) rfl st8) rfl st9) rfl st10) rfl st11) rfl st12) rfl st13) rfl st14) rfl st15) rfl st16) rfl st17) rfl st18) rfl st19) rfl st20
theorem get4:ents.get 4=some [⟨90,[],o (b true)⟩]:=by kernel_rfl
theorem sanityC:ValC Tryz.prog GG 4 [] (·=o (b true)):=entsOk 4 _ get4 ⟨90,[],o (b true)⟩ (by simp) (by decide)
end Go.Sx.E1
