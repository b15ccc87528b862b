/- Part of MeaningExact. -/
import Derived.Test.YtkeiahlgcgabjaaGreatDoorP26
import Derived.Test.YtkeiahlgcgabjaaGreatDoorP31
set_option linter.all false
set_option maxRecDepth 1000000
set_option maxHeartbeats 0
namespace Go.Sx.E1
open Go.Proofs Go.Proofs.Tryz
variable [af]
def law{L:eF}{x:PV}(M:aa aj L x)(B:(L.length:Int)<4611686018427387904)
  {A:Nat->Prop} {S:ay} {w:World} {vs:List Value} (C:al GG A S [] w) (u:aN A S w [o (.p x)] vs):
  Calls prog 3 vs.toArray w fun e w'=>e= .returned (.bool true)/\Same w w':=
 Ug J9 M B C u
end Go.Sx.E1
