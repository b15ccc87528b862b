/- A part of the proof of MeaningEmpty. -/
import Derived.Test.YtgnjilecndiffaaGreatDoorP10
set_option linter.all false
set_option maxRecDepth 1000000
set_option maxHeartbeats 0
namespace Go.Sx
section
variable {P:Program} {T:Tab} {α:Type} {enc:α→List PV} {hp:List Ob}
theorem rule_load0s {G:Globs} {t:TypeId} {L:List α} (d:α) (hs:szOf T t=some 1) (hg:isAggB T t=some false) (hz:∀a,(enc a).length=1) (h1:(0:Int)<L.length):
  loadA T G t (.v (.one (.pref (L.flatMap enc) 0))) hp=some (.v (.one (.p (hd (enc (L.getD 0 d))))),hp):=by
 have:=loadA_S10 (G:=G) (hp:=hp) (L:=L) (k:=0) d hs hg hz (by omega) (by omega) (Nat.le_refl 1)
 simp_all
theorem rule_load1s {G:Globs} {t:TypeId} {L:List α} (d:α) (hs:szOf T t=some 1) (hg:isAggB T t=some false) (hz:∀a,(enc a).length=1) (h1:(1:Int)<L.length):
  loadA T G t (.v (.one (.pref (L.flatMap enc) 1))) hp=some (.v (.one (.p (hd (enc (L.getD 1 d))))),hp):=by
 have:=loadA_S10 (G:=G) (hp:=hp) (L:=L) (k:=1) d hs hg hz (by omega) (by omega) (Nat.le_refl 1)
 simp_all
end
end Go.Sx
