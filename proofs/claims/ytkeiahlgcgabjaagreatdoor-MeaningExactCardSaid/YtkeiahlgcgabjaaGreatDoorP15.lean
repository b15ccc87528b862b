/- Part of MeaningExact. -/
import Derived.Test.YtkeiahlgcgabjaaGreatDoorP8
set_option linter.all false
set_option maxRecDepth 1000000
set_option maxHeartbeats 0
namespace Go.Sx
section
variable {P:lB} {T:aq} {α:Type} {enc:α->rK} {hp:ag}
def xC{G:az}{t:lA}{L:List α}(d:α)(A:a6 T t=some 1)(x:ej T t=some false)(hz:∀a,(enc a).length=1)(h:(0:Int)<L.length): a8 T G t (.v (.one (.aX (L.flatMap enc) 0))) hp=some (.v (.one (.p (hd (enc (L.getD 0 d))))),hp):=by have:=kR (G:=G) (hp:=hp) (L:=L) (k:=0) d A x hz w_ w_ (vA 1);exact kg
def Fu{G:az}{t:lA}{L:List α}(d:α)(A:a6 T t=some 1)(x:ej T t=some false)(hz:∀a,(enc a).length=1)(h:(1:Int)<L.length): a8 T G t (.v (.one (.aX (L.flatMap enc) 1))) hp=some (.v (.one (.p (hd (enc (L.getD 1 d))))),hp):=by have:=kR (G:=G) (hp:=hp) (L:=L) (k:=1) d A x hz w_ w_ (vA 1);exact kg
end
end Go.Sx
