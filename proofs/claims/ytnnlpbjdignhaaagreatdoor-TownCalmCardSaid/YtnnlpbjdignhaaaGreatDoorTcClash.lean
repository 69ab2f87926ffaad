import Derived.Test.YtnnlpbjdignhaaaGreatDoorTcLeaf
namespace Go.Proofs.YtnnlpbjdignhaaaGreatDoor
open Go.Tx
set_option linter.unusedVariables false
set_option linter.unusedSimpArgs false
def Jfk (a:List (List UInt8)):List UInt8:=a[a.length-1]?.getD []
theorem Jfl {a:List (List UInt8)} {k:Nat} {x:List UInt8} (hk:k=a.length-1) (h:a[k]? = some x):x=Jfk a:=by unfold Jfk;rw [← hk,h];rfl
end Go.Proofs.YtnnlpbjdignhaaaGreatDoor
