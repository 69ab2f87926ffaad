import Derived.Test.YtnnlpbjdignhaaaGreatDoorTgLeaf
namespace Go.Proofs.YtnnlpbjdignhaaaGreatDoor
open Go.Tx
set_option linter.unusedVariables false
set_option linter.unusedSimpArgs false
def Jfs (a:List (List UInt8)):List UInt8:=a[a.length-1]?.getD []
theorem Jft {a:List (List UInt8)} {k:Nat} {x:List UInt8} (hk:k=a.length-1) (h:a[k]? = some x):x=Jfs a:=by unfold Jfs;rw [← hk,h];rfl
end Go.Proofs.YtnnlpbjdignhaaaGreatDoor
