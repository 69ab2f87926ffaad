import Derived.Test.YtmpakffajpnffaaGreatDoorVbLeaf
namespace Go.Proofs.YtmpakffajpnffaaGreatDoor
open Go.Tx
set_option linter.unusedVariables false
set_option linter.unusedSimpArgs false
def lastT (a : List (List UInt8)) : List UInt8 := a[a.length - 1]?.getD []
theorem lastT_get {a : List (List UInt8)} {k : Nat} {x : List UInt8} (hk : k = a.length - 1) (h : a[k]? = some x) : x = lastT a := by unfold lastT; rw [← hk, h]; rfl
end Go.Proofs.YtmpakffajpnffaaGreatDoor
