import Derived.Test.YtpofnmobbbcpgaaGreatDoorZaIns
namespace Go.Proofs.YtpofnmobbbcpgaaGreatDoor
open Go.Tx
set_option linter.unusedVariables false
set_option linter.unusedSimpArgs false
theorem TreeOk.pair {l : List EntD} (h : TreeOk l) : l.Pairwise fun x y => ordN x.name y.name < 0 := by
  rw [List.pairwise_iff_getElem]
  intro i j hi hj hij
  exact h.ord i j _ _ hij (List.getElem?_eq_getElem hi) (List.getElem?_eq_getElem hj)
end Go.Proofs.YtpofnmobbbcpgaaGreatDoor
