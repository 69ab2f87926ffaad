import Derived.Test.YtmpakffajpnffaaGreatDoorCfIns
namespace Go.Proofs.YtmpakffajpnffaaGreatDoor
open Go.Tx
set_option linter.unusedVariables false
set_option linter.unusedSimpArgs false
theorem TreeOk.pair {l : List EntD} (h : TreeOk l) : l.Pairwise fun x y => ordN x.name y.name < 0 := by
  rw [List.pairwise_iff_getElem]
  intro i j hi hj hij
  exact h.ord i j _ _ hij (List.getElem?_eq_getElem hi) (List.getElem?_eq_getElem hj)
theorem treeOk_sub {l m : List EntD} (h : TreeOk l) (hs : m.Sublist l) : TreeOk m := by
  have hp := h.pair.sublist hs
  rw [List.pairwise_iff_getElem] at hp
  refine ⟨by have := hs.length_le; have := h.len; omega, fun x hx => h.ok x (hs.subset hx), fun i j x y hij hx hy => ?_⟩
  obtain ⟨hi, rfl⟩ := List.getElem?_eq_some_iff.1 hx
  obtain ⟨hj, rfl⟩ := List.getElem?_eq_some_iff.1 hy
  exact hp i j hi hj hij
end Go.Proofs.YtmpakffajpnffaaGreatDoor
