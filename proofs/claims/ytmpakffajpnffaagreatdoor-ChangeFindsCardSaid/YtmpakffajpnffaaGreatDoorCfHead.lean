import Derived.Test.YtmpakffajpnffaaGreatDoorCfWire
namespace Go.Proofs.YtmpakffajpnffaaGreatDoor
open Go.Tx
set_option linter.unusedVariables false
set_option linter.unusedSimpArgs false
def headZ : HeadD := ⟨0, 0, 0, 0⟩
def headCheck (h : HeadD) : Int :=
  if h.epoch < 0 ∨ 1000000 < h.epoch ∨ 2305843009213693951 ≤ h.root ∨ 2305843009213693951 ≤ h.prev ∨ h.at_ < 0 ∨ 1000000000 < h.at_ then 4 else if h.epoch = 0 ∧ h.prev ≠ 0 then 3 else 0
theorem headCheck_ok {h : HeadD} (e : headCheck h = 0) : 0 ≤ h.epoch ∧ h.epoch ≤ 1000000 ∧ h.root < 2305843009213693951 ∧ h.prev < 2305843009213693951 ∧ 0 ≤ h.at_ ∧ h.at_ ≤ 1000000000 ∧ (h.epoch = 0 → h.prev = 0) := by
  unfold headCheck at e; split at e
  · cases e
  split at e
  · cases e
  omega
def headText (h : HeadD) : List UInt8 := ((([3] ++ numB (IntKind.u64.wrap h.epoch)) ++ numB h.root) ++ numB h.prev) ++ numB (IntKind.u64.wrap h.at_)
def headSaid (h : HeadD) : List UInt8 × Int := if headCheck h ≠ 0 then ([], headCheck h) else (headText h, 0)
theorem byte_eq {x y : UInt8} : ((x.toNat : Int) = (y.toNat : Int)) ↔ x = y := ⟨fun h => UInt8.toNat.inj (by omega), fun h => by rw [h]⟩
end Go.Proofs.YtmpakffajpnffaaGreatDoor
