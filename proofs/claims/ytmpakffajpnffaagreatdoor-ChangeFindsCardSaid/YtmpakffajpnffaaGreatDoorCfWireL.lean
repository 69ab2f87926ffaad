import Derived.Test.YtmpakffajpnffaaGreatDoorCfWire
import Derived.Test.YtmpakffajpnffaaGreatDoorCfStr
import Derived.Test.YtmpakffajpnffaaGreatDoorCfSl
namespace Go.Proofs.YtmpakffajpnffaaGreatDoor
open Go.Tx
set_option linter.unusedVariables false
set_option linter.unusedSimpArgs false
theorem putC_first (p r : List UInt8) (h : p.length ≤ 600) : wFirst0 (putC p ++ r) = (p, r, true) := by
  have e1 : (byteI (IntKind.u8.wrap ((p.length : Int).fdiv (2 ^ 8)))).toNat * 256 + (byteI (IntKind.u8.wrap (p.length : Int))).toNat = p.length := by
    have a := byteI_eq (u8w ((p.length : Int).fdiv (2 ^ 8)))
    have b := byteI_eq (u8w (p.length : Int))
    rw [wrap_u8] at a b
    rw [Int.fdiv_eq_ediv_of_nonneg _ (by decide)] at a
    rw [Int.fdiv_eq_ediv_of_nonneg _ (by decide), wrap_u8, wrap_u8]
    omega
  show wFirst0 (byteI _ :: byteI _ :: (p ++ r)) = _
  unfold wFirst0
  simp only
  rw [e1, if_pos (by simp)]
  simp
theorem putOk_iff : ∀ (l : List (List UInt8)) (n : Nat), n ≤ 600 → n + (putT l).length ≤ 600 → putOk n l = true
  | [], _, _, _ => rfl
  | p :: l, n, _, h => by
    have e : (putT (p :: l)).length = 2 + p.length + (putT l).length := by simp [putT, putC]; omega
    unfold putOk
    simp only [Bool.and_eq_true, decide_eq_true_eq]
    exact ⟨by omega, putOk_iff l _ (by omega) (by omega)⟩
theorem wPut_of {l : List (List UInt8)} (h : l.length ≤ 60) (h2 : (putT l).length ≤ 600) : wPut l = (putT l, 0) := by
  unfold wPut
  rw [if_neg (by omega), if_pos (putOk_iff l 0 (by omega) (by omega))]
end Go.Proofs.YtmpakffajpnffaaGreatDoor
