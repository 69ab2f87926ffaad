import Derived.Test.YtmpakffajpnffaaGreatDoorCaHead
import Derived.Test.YtmpakffajpnffaaGreatDoorCaMark
import Derived.Test.YtmpakffajpnffaaGreatDoorCaQueue
namespace Go.Proofs.YtmpakffajpnffaaGreatDoor
open Go.Tx
set_option linter.unusedVariables false
set_option linter.unusedSimpArgs false
theorem wPut_len2 (l : List (List UInt8)) : (wPut l).1.length ≤ 600 := by
  unfold wPut
  split
  · simp
  · split
    · rename_i h
      have : ∀ (l : List (List UInt8)) (n : Nat), n ≤ 600 → putOk n l = true → n + (putT l).length ≤ 600 := by
        intro l
        induction l with
        | nil => intro n h _; simp [putT]; exact h
        | cons p l ih =>
          intro n _ h
          unfold putOk at h
          simp only [Bool.and_eq_true, decide_eq_true_eq] at h
          have := ih _ h.1 h.2
          have e : (putT (p :: l)).length = 2 + p.length + (putT l).length := by simp [putT, putC]; omega
          omega
      have := this l 0 (by omega) h
      simp only; omega
    · simp
end Go.Proofs.YtmpakffajpnffaaGreatDoor
