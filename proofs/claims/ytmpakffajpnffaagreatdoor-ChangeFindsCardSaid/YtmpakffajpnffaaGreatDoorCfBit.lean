import Derived.Test.YtmpakffajpnffaaGreatDoorCfPath
import Derived.Test.YtmpakffajpnffaaGreatDoorCfTrim
namespace Go.Proofs.YtmpakffajpnffaaGreatDoor
open Go.Tx
set_option linter.unusedVariables false
set_option linter.unusedSimpArgs false
theorem isB_bd {b : UInt8} (h : isB b = true) : 48 ≤ b.toNat ∧ b.toNat ≤ 49 := by
  unfold isB at h
  simp only [Bool.or_eq_true, beq_iff_eq] at h
  rcases h with rfl | rfl <;> decide
theorem pathBits_B (name : List UInt8) : ∀ b ∈ pathBits name, isB b = true := by
  intro b hb
  unfold pathBits at hb
  obtain ⟨n, hn, rfl⟩ := List.mem_map.1 hb
  have : n = 48 ∨ n = 49 := by
    simp only [List.mem_cons, List.not_mem_nil, or_false] at hn
    have key : ∀ k, pbit (markOf name) k = 48 ∨ pbit (markOf name) k = 49 := fun k => by unfold pbit; omega
    rcases hn with rfl | rfl | rfl | rfl | rfl | rfl | rfl | rfl | rfl | rfl | rfl | rfl | rfl | rfl | rfl | rfl <;> exact key _
  rcases this with rfl | rfl <;> decide
theorem pathOf_ok {a : List UInt8} (h : (pathOf a).2 = 0) : (pathOf a).1 = pathBits a := by
  unfold pathOf at h ⊢; split at h
  · cases h
  · rename_i h1; rw [if_neg h1]
theorem good2 {x y : Int} (h : ([x, y].any fun x0 => !decide (x0 = 0)) = false) : x = 0 ∧ y = 0 := by simpa using h
end Go.Proofs.YtmpakffajpnffaaGreatDoor
