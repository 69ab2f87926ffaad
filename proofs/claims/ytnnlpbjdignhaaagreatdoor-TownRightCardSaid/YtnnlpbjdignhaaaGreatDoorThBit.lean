import Derived.Test.YtnnlpbjdignhaaaGreatDoorThPath
import Derived.Test.YtnnlpbjdignhaaaGreatDoorThTrim
namespace Go.Proofs.YtnnlpbjdignhaaaGreatDoor
open Go.Tx
set_option linter.unusedVariables false
set_option linter.unusedSimpArgs false
theorem isB_bd {b:UInt8} (h:isB b = true):48 ≤ b.toNat ∧ b.toNat ≤ 49:=by
 unfold isB at h
 simp only [Bool.or_eq_true,beq_iff_eq] at h
 rcases h with rfl | rfl <;> decide
theorem Jnd (name:List UInt8):∀ b ∈ JdY name,isB b = true:=by
 intro b hb
 unfold JdY at hb
 obtain ⟨n,hn,rfl⟩:=List.mem_map.1 hb
 have:n = 48 ∨ n = 49:=by
  simp only [List.mem_cons,List.not_mem_nil,or_false] at hn
  have key:∀ k,JA (Jf name) k = 48 ∨ JA (Jf name) k = 49:=fun k=>by unfold JA;omega
  rcases hn with rfl | rfl | rfl | rfl | rfl | rfl | rfl | rfl | rfl | rfl | rfl | rfl | rfl | rfl | rfl | rfl <;> exact key _
 rcases this with rfl | rfl <;> decide
theorem Jh4 {a:List UInt8} (h:(Jah a).2 = 0):(Jah a).1 = JdY a:=by
 unfold Jah at h ⊢;split at h
 ·
  cases h
 ·
  rename_i h1;rw [if_neg h1]
end Go.Proofs.YtnnlpbjdignhaaaGreatDoor
