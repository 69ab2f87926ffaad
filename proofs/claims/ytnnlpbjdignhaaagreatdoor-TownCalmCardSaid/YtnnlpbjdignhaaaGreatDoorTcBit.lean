import Derived.Test.YtnnlpbjdignhaaaGreatDoorTcPath
import Derived.Test.YtnnlpbjdignhaaaGreatDoorTcTrim
namespace Go.Proofs.YtnnlpbjdignhaaaGreatDoor
open Go.Tx
set_option linter.unusedVariables false
set_option linter.unusedSimpArgs false
theorem isB_bd {b:UInt8} (h:isB b=true):48≤b.toNat∧b.toNat≤49:=by
 unfold isB at h
 simp only [Bool.or_eq_true,beq_iff_eq] at h
 rcases h with rfl | rfl <;> decide
theorem JbJ (name:List UInt8):∀ b∈Z5 name,isB b=true:=by
 intro b hb
 unfold Z5 at hb
 obtain ⟨n,hn,rfl⟩:=List.mem_map.1 hb
 have:n=48∨n=49:=by
  simp only [List.mem_cons,List.not_mem_nil,or_false] at hn
  have key:∀ k,JA (Jf name) k=48∨JA (Jf name) k=49:=fun k=>by unfold JA;omega
  rcases hn with rfl | rfl | rfl | rfl | rfl | rfl | rfl | rfl | rfl | rfl | rfl | rfl | rfl | rfl | rfl | rfl <;> exact key _
 rcases this with rfl | rfl <;> decide
theorem Jcz {a:List UInt8} (h:(Ke a).2=0):(Ke a).1=Z5 a:=by
 unfold Ke at h ⊢;split at h
 ·
  cases h
 ·
  rename_i h1;rw [if_neg h1]
end Go.Proofs.YtnnlpbjdignhaaaGreatDoor
