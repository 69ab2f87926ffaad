import Derived.Test.YtnnlpbjdignhaaaGreatDoorTfUnder
import Derived.Test.YtnnlpbjdignhaaaGreatDoorTfBack
namespace Go.Proofs.YtnnlpbjdignhaaaGreatDoor
open Go.Tx
set_option linter.unusedVariables false
set_option linter.unusedSimpArgs false
theorem Jbk {l:List J1} {q:List UInt8} (h:(JQ l q).2=0):W9 l∧q.length≤16∧(∀ b∈q,isB b=true)∧(JQ l q).1=K3 (Kg l q) q:=by
 unfold JQ at h ⊢
 split at h
 ·
  contradiction
 rename_i h1
 split at h
 ·
  cases h
 rename_i h2
 rw [if_neg h1,if_neg h2]
 have h3:Jax q=[]:=Decidable.not_not.1 fun hc=>h2 (.inr hc)
 have h4:¬ (q.length:Int) > 16:=fun hc=>h2 (.inl hc)
 exact ⟨K7.1 (Decidable.not_not.1 h1),by omega,JeN.1 h3,rfl⟩
theorem JdD {l:List J1} {q:List UInt8} (h1:W9 l) (h2:q.length≤16) (h3:∀ b∈q,isB b=true):JQ l q=(K3 (Kg l q) q,0):=by
 unfold JQ
 rw [if_neg (fun hc=>hc (K7.2 h1)),if_neg]
 rintro (hc | hc)
 ·
  omega
 ·
  exact hc (JeN.2 h3)
end Go.Proofs.YtnnlpbjdignhaaaGreatDoor
