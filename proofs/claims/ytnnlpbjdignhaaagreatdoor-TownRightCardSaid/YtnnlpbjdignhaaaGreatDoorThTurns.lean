import Derived.Test.YtnnlpbjdignhaaaGreatDoorThUnder
import Derived.Test.YtnnlpbjdignhaaaGreatDoorThBack
namespace Go.Proofs.YtnnlpbjdignhaaaGreatDoor
open Go.Tx
set_option linter.unusedVariables false
set_option linter.unusedSimpArgs false
theorem Jhc {l:List J0} {q:List UInt8} (h:(JO l q).2 = 0):Jda l ∧ q.length ≤ 16 ∧ (∀ b ∈ q,isB b = true) ∧ (JO l q).1 = Ja1 (Jai l q) q:=by
 unfold JO at h ⊢
 split at h
 ·
  contradiction
 rename_i h1
 split at h
 ·
  cases h
 rename_i h2
 rw [if_neg h1,if_neg h2]
 have h3:Jgp q = []:=Decidable.not_not.1 fun hc=>h2 (.inr hc)
 have h4:¬ (q.length:Int) > 16:=fun hc=>h2 (.inl hc)
 exact ⟨Ja5.1 (Decidable.not_not.1 h1),by omega,JkF.1 h3,rfl⟩
theorem Jjx {l:List J0} {q:List UInt8} (h1:Jda l) (h2:q.length ≤ 16) (h3:∀ b ∈ q,isB b = true):JO l q = (Ja1 (Jai l q) q,0):=by
 unfold JO
 rw [if_neg (fun hc=>hc (Ja5.2 h1)),if_neg]
 rintro (hc | hc)
 ·
  omega
 ·
  exact hc (JkF.2 h3)
end Go.Proofs.YtnnlpbjdignhaaaGreatDoor
