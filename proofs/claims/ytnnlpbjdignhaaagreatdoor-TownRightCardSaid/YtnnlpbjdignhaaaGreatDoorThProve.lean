import Derived.Test.YtnnlpbjdignhaaaGreatDoorThMake
import Derived.Test.YtnnlpbjdignhaaaGreatDoorThSee
import Derived.Test.YtnnlpbjdignhaaaGreatDoorThWireL
namespace Go.Proofs.YtnnlpbjdignhaaaGreatDoor
open Go.Tx
set_option linter.unusedVariables false
set_option linter.unusedSimpArgs false
theorem Jqw {n v:List UInt8} (h:Jax n v = 0):n.length ≤ 12 ∧ v.length ≤ 20 ∧ JaC n = true:=by
 unfold Jax at h
 split at h
 ·
  cases h
 rename_i h1
 split at h
 ·
  cases h
 have h2:JaC n = true:=by simpa using h1
 have:=(Jk6.1 h2).2.1
 exact ⟨this,by omega,h2⟩
theorem Jix (l:List J0) (q:List UInt8):0 ≤ Ja1 l q ∧ Ja1 l q < 2305843009213693951:=by
 unfold Ja1
 generalize 16 - q.length = n
 cases n with
 | zero=>exact Jbn _
 | succ n =>
  rw [atG]
  split
  ·
   exact Jbn _
  split
  ·
   exact Jbn _
  ·
   exact Jbn _
end Go.Proofs.YtnnlpbjdignhaaaGreatDoor
