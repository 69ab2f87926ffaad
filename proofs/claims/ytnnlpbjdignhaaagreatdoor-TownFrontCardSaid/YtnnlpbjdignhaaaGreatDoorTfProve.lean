import Derived.Test.YtnnlpbjdignhaaaGreatDoorTfMake
import Derived.Test.YtnnlpbjdignhaaaGreatDoorTfSee
import Derived.Test.YtnnlpbjdignhaaaGreatDoorTfWireL
namespace Go.Proofs.YtnnlpbjdignhaaaGreatDoor
open Go.Tx
set_option linter.unusedVariables false
set_option linter.unusedSimpArgs false
theorem JkG {n v:List UInt8} (h:Kz n v=0):n.length≤12∧v.length≤20∧KD n=true:=by
 unfold Kz at h
 split at h
 ·
  cases h
 rename_i h1
 split at h
 ·
  cases h
 have h2:KD n=true:=by simpa using h1
 have:=(Jfe.1 h2).2.1
 exact ⟨this,by omega,h2⟩
theorem JcE (l:List J1) (q:List UInt8):0≤K3 l q∧K3 l q<2305843009213693951:=by
 unfold K3
 generalize 16-q.length=n
 cases n with
 | zero=>exact Qp _
 | succ n =>
  rw [atG]
  split
  ·
   exact Qp _
  split
  ·
   exact Qp _
  ·
   exact Qp _
end Go.Proofs.YtnnlpbjdignhaaaGreatDoor
