import Derived.Test.YtnnlpbjdignhaaaGreatDoorTcUnder
import Derived.Test.YtnnlpbjdignhaaaGreatDoorTcBack
namespace Go.Proofs.YtnnlpbjdignhaaaGreatDoor
open Go.Tx
set_option linter.unusedVariables false
set_option linter.unusedSimpArgs false
theorem Jc3 {l:List JV} {p q:List UInt8} (h:p <+: q):J0 (J0 l p) q=J0 l q:=by
 unfold J0
 rw [List.filter_filter]
 apply List.filter_congr
 intro x _
 unfold Jax
 rw [Bool.eq_iff_iff]
 simp only [Bool.not_not,Bool.and_eq_true,decide_eq_true_eq]
 exact ⟨fun h1=>h1.1,fun h1=>⟨h1,h.trans h1⟩⟩
theorem JbL {q:List UInt8}:KX [] q=Vc:=JaZ (.inl rfl)
theorem JbM {l:List JV} {q:List UInt8} (h:(JO l q).2=0):QP l∧q.length≤16∧(∀ b∈q,isB b=true)∧(JO l q).1=KX (J0 l q) q:=by
 unfold JO at h ⊢
 split at h
 ·
  contradiction
 rename_i h1
 split at h
 ·
  cases h
 rename_i h2
 rw [if_neg h1,if_neg h2]
 have h3:JaX q=[]:=Decidable.not_not.1 fun hc=>h2 (.inr hc)
 have h4:¬ (q.length:Int) > 16:=fun hc=>h2 (.inl hc)
 exact ⟨KJ.1 (Decidable.not_not.1 h1),by omega,Jfj.1 h3,rfl⟩
theorem YZ {l:List JV} {q:List UInt8} (h1:QP l) (h2:q.length≤16) (h3:∀ b∈q,isB b=true):JO l q=(KX (J0 l q) q,0):=by
 unfold JO
 rw [if_neg (fun hc=>hc (KJ.2 h1)),if_neg]
 rintro (hc | hc)
 ·
  omega
 ·
  exact hc (Jfj.2 h3)
theorem Jf4 {l:List JV} {q:List UInt8} (h:q.length<16):KX (J0 l q) q=if KX (J0 l (q++[48])) (q++[48])=Vc∧KX (J0 l (q++[49])) (q++[49])=Vc then Vc else Jf (Kx 2 (KX (J0 l (q++[48])) (q++[48])) (KX (J0 l (q++[49])) (q++[49]))):=by
 have e0:=Jc3 (l:=l) (p:=q) (q:=q++[48]) (List.prefix_append _ _)
 have e1:=Jc3 (l:=l) (p:=q) (q:=q++[49]) (List.prefix_append _ _)
 by_cases hn:J0 l q=[]
 ·
  have f0:J0 l (q++[48])=[]:=by rw [← e0,hn];rfl
  have f1:J0 l (q++[49])=[]:=by rw [← e1,hn];rfl
  rw [hn,f0,f1,JbL,JbL,JbL,if_pos ⟨rfl,rfl⟩]
 ·
  rw [Ja0 (by intro hc;exact hn (List.eq_nil_of_length_eq_zero (by omega))) h,e0,e1]
end Go.Proofs.YtnnlpbjdignhaaaGreatDoor
