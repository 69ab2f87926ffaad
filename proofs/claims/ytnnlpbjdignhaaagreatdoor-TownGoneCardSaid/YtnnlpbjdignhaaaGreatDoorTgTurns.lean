import Derived.Test.YtnnlpbjdignhaaaGreatDoorTgUnder
import Derived.Test.YtnnlpbjdignhaaaGreatDoorTgBack
namespace Go.Proofs.YtnnlpbjdignhaaaGreatDoor
open Go.Tx
set_option linter.unusedVariables false
set_option linter.unusedSimpArgs false
theorem Jdc {l:List JW} {p q:List UInt8} (h:p <+: q):J0 (J0 l p) q=J0 l q:=by
 unfold J0
 rw [List.filter_filter]
 apply List.filter_congr
 intro x _
 unfold JaF
 rw [Bool.eq_iff_iff]
 simp only [Bool.not_not,Bool.and_eq_true,decide_eq_true_eq]
 exact ⟨fun h1=>h1.1,fun h1=>⟨h1,h.trans h1⟩⟩
theorem JbR {q:List UInt8}:KY [] q=Vg:=Ja6 (.inl rfl)
theorem JbS {l:List JW} {q:List UInt8} (h:(JP l q).2=0):QR l∧q.length≤16∧(∀ b∈q,isB b=true)∧(JP l q).1=KY (J0 l q) q:=by
 unfold JP at h ⊢
 split at h
 ·
  contradiction
 rename_i h1
 split at h
 ·
  cases h
 rename_i h2
 rw [if_neg h1,if_neg h2]
 have h3:Ja4 q=[]:=Decidable.not_not.1 fun hc=>h2 (.inr hc)
 have h4:¬ (q.length:Int) > 16:=fun hc=>h2 (.inl hc)
 exact ⟨KI.1 (Decidable.not_not.1 h1),by omega,Jfr.1 h3,rfl⟩
theorem Y5 {l:List JW} {q:List UInt8} (h1:QR l) (h2:q.length≤16) (h3:∀ b∈q,isB b=true):JP l q=(KY (J0 l q) q,0):=by
 unfold JP
 rw [if_neg (fun hc=>hc (KI.2 h1)),if_neg]
 rintro (hc | hc)
 ·
  omega
 ·
  exact hc (Jfr.2 h3)
theorem Jgd {l:List JW} {q:List UInt8} (h:q.length<16):KY (J0 l q) q=if KY (J0 l (q++[48])) (q++[48])=Vg∧KY (J0 l (q++[49])) (q++[49])=Vg then Vg else Jf (Kx 2 (KY (J0 l (q++[48])) (q++[48])) (KY (J0 l (q++[49])) (q++[49]))):=by
 have e0:=Jdc (l:=l) (p:=q) (q:=q++[48]) (List.prefix_append _ _)
 have e1:=Jdc (l:=l) (p:=q) (q:=q++[49]) (List.prefix_append _ _)
 by_cases hn:J0 l q=[]
 ·
  have f0:J0 l (q++[48])=[]:=by rw [← e0,hn];rfl
  have f1:J0 l (q++[49])=[]:=by rw [← e1,hn];rfl
  rw [hn,f0,f1,JbR,JbR,JbR,if_pos ⟨rfl,rfl⟩]
 ·
  rw [Ja7 (by intro hc;exact hn (List.eq_nil_of_length_eq_zero (by omega))) h,e0,e1]
end Go.Proofs.YtnnlpbjdignhaaaGreatDoor
