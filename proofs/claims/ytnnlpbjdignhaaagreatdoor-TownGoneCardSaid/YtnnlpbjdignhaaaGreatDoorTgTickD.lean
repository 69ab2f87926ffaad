import Derived.Test.YtnnlpbjdignhaaaGreatDoorTgTick
namespace Go.Proofs.YtnnlpbjdignhaaaGreatDoor
open Go.Tx
set_option linter.unusedVariables false
set_option linter.unusedSimpArgs false
open Go.Tx Go.Proofs
theorem JlM {a:WU} {l:List WU} {b:List JW} (h:QR b) (hr:∀ x∈a::l,Kr x=0) (hn:nn (KL b++Qj (a::l))≤24) :
  (KM b a.name a.value).2=0∧QR (KM b a.name a.value).1∧(∀ x∈l,Kr x=0)∧nn (KL (KM b a.name a.value).1++Qj l)≤24:=by
 have ha:=Jfv (hr a (by simp))
 have hf:a.name∈KL b∨b.length<24:=by
  by_cases e:a.name∈KL b
  ·
   exact .inl e
  ·
   right
   have h1:(a.name::KL b).Nodup:=List.nodup_cons.2 ⟨e,Jdd h⟩
   have h2:=Jhr h1
   have h3:nn (a.name::KL b)≤nn (KL b++Qj (a::l)):=V5 fun x hx=>by
    rcases List.mem_cons.1 hx with rfl | hx
    ·
     exact List.mem_append.2 (.inr (Ww.2 ⟨a,by simp,rfl⟩))
    ·
     exact List.mem_append.2 (.inl hx)
   simp only [List.length_cons] at h2
   have:(KL b).length=b.length:=by simp [KL]
   omega
 have hs:=Jde h ha hf
 refine ⟨hs,(VM hs).2.2.1,fun x hx=>hr x (by simp [hx]),Nat.le_trans (V5 fun s hs'=>?_) hn⟩
 rcases List.mem_append.1 hs' with q | q
 ·
  rcases (JcS hs).1 q with rfl | q
  ·
   exact List.mem_append.2 (.inr (Ww.2 ⟨a,by simp,rfl⟩))
  ·
   exact List.mem_append.2 (.inl q)
 ·
  exact List.mem_append.2 (.inr (by simp only [Qj,List.map_cons,List.mem_cons];exact .inr q))
end Go.Proofs.YtnnlpbjdignhaaaGreatDoor
