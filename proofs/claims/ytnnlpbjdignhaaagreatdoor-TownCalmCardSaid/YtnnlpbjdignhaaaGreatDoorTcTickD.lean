import Derived.Test.YtnnlpbjdignhaaaGreatDoorTcTick
namespace Go.Proofs.YtnnlpbjdignhaaaGreatDoor
open Go.Tx
set_option linter.unusedVariables false
set_option linter.unusedSimpArgs false
open Go.Tx Go.Proofs
theorem JlD {a:WT} {l:List WT} {b:List JV} (h:QP b) (hr:∀ x∈a::l,Kq x=0) (hn:nn (KM b++Qi (a::l))≤24) :
  (KN b a.name a.value).2=0∧QP (KN b a.name a.value).1∧(∀ x∈l,Kq x=0)∧nn (KM (KN b a.name a.value).1++Qi l)≤24:=by
 have ha:=Jfn (hr a (by simp))
 have hf:a.name∈KM b∨b.length<24:=by
  by_cases e:a.name∈KM b
  ·
   exact .inl e
  ·
   right
   have h1:(a.name::KM b).Nodup:=List.nodup_cons.2 ⟨e,Jc4 h⟩
   have h2:=Jhi h1
   have h3:nn (a.name::KM b)≤nn (KM b++Qi (a::l)):=V0 fun x hx=>by
    rcases List.mem_cons.1 hx with rfl | hx
    ·
     exact List.mem_append.2 (.inr (Wu.2 ⟨a,by simp,rfl⟩))
    ·
     exact List.mem_append.2 (.inl hx)
   simp only [List.length_cons] at h2
   have:(KM b).length=b.length:=by simp [KM]
   omega
 have hs:=Jc5 h ha hf
 refine ⟨hs,(VH hs).2.2.1,fun x hx=>hr x (by simp [hx]),Nat.le_trans (V0 fun s hs'=>?_) hn⟩
 rcases List.mem_append.1 hs' with q | q
 ·
  rcases (JcI hs).1 q with rfl | q
  ·
   exact List.mem_append.2 (.inr (Wu.2 ⟨a,by simp,rfl⟩))
  ·
   exact List.mem_append.2 (.inl q)
 ·
  exact List.mem_append.2 (.inr (by simp only [Qi,List.map_cons,List.mem_cons];exact .inr q))
end Go.Proofs.YtnnlpbjdignhaaaGreatDoor
