import Derived.Test.YtnnlpbjdignhaaaGreatDoorTcIns
namespace Go.Proofs.YtnnlpbjdignhaaaGreatDoor
open Go.Tx
set_option linter.unusedVariables false
set_option linter.unusedSimpArgs false
theorem Jd4 {R:JV→JV→Prop} (hi:∀ x,¬ R x x) (ha:∀ x y,R x y→¬ R y x):∀ (l m:List JV),l.Pairwise R→m.Pairwise R→(∀ y,y∈l ↔ y∈m)→l=m
 | [],m,_,_,h=>by
  cases m with
  | nil=>rfl
  | cons y m=>exact absurd ((h y).2 (List.mem_cons_self ..)) (List.not_mem_nil)
 | x::l,[],_,_,h=>absurd ((h x).1 (List.mem_cons_self ..)) (List.not_mem_nil)
 | x::l,y::m,h1,h2,h=>by
  rw [List.pairwise_cons] at h1 h2
  have e:x=y:=by
   rcases List.mem_cons.1 ((h x).1 (List.mem_cons_self ..)) with e | e
   ·
    exact e
   rcases List.mem_cons.1 ((h y).2 (List.mem_cons_self ..)) with e' | e'
   ·
    exact e'.symm
   ·
    exact absurd (h1.1 _ e') (ha _ _ (h2.1 _ e))
  subst e
  congr 1
  refine Jd4 hi ha l m h1.2 h2.2 fun z=>⟨fun hz=>?_,fun hz=>?_⟩
  ·
   rcases List.mem_cons.1 ((h z).1 (List.mem_cons_of_mem _ hz)) with e | e
   ·
    subst e;exact absurd (h1.1 _ hz) (hi _)
   ·
    exact e
  ·
   rcases List.mem_cons.1 ((h z).2 (List.mem_cons_of_mem _ hz)) with e | e
   ·
    subst e;exact absurd (h2.1 _ hz) (hi _)
   ·
    exact e
theorem QP.pair {l:List JV} (h:QP l):l.Pairwise fun x y=>ZK x.name y.name<0:=by
 rw [List.pairwise_iff_getElem]
 intro i j hi hj hij
 exact h.ord i j _ _ hij (List.getElem?_eq_getElem hi) (List.getElem?_eq_getElem hj)
theorem QP.ext {l m:List JV} (h1:QP l) (h2:QP m) (h:∀ y,y∈l ↔ y∈m):l=m:=by
 refine Jd4 (R:=fun x y=>ZK x.name y.name<0) (fun x hx=>?_) (fun x y hx hy=>?_) l m h1.pair h2.pair h
 ·
  have:=Zi.2 (rfl:x.name=x.name);omega
 ·
  have:=JbH hx hy;have:=Zi.2 (rfl:x.name=x.name);omega
theorem Jib {l m:List JV} (h:QP l) (hs:m.Sublist l):QP m:=by
 have hp:=h.pair.sublist hs
 rw [List.pairwise_iff_getElem] at hp
 refine ⟨by have:=hs.length_le;have:=h.len;omega,fun x hx=>h.ok x (hs.subset hx),fun i j x y hij hx hy=>?_⟩
 obtain ⟨hi,rfl⟩:=List.getElem?_eq_some_iff.1 hx
 obtain ⟨hj,rfl⟩:=List.getElem?_eq_some_iff.1 hy
 exact hp i j hi hj hij
end Go.Proofs.YtnnlpbjdignhaaaGreatDoor
