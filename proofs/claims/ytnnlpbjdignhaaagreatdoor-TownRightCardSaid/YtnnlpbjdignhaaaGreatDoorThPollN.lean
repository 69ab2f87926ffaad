import Derived.Test.YtnnlpbjdignhaaaGreatDoorThTy
namespace Go.Proofs.YtnnlpbjdignhaaaGreatDoor
open Go.Tx
set_option linter.unusedVariables false
set_option linter.unusedSimpArgs false
def Jen (p:JbJ):Prop:=1 ≤ p.least ∧ p.least ≤ p.most ∧ p.most ≤ 1000 ∧ 1 ≤ p.lost ∧ p.lost ≤ 100 ∧ p.least ≤ p.gap ∧ p.gap ≤ p.most ∧ 0 ≤ p.next ∧ p.next ≤ 1000000000 ∧ 0 ≤ p.asked ∧ p.asked ≤ 1000000
instance (p:JbJ):Decidable (Jen p):=inferInstanceAs (Decidable (_ ∧ _))
def Jab (p:JbJ):Int:=if Jen p then 0 else 4
theorem JcY (p:JbJ):Jab p = 0 ↔ Jen p:=by unfold Jab;split <;> simp_all
theorem Jls (p:JbJ):Jab p = 0 ∨ Jab p = 4:=by unfold Jab;split <;> simp
theorem Jf5 {p:JbJ} (h:Jen p):Jab p = 0:=if_pos h
theorem JgW {p:JbJ} (h:¬ Jen p):Jab p = 4:=if_neg h
def Jas (p:JbJ) (now:Int):Int:=if Jab p = 0 ∧ (now < 0 ∨ 1000000000 < now) then 4 else Jab p
theorem Jhf (p:JbJ) (now:Int):Jas p now = 0 ↔ (Jen p ∧ 0 ≤ now ∧ now ≤ 1000000000):=by
 rw [← JcY];unfold Jas;have:=Jls p;split <;> omega
theorem Jgu {p:JbJ} {now:Int} (h:Jas p now = 0):1 ≤ p.least ∧ p.least ≤ p.most ∧ p.most ≤ 1000 ∧ 1 ≤ p.lost ∧ p.lost ≤ 100 ∧ p.least ≤ p.gap ∧ p.gap ≤ p.most ∧ 0 ≤ p.next ∧ p.next ≤ 1000000000 ∧ 0 ≤ p.asked ∧ p.asked ≤ 1000000 ∧ 0 ≤ now ∧ now ≤ 1000000000:=by
 have:=(Jhf p now).1 h;unfold Jen at this;omega
def JaS (now n:Int):Int:=if 1000000000 < now + n then 1000000000 else now + n
def JeE:JbJ:=⟨0,0,0,0,0,0⟩
def Jaq (p:JbJ) (now:Int):JbJ × Int :=
 if Jas p now ≠ 0 then (JeE,Jas p now) else if now < p.next then (JeE,9) else if p.asked = 1000000 then (JeE,7) else
 (⟨p.least,p.most,p.lost,if p.most < 2 * p.gap then p.most else 2 * p.gap,JaS now p.gap,p.asked + 1⟩,0)
def JbW (least top lost:Int):JbJ × Int:=if Jen ⟨least,top,lost,least,0,0⟩ then (⟨least,top,lost,least,0,0⟩,0) else (JeE,4)
def JbI (p:JbJ) (now:Int):JbJ × Int :=
 if Jas p now ≠ 0 then (JeE,Jas p now) else
 (⟨p.least,p.most,p.lost,p.least,if JaS now p.least < p.next then JaS now p.least else p.next,0⟩,0)
theorem JiB {p:JbJ} {now:Int} (h:(Jaq p now).2 = 0) :
  1 ≤ p.least ∧ p.least ≤ p.most ∧ p.most ≤ 1000 ∧ 1 ≤ p.lost ∧ p.lost ≤ 100 ∧ p.least ≤ p.gap ∧ p.gap ≤ p.most ∧ 0 ≤ p.next ∧ p.next ≤ 1000000000 ∧ 0 ≤ p.asked ∧ p.asked < 1000000 ∧ 0 ≤ now ∧ now ≤ 1000000000 ∧ p.next ≤ now ∧
  Jab (Jaq p now).1 = 0 ∧ (Jaq p now).1.least = p.least ∧ (Jaq p now).1.most = p.most ∧ (Jaq p now).1.lost = p.lost ∧ (Jaq p now).1.asked = p.asked + 1 ∧
  (p.most < 2 * p.gap ∧ (Jaq p now).1.gap = p.most ∨ 2 * p.gap ≤ p.most ∧ (Jaq p now).1.gap = 2 * p.gap) ∧
  (1000000000 < now + p.gap ∧ (Jaq p now).1.next = 1000000000 ∨ now + p.gap ≤ 1000000000 ∧ (Jaq p now).1.next = now + p.gap):=by
 unfold Jaq at h ⊢
 split at h
 ·
  contradiction
 split at h
 ·
  cases h
 split at h
 ·
  cases h
 rename_i h1 h2 h3
 have hb:=Jgu (p:=p) (now:=now) (by omega)
 rw [if_neg h1,if_neg h2,if_neg h3]
 dsimp only
 refine ⟨by omega,by omega,by omega,by omega,by omega,by omega,by omega,by omega,by omega,by omega,by omega,by omega,by omega,by omega,Jf5 ?_,rfl,rfl,rfl,rfl,?_,?_⟩
 ·
  unfold Jen JaS;simp only;(repeat' split) <;> omega
 ·
  split <;> omega
 ·
  unfold JaS;split <;> omega
theorem Jlt {p:JbJ} {now:Int} (h:(Jaq p now).2 ≠ 0):(Jaq p now).1 = JeE:=by
 revert h;unfold Jaq;(repeat' split) <;> simp
theorem Jlu {p:JbJ} {now:Int} (h:(JbI p now).2 = 0):Jas p now = 0 ∧ JbI p now = (⟨p.least,p.most,p.lost,p.least,if JaS now p.least < p.next then JaS now p.least else p.next,0⟩,0):=by
 revert h;unfold JbI;split
 ·
  intro h;exact absurd h ‹_›
 ·
  intro _;exact ⟨by omega,rfl⟩
theorem JjI {a b c:Int} (h:(JbW a b c).2 = 0):Jen ⟨a,b,c,a,0,0⟩ ∧ JbW a b c = (⟨a,b,c,a,0,0⟩,0):=by
 revert h;unfold JbW;split
 ·
  rename_i h1;intro _;exact ⟨h1,rfl⟩
 ·
  simp
theorem Jmw {a b c:Int} (h:(JbW a b c).2 ≠ 0):(JbW a b c).1 = JeE:=by
 revert h;unfold JbW;split <;> simp
def JfL (p:JbJ):Bool:=decide (Jab p = 0) && decide (p.asked ≥ p.lost)
def JcR (p:JbJ) (now:Int):Bool × Int:=(decide (Jas p now = 0) && decide (now ≥ p.next),Jas p now)
def JcZ (p:JbJ):Bool × Int:=(JfL p,Jab p)
theorem JeN (G:Jt) (vs_p:List Value) (p:JbJ) (h_p:Jcf.R G vs_p p) :Con Tryz.prog 14 #[.agg vs_p.toArray] G [] (fun u G' L'=>u = I (Jab p)):=by
 obtain ⟨rfl,_,_,_,_,_,_⟩:=h_p
 refine JL Tryz.func14 62 [(0,.agg #[I p.least,I p.most,I p.lost,I p.gap,I p.next,I p.asked])] rfl (fun w0 G0=>?_)
 refine Je (Jb ?_)
 refine Ju 1 #[I p.least,I p.most,I p.lost,I p.gap,I p.next,I p.asked] 56 (fun b1=>?_)
 refine Jd [0] [(1,Pt b1 0)] (Jc (Ja (Je (Je (Jb ?_)))))
 refine Jd [0,2,0,0] [(1,Pt b1 0),(6,Bo (decide (p.least < 1)))] ?_
 refine Jay (decide (p.least < 1)) (fun bb=>[(1,Pt b1 0),(6,Bo bb)]) [1,1,1,1,1,0] [0,2,0,2,0,0] (fun bb=>[(1,Pt b1 0),(12,Bo (bb || (decide (p.least > p.most))))]) ?_
 refine Jd [0] [(1,Pt b1 0),(13,Bo ((decide (p.least < 1)) || (decide (p.least > p.most))))] ?_
 refine Jay ((decide (p.least < 1)) || (decide (p.least > p.most))) (fun bb=>[(1,Pt b1 0),(13,Bo bb)]) [1,1,1,0] [0,2,0,0] (fun bb=>[(1,Pt b1 0),(17,Bo (bb || (decide (p.most > 1000))))]) ?_
 refine Jd [0] [(1,Pt b1 0),(18,Bo (((decide (p.least < 1)) || (decide (p.least > p.most))) || (decide (p.most > 1000))))] ?_
 refine Jay (((decide (p.least < 1)) || (decide (p.least > p.most))) || (decide (p.most > 1000))) (fun bb=>[(1,Pt b1 0),(18,Bo bb)]) [1,1,1,0] [0,2,0,0] (fun bb=>[(1,Pt b1 0),(22,Bo (bb || (decide (p.lost < 1))))]) ?_
 refine Jd [0] [(1,Pt b1 0),(23,Bo ((((decide (p.least < 1)) || (decide (p.least > p.most))) || (decide (p.most > 1000))) || (decide (p.lost < 1))))] ?_
 refine Jay ((((decide (p.least < 1)) || (decide (p.least > p.most))) || (decide (p.most > 1000))) || (decide (p.lost < 1))) (fun bb=>[(1,Pt b1 0),(23,Bo bb)]) [1,1,1,0] [0,2,0,0] (fun bb=>[(1,Pt b1 0),(27,Bo (bb || (decide (p.lost > 100))))]) ?_
 refine Jd [0] [(1,Pt b1 0),(28,Bo (((((decide (p.least < 1)) || (decide (p.least > p.most))) || (decide (p.most > 1000))) || (decide (p.lost < 1))) || (decide (p.lost > 100))))] ?_
 refine Jay (((((decide (p.least < 1)) || (decide (p.least > p.most))) || (decide (p.most > 1000))) || (decide (p.lost < 1))) || (decide (p.lost > 100))) (fun bb=>[(1,Pt b1 0),(28,Bo bb)]) [1,1,1,1,1,0] [0,2,0,2,0,0] (fun bb=>[(1,Pt b1 0),(34,Bo (bb || (decide (p.gap < p.least))))]) ?_
 refine Jd [0] [(1,Pt b1 0),(35,Bo ((((((decide (p.least < 1)) || (decide (p.least > p.most))) || (decide (p.most > 1000))) || (decide (p.lost < 1))) || (decide (p.lost > 100))) || (decide (p.gap < p.least))))] ?_
 refine Jay ((((((decide (p.least < 1)) || (decide (p.least > p.most))) || (decide (p.most > 1000))) || (decide (p.lost < 1))) || (decide (p.lost > 100))) || (decide (p.gap < p.least))) (fun bb=>[(1,Pt b1 0),(35,Bo bb)]) [1,1,1,1,1,0] [0,2,0,2,0,0] (fun bb=>[(1,Pt b1 0),(41,Bo (bb || (decide (p.gap > p.most))))]) ?_
 refine Jd [0] [(1,Pt b1 0),(42,Bo (((((((decide (p.least < 1)) || (decide (p.least > p.most))) || (decide (p.most > 1000))) || (decide (p.lost < 1))) || (decide (p.lost > 100))) || (decide (p.gap < p.least))) || (decide (p.gap > p.most))))] ?_
 refine Jay (((((((decide (p.least < 1)) || (decide (p.least > p.most))) || (decide (p.most > 1000))) || (decide (p.lost < 1))) || (decide (p.lost > 100))) || (decide (p.gap < p.least))) || (decide (p.gap > p.most))) (fun bb=>[(1,Pt b1 0),(42,Bo bb)]) [1,1,1,0] [0,2,0,0] (fun bb=>[(1,Pt b1 0),(46,Bo (bb || (decide (p.next < 0))))]) ?_
 refine Jd [0] [(1,Pt b1 0),(47,Bo ((((((((decide (p.least < 1)) || (decide (p.least > p.most))) || (decide (p.most > 1000))) || (decide (p.lost < 1))) || (decide (p.lost > 100))) || (decide (p.gap < p.least))) || (decide (p.gap > p.most))) || (decide (p.next < 0))))] ?_
 refine Jay ((((((((decide (p.least < 1)) || (decide (p.least > p.most))) || (decide (p.most > 1000))) || (decide (p.lost < 1))) || (decide (p.lost > 100))) || (decide (p.gap < p.least))) || (decide (p.gap > p.most))) || (decide (p.next < 0))) (fun bb=>[(1,Pt b1 0),(47,Bo bb)]) [1,1,1,0] [0,2,0,0] (fun bb=>[(1,Pt b1 0),(51,Bo (bb || (decide (p.next > 1000000000))))]) ?_
 refine Jd [0] [(1,Pt b1 0),(52,Bo (((((((((decide (p.least < 1)) || (decide (p.least > p.most))) || (decide (p.most > 1000))) || (decide (p.lost < 1))) || (decide (p.lost > 100))) || (decide (p.gap < p.least))) || (decide (p.gap > p.most))) || (decide (p.next < 0))) || (decide (p.next > 1000000000))))] ?_
 refine Jay (((((((((decide (p.least < 1)) || (decide (p.least > p.most))) || (decide (p.most > 1000))) || (decide (p.lost < 1))) || (decide (p.lost > 100))) || (decide (p.gap < p.least))) || (decide (p.gap > p.most))) || (decide (p.next < 0))) || (decide (p.next > 1000000000))) (fun bb=>[(1,Pt b1 0),(52,Bo bb)]) [1,1,1,0] [0,2,0,0] (fun bb=>[(1,Pt b1 0),(56,Bo (bb || (decide (p.asked < 0))))]) ?_
 refine Jd [0] [(1,Pt b1 0),(57,Bo ((((((((((decide (p.least < 1)) || (decide (p.least > p.most))) || (decide (p.most > 1000))) || (decide (p.lost < 1))) || (decide (p.lost > 100))) || (decide (p.gap < p.least))) || (decide (p.gap > p.most))) || (decide (p.next < 0))) || (decide (p.next > 1000000000))) || (decide (p.asked < 0))))] ?_
 refine Jay ((((((((((decide (p.least < 1)) || (decide (p.least > p.most))) || (decide (p.most > 1000))) || (decide (p.lost < 1))) || (decide (p.lost > 100))) || (decide (p.gap < p.least))) || (decide (p.gap > p.most))) || (decide (p.next < 0))) || (decide (p.next > 1000000000))) || (decide (p.asked < 0))) (fun bb=>[(1,Pt b1 0),(57,Bo bb)]) [1,1,1,0] [0,2,0,0] (fun bb=>[(61,Bo (bb || (decide (p.asked > 1000000))))]) ?_
 refine Jc (Ja ?_)
 refine Jo (((((((((((decide (p.least < 1)) || (decide (p.least > p.most))) || (decide (p.most > 1000))) || (decide (p.lost < 1))) || (decide (p.lost > 100))) || (decide (p.gap < p.least))) || (decide (p.gap > p.most))) || (decide (p.next < 0))) || (decide (p.next > 1000000000))) || (decide (p.asked < 0))) || (decide (p.asked > 1000000))) (fun h1=>?_) (fun h1=>?_)
 try simp only [BB] at h1
 refine Jg [0] [(2,I 4)] (Jk (Jh ?_))
 refine Jl [0] [I 4] (Jw (Jt.le_refl _) ?_)
 have hf_:(Jab p) = 4:=by
  exact JgW (by unfold Jen;omega)
 · (try rw [hf_]);(simp only [JM];done)
 try simp only [BB] at h1
 refine Jn (Ja ?_)
 refine Jg [0] [(2,I 0)] (Jk ?_)
 refine Jl [0] [I 0] (Jw (Jt.le_refl _) ?_)
 have hf_:(Jab p) = 0:=by
  exact Jf5 (by unfold Jen;omega)
 · (try rw [hf_]);(simp only [JM];done)
theorem Jgb (G:Jt) (vs_p:List Value) (p:JbJ) (h_p:Jcf.R G vs_p p) (now:Int) :Con Tryz.prog 181 #[.agg vs_p.toArray,I now] G [] (fun u G' L'=>u = I (Jas p now)):=by
 obtain ⟨rfl,w1,w2,w3,w4,w5,w6⟩:=h_p
 refine JL Tryz.func181 19 [(0,.agg #[I p.least,I p.most,I p.lost,I p.gap,I p.next,I p.asked]),(1,I now)] rfl (fun w0 G0=>?_)
 refine Je (Jb ?_)
 refine Ju 2 #[I p.least,I p.most,I p.lost,I p.gap,I p.next,I p.asked] 56 (fun b1=>?_)
 refine Jd [0] [(1,I now),(2,Pt b1 0)] (Jc (Ja (Je (Jb ?_))))
 refine Jd [2] [(1,I now),(6,.agg #[I p.least,I p.most,I p.lost,I p.gap,I p.next,I p.asked])] ?_
 refine Ji 7 (I (Jab p)) (JeN G [I p.least,I p.most,I p.lost,I p.gap,I p.next,I p.asked] p (⟨rfl,w1,w2,w3,w4,w5,w6⟩)) ?_
 refine Jd [0] [(1,I now),(5,I (Jab p))] (Jc (Ja (Je (Je (Jb ?_)))))
 refine Jd [0,0,0] [(1,I now),(5,I (Jab p)),(10,Bo (decide (Jab p = 0)))] ?_
 refine Jb8 (fun bb=>[(1,I now),(5,I (Jab p)),(10,Bo bb)]) (decide (Jab p = 0)) (fun h1=>?_) (fun h1=>?_)
 try simp only [BB] at h1
 refine Jd [0,0,0] [(1,I now),(5,I (Jab p)),(10,Bo true),(13,Bo (decide (now < 0)))] ?_
 refine Jay (decide (now < 0)) (fun bb=>[(1,I now),(5,I (Jab p)),(10,Bo true),(13,Bo bb)]) [1,1,0] [0,0,0] (fun bb=>[(5,I (Jab p)),(10,Bo true),(16,Bo (bb || (decide (now > 1000000000))))]) ?_
 refine Jd [0] [(5,I (Jab p)),(17,Bo ((decide (now < 0)) || (decide (now > 1000000000))))] (Jc (Ja ?_))
 refine Jo ((decide (now < 0)) || (decide (now > 1000000000))) (fun h2=>?_) (fun h2=>?_)
 try simp only [BB] at h2
 refine Jb ?_
 refine Jd [0] [(5,I 4)] (Jc (Ja ?_))
 refine Jg [0,0] [(4,I 4)] (Jk ?_)
 refine Jl [0] [I 4] (Jw (Jt.le_refl _) ?_)
 have hf_:(Jas p now) = 4:=by
  unfold Jas;split <;> omega
 · (try rw [hf_]);(simp only [JM];done)
 try simp only [BB] at h2
 refine Jn (Ja ?_)
 refine Jg [0,0] [(4,I (Jab p))] (Jk ?_)
 refine Jl [0] [I (Jab p)] (Jw (Jt.le_refl _) ?_)
 have hf_:(Jas p now) = (Jab p):=by
  unfold Jas;split <;> omega
 · (try rw [hf_]);(simp only [JM];done)
 try simp only [BB] at h1
 refine Jd [1,1,1,1,1,1,0] [(5,I (Jab p)),(17,Bo false)] (Jc (Ja ?_))
 refine Jbk ?_
 refine Jn (Ja ?_)
 refine Jg [0,0] [(4,I (Jab p))] (Jk ?_)
 refine Jl [0] [I (Jab p)] (Jw (Jt.le_refl _) ?_)
 have hf_:(Jas p now) = (Jab p):=by
  unfold Jas;split <;> omega
 · (try rw [hf_]);(simp only [JM];done)
theorem Jmx (G:Jt) (vs_p:List Value) (p:JbJ) (h_p:Jcf.R G vs_p p) (now:Int) :Con Tryz.prog 183 #[.agg vs_p.toArray,I now] G [] (fun u G' L'=>u = .tuple #[Bo ((JcR p now).1),I ((JcR p now).2)]):=by
 obtain ⟨rfl,w1,w2,w3,w4,w5,w6⟩:=h_p
 refine JL Tryz.func183 19 [(0,.agg #[I p.least,I p.most,I p.lost,I p.gap,I p.next,I p.asked]),(1,I now)] rfl (fun w0 G0=>?_)
 refine Je (Jb ?_)
 refine Ju 2 #[I p.least,I p.most,I p.lost,I p.gap,I p.next,I p.asked] 56 (fun b1=>?_)
 refine Jd [0,0] [(1,I now),(2,Pt b1 0)] (Jc (Ja (Je (Jb ?_))))
 refine Jd [2,0] [(1,I now),(2,Pt b1 0),(7,.agg #[I p.least,I p.most,I p.lost,I p.gap,I p.next,I p.asked]),(8,I now)] ?_
 refine Ji 9 (I (Jas p now)) (Jgb G [I p.least,I p.most,I p.lost,I p.gap,I p.next,I p.asked] p (⟨rfl,w1,w2,w3,w4,w5,w6⟩) now) ?_
 refine Jd [0] [(1,I now),(2,Pt b1 0),(6,I (Jas p now))] (Jc (Ja (Je (Jb ?_))))
 refine Jd [0,0,0] [(1,I now),(2,Pt b1 0),(6,I (Jas p now)),(12,Bo (decide (Jas p now = 0)))] ?_
 refine Jay (decide (Jas p now = 0)) (fun bb=>[(1,I now),(2,Pt b1 0),(6,I (Jas p now)),(12,Bo bb)]) [0,0,2,0,0] [1,1,1,1,0] (fun bb=>[(6,I (Jas p now)),(17,Bo (bb && (decide (now ≥ p.next))))]) ?_
 refine Jd [0,0,0] [(4,Bo ((decide (Jas p now = 0)) && (decide (now ≥ p.next)))),(5,I (Jas p now))] (Jc (Ja (Jk ?_)))
 refine Jl [0,0] [Bo ((decide (Jas p now = 0)) && (decide (now ≥ p.next))),I (Jas p now)] (Jw (Jt.le_refl _) ?_)
 have hf_:(JcR p now) = (((decide (Jas p now = 0)) && (decide (now ≥ p.next))),(Jas p now)):=by
  rfl
 · (try rw [hf_]);(simp only [JM];done)
theorem JgX (G:Jt) (now:Int) (n:Int) (hn:-9000000000000000000 ≤ now + n ∧ now + n ≤ 9000000000000000000):Con Tryz.prog 182 #[I now,I n] G [] (fun u G' L'=>u = I (JaS now n)):=by
 refine JL Tryz.func182 9 [(0,I now),(1,I n)] rfl (fun w0 G0=>?_)
 refine Jg [0] [(0,I now),(1,I n)] ?_
 refine Jg [0,0,0,0,0] [(4,I (if 1000000000 < (IntKind.i64.wrap (now + n)) then 1000000000 else (IntKind.i64.wrap (now + n))))] ?_
 have e1:IntKind.i64.wrap (now + n) = now + n:=IntWalk.i64_in _ (by omega)
 refine JaJ (fr':=[(4,I (if 1000000000 < (now + n) then 1000000000 else (now + n)))]) (L':=[]) (by simp only [e1]) (by rfl) ?_
 clear e1
 refine Jk ?_
 refine Jl [0] [I (if 1000000000 < (now + n) then 1000000000 else (now + n))] (Jw (Jt.le_refl _) ?_)
 have hf_:(JaS now n) = (if 1000000000 < (now + n) then 1000000000 else (now + n)):=by
  unfold JaS;split <;> rfl
 · (try rw [hf_]);(simp only [JM];done)
theorem JhG (G:Jt) (vs_p:List Value) (p:JbJ) (h_p:Jcf.R G vs_p p) (now:Int) :Con Tryz.prog 154 #[.agg vs_p.toArray,I now] G [] (fun u G' L'=>u = .tuple #[.agg #[I (((Jaq p now).1).least),I (((Jaq p now).1).most),I (((Jaq p now).1).lost),I (((Jaq p now).1).gap),I (((Jaq p now).1).next),I (((Jaq p now).1).asked)],I ((Jaq p now).2)]):=by
 obtain ⟨rfl,w1,w2,w3,w4,w5,w6⟩:=h_p
 refine JL Tryz.func154 45 [(0,.agg #[I p.least,I p.most,I p.lost,I p.gap,I p.next,I p.asked]),(1,I now)] rfl (fun w0 G0=>?_)
 refine Je (Jb ?_)
 refine Ju 2 #[I p.least,I p.most,I p.lost,I p.gap,I p.next,I p.asked] 56 (fun b1=>?_)
 refine Ju 4 #[I 0,I 0,I 0,I 0,I 0,I 0] 56 (fun b2=>?_)
 refine Jd [0] [(1,I now),(2,Pt b1 0),(4,Pt b2 0)] (Jc (Ja (Je (Jb ?_))))
 refine Jd [4,0] [(1,I now),(2,Pt b1 0),(4,Pt b2 0),(9,.agg #[I p.least,I p.most,I p.lost,I p.gap,I p.next,I p.asked]),(10,I now)] ?_
 refine Ji 11 (.tuple #[Bo ((JcR p now).1),I ((JcR p now).2)]) (Jmx G [I p.least,I p.most,I p.lost,I p.gap,I p.next,I p.asked] p (⟨rfl,w1,w2,w3,w4,w5,w6⟩) now) ?_
 refine Jd [0,0,0,0,0] [(1,I now),(2,Pt b1 0),(4,Pt b2 0),(6,Bo ((JcR p now).1)),(7,I ((JcR p now).2))] (Jc (Ja (Je (Jy ?_))))
 refine Jg [0,0,0] [(1,I now),(2,Pt b1 0),(4,Pt b2 0),(6,Bo ((JcR p now).1)),(7,I ((JcR p now).2)),(14,Bo (!decide ((JcR p now).2 = 0)))] ?_
 refine Jo (!decide ((JcR p now).2 = 0)) (fun h1=>?_) (fun h1=>?_)
 try simp only [BB] at h1
 refine Jg [0,0,3,0] [(4,Pt b2 0),(5,I ((JcR p now).2))] (Jk (Js (Jh ?_)))
 refine Jl [0,0] [.agg #[I 0,I 0,I 0,I 0,I 0,I 0],I ((JcR p now).2)] (Jw (Jt.le_refl _) ?_)
 have hf_:(Jaq p now) = ((⟨0,0,0,0,0,0⟩:JbJ),((JcR p now).2)):=by
  unfold Jaq JeE;(try unfold JcR at *);(repeat' split) <;> rfl
 · (try rw [hf_]);(simp only [JM];done)
 try simp only [BB] at h1
 refine Jg [0,0,0] [(1,I now),(2,Pt b1 0),(4,Pt b2 0),(19,Bo (!((JcR p now).1)))] ?_
 refine Jo (!((JcR p now).1)) (fun h2=>?_) (fun h2=>?_)
 try simp only [BB] at h2
 refine Jg [0,3,0] [(4,Pt b2 0),(5,I 9)] (Jk (Js (Jh ?_)))
 refine Jl [0,0] [.agg #[I 0,I 0,I 0,I 0,I 0,I 0],I 9] (Jw (Jt.le_refl _) ?_)
 have hf_:(Jaq p now) = ((⟨0,0,0,0,0,0⟩:JbJ),9):=by
  unfold Jaq JeE;(try unfold JcR at *);(repeat' split) <;> first | rfl | (exfalso;omega) | (simp_all;done)
 · (try rw [hf_]);(simp only [JM];done)
 try simp only [BB] at h2
 refine Jg [0,4,0,0] [(1,I now),(2,Pt b1 0),(4,Pt b2 0),(23,Bo (decide (p.asked = 1000000)))] ?_
 refine Jo (decide (p.asked = 1000000)) (fun h3=>?_) (fun h3=>?_)
 try simp only [BB] at h3
 refine Jg [0,3,0] [(4,Pt b2 0),(5,I 7)] (Jk (Js (Jh ?_)))
 refine Jl [0,0] [.agg #[I 0,I 0,I 0,I 0,I 0,I 0],I 7] (Jw (Jt.le_refl _) ?_)
 have hf_:(Jaq p now) = ((⟨0,0,0,0,0,0⟩:JbJ),7):=by
  unfold Jaq JeE;(try unfold JcR at *);(repeat' split) <;> first | rfl | (exfalso;omega) | (exfalso;simp_all;omega)
 · (try rw [hf_]);(simp only [JM];done)
 try simp only [BB] at h3
 refine Jn (JK (Ja ?_))
 refine JcA [0,4,0,0,5] [(1,I now),(2,Pt b1 0),(4,Pt b2 0)] [[Sg b2 0 [I 0,I 0,I 0,I 0,I 0,I 0]],[Sg b1 0 [I p.least,I p.most,I p.lost,I p.gap,I p.next,I (IntKind.i64.wrap (p.asked + 1))]]] ?_
 have e1:IntKind.i64.wrap (p.asked + 1) = p.asked + 1:=IntWalk.i64_in _ (by (have q_:=Jgu (p:=p) (now:=now) ‹_›;omega))
 refine JaJ (fr':=[(1,I now),(2,Pt b1 0),(4,Pt b2 0)]) (L':=[[Sg b2 0 [I 0,I 0,I 0,I 0,I 0,I 0]],[Sg b1 0 [I p.least,I p.most,I p.lost,I p.gap,I p.next,I (p.asked + 1)]]]) (by rfl) (by simp only [e1]) ?_
 clear e1
 refine Je (Jb ?_)
 refine Jd [0,0,4] [(2,Pt b1 0),(4,Pt b2 0),(32,I now),(34,I p.gap)] ?_
 refine Ji 35 (I (JaS now p.gap)) (JgX G now p.gap (by (have q_:=Jgu (p:=p) (now:=now) ‹_›;omega))) ?_
 refine Jaa [0,5] [(2,Pt b1 0),(4,Pt b2 0)] [[Sg b2 0 [I 0,I 0,I 0,I 0,I 0,I 0]],[Sg b1 0 [I p.least,I p.most,I p.lost,I p.gap,I (JaS now p.gap),I (p.asked + 1)]]] (Jc (Ja ?_))
 refine JcA [0,4,0,0,4,0,0,5] [(2,Pt b1 0),(4,Pt b2 0)] [[Sg b2 0 [I 0,I 0,I 0,I 0,I 0,I 0]],[Sg b1 0 [I p.least,I p.most,I p.lost,I (if p.most < (IntKind.i64.wrap (2 * p.gap)) then p.most else (IntKind.i64.wrap (2 * p.gap))),I (JaS now p.gap),I (p.asked + 1)]]] ?_
 have e2:IntKind.i64.wrap (2 * p.gap) = 2 * p.gap:=IntWalk.i64_in _ (by (have q_:=Jgu (p:=p) (now:=now) ‹_›;omega))
 refine JaJ (fr':=[(2,Pt b1 0),(4,Pt b2 0)]) (L':=[[Sg b2 0 [I 0,I 0,I 0,I 0,I 0,I 0]],[Sg b1 0 [I p.least,I p.most,I p.lost,I (if p.most < (2 * p.gap) then p.most else (2 * p.gap)),I (JaS now p.gap),I (p.asked + 1)]]]) (by rfl) (by simp only [e2]) ?_
 clear e2
 refine JcA [4,3,0] [(4,Pt b2 0),(5,I 0)] [[Sg b2 0 [I p.least,I p.most,I p.lost,I (if p.most < (2 * p.gap) then p.most else (2 * p.gap)),I (JaS now p.gap),I (p.asked + 1)]],[Sg b1 0 [I p.least,I p.most,I p.lost,I (if p.most < (2 * p.gap) then p.most else (2 * p.gap)),I (JaS now p.gap),I (p.asked + 1)]]] ?_
 refine Jk ?_
 refine Jl [0,0] [.agg #[I p.least,I p.most,I p.lost,I (if p.most < (2 * p.gap) then p.most else (2 * p.gap)),I (JaS now p.gap),I (p.asked + 1)],I 0] (Jw (Jt.le_refl _) ?_)
 have hf_:(Jaq p now) = ((⟨p.least,p.most,p.lost,if p.most < (2 * p.gap) then p.most else (2 * p.gap),JaS now p.gap,p.asked + 1⟩:JbJ),0):=by
  unfold Jaq JeE;(try unfold JcR at *);(repeat' split) <;> first | rfl | (exfalso;omega) | (exfalso;simp_all;omega)
 · (try rw [hf_]);(simp only [JM];done)
theorem Jmy (G:Jt) (a:Int) (hw_a:rI a) (b:Int) (hw_b:rI b) (c:Int) (hw_c:rI c) :Con Tryz.prog 69 #[I a,I b,I c] G [] (fun u G' L'=>u = .tuple #[.agg #[I (((JbW a b c).1).least),I (((JbW a b c).1).most),I (((JbW a b c).1).lost),I (((JbW a b c).1).gap),I (((JbW a b c).1).next),I (((JbW a b c).1).asked)],I ((JbW a b c).2)]):=by
 refine JL Tryz.func69 22 [(0,I a),(1,I b),(2,I c)] rfl (fun w0 G0=>?_)
 refine Je (Jb ?_)
 refine Ju 6 #[I 0,I 0,I 0,I 0,I 0,I 0] 56 (fun b1=>?_)
 refine Jd [0] [(0,I a),(1,I b),(2,I c),(6,Pt b1 0)] (Jc (Ja (Je (Jb ?_))))
 refine Jd [0,0,0,0,0] [(6,Pt b1 0),(14,.agg #[I a,I b,I c,I a,I 0,I 0])] ?_
 refine Ju 8 #[I 0,I 0,I 0,I 0,I 0,I 0] 56 (fun b2=>?_)
 refine Jaa [3] [(6,Pt b1 0),(8,Pt b2 0)] [[Sg b2 0 [I a,I b,I c,I a,I 0,I 0]],[Sg b1 0 [I 0,I 0,I 0,I 0,I 0,I 0]]] (Jc (Ja (Je (Je (Jb ?_)))))
 refine Jd [2] [(6,Pt b1 0),(8,Pt b2 0),(15,.agg #[I a,I b,I c,I a,I 0,I 0])] ?_
 refine Ji 16 (I (Jab (⟨a,b,c,a,0,0⟩:JbJ))) (JeN G [I a,I b,I c,I a,I 0,I 0] (⟨a,b,c,a,0,0⟩:JbJ) (⟨rfl,hw_a,hw_b,hw_c,hw_a,(by (simp;done)),(by (simp;done))⟩)) ?_
 refine Jd [0] [(6,Pt b1 0),(8,Pt b2 0),(9,I (Jab (⟨a,b,c,a,0,0⟩:JbJ)))] (Jc (Ja ?_))
 refine Jg [0,0] [(6,Pt b1 0),(8,Pt b2 0),(9,I (Jab (⟨a,b,c,a,0,0⟩:JbJ))),(18,Bo (!decide (Jab (⟨a,b,c,a,0,0⟩:JbJ) = 0)))] ?_
 refine Jo (!decide (Jab (⟨a,b,c,a,0,0⟩:JbJ) = 0)) (fun h1=>?_) (fun h1=>?_)
 try simp only [BB] at h1
 refine Jg [0,0,5,0] [(6,Pt b1 0),(7,I (Jab (⟨a,b,c,a,0,0⟩:JbJ)))] (Jk (Jh ?_))
 refine Jl [1,0] [.agg #[I 0,I 0,I 0,I 0,I 0,I 0],I (Jab (⟨a,b,c,a,0,0⟩:JbJ))] (Jw (Jt.le_refl _) ?_)
 have hf_:(JbW a b c) = ((⟨0,0,0,0,0,0⟩:JbJ),(Jab (⟨a,b,c,a,0,0⟩:JbJ))):=by
  rw [JcY] at *;unfold JbW JeE;split <;> first | (rename_i hx;rw [JgW hx];done) | contradiction
 · (try rw [hf_]);(simp only [JM];done)
 try simp only [BB] at h1
 refine Jn (Ja ?_)
 refine JcA [2,5,0] [(6,Pt b1 0),(7,I 0)] [[Sg b2 0 [I a,I b,I c,I a,I 0,I 0]],[Sg b1 0 [I a,I b,I c,I a,I 0,I 0]]] ?_
 refine Jk ?_
 refine Jl [1,0] [.agg #[I a,I b,I c,I a,I 0,I 0],I 0] (Jw (Jt.le_refl _) ?_)
 have hf_:(JbW a b c) = ((⟨a,b,c,a,0,0⟩:JbJ),0):=by
  rw [JcY] at *;unfold JbW JeE;split <;> rfl
 · (try rw [hf_]);(simp only [JM];done)
theorem Jkd (G:Jt) (vs_p:List Value) (p:JbJ) (h_p:Jcf.R G vs_p p) (now:Int) :Con Tryz.prog 153 #[.agg vs_p.toArray,I now] G [] (fun u G' L'=>u = .tuple #[.agg #[I (((JbI p now).1).least),I (((JbI p now).1).most),I (((JbI p now).1).lost),I (((JbI p now).1).gap),I (((JbI p now).1).next),I (((JbI p now).1).asked)],I ((JbI p now).2)]):=by
 obtain ⟨rfl,w1,w2,w3,w4,w5,w6⟩:=h_p
 refine JL Tryz.func153 27 [(0,.agg #[I p.least,I p.most,I p.lost,I p.gap,I p.next,I p.asked]),(1,I now)] rfl (fun w0 G0=>?_)
 refine Je (Jb ?_)
 refine Ju 2 #[I p.least,I p.most,I p.lost,I p.gap,I p.next,I p.asked] 56 (fun b1=>?_)
 refine Ju 4 #[I 0,I 0,I 0,I 0,I 0,I 0] 56 (fun b2=>?_)
 refine Jd [0] [(1,I now),(2,Pt b1 0),(4,Pt b2 0)] (Jc (Ja (Je (Je (Jb ?_)))))
 refine Jd [4,0] [(1,I now),(2,Pt b1 0),(4,Pt b2 0),(7,.agg #[I p.least,I p.most,I p.lost,I p.gap,I p.next,I p.asked]),(8,I now)] ?_
 refine Ji 9 (I (Jas p now)) (Jgb G [I p.least,I p.most,I p.lost,I p.gap,I p.next,I p.asked] p (⟨rfl,w1,w2,w3,w4,w5,w6⟩) now) ?_
 refine Jd [0] [(1,I now),(2,Pt b1 0),(4,Pt b2 0),(6,I (Jas p now))] (Jc (Ja ?_))
 refine Jg [0,0] [(1,I now),(2,Pt b1 0),(4,Pt b2 0),(6,I (Jas p now)),(11,Bo (!decide (Jas p now = 0)))] ?_
 refine Jo (!decide (Jas p now = 0)) (fun h1=>?_) (fun h1=>?_)
 try simp only [BB] at h1
 refine Jg [0,0,3,0] [(4,Pt b2 0),(5,I (Jas p now))] (Jk (Jh ?_))
 refine Jl [0,0] [.agg #[I 0,I 0,I 0,I 0,I 0,I 0],I (Jas p now)] (Jw (Jt.le_refl _) ?_)
 have hf_:(JbI p now) = ((⟨0,0,0,0,0,0⟩:JbJ),(Jas p now)):=by
  unfold JbI JeE;(repeat' split) <;> rfl
 · (try rw [hf_]);(simp only [JM];done)
 try simp only [BB] at h1
 refine Jn (Ja ?_)
 refine JcA [0,4,0,5,0,5] [(1,I now),(2,Pt b1 0),(4,Pt b2 0)] [[Sg b2 0 [I 0,I 0,I 0,I 0,I 0,I 0]],[Sg b1 0 [I p.least,I p.most,I p.lost,I p.least,I p.next,I 0]]] ?_
 refine Je ?_
 refine Jau [8] ?_
 refine Jb6 [(0,Pt b1 4),(1,I p.next),(2,I now),(3,Pt b1 0),(4,I p.least),(5,I (JaS now p.least)),(6,I (if (JaS now p.least) < p.next then (JaS now p.least) else p.next)),(7,Pt b1 4)] ?_
 refine JZ [] [(0,0),(1,4),(2,0),(3,0),(4,4),(6,0),(7,0)] [5] [8] (List.forall_mem_cons.2 ⟨?_,List.forall_mem_nil _⟩) (List.forall_mem_cons.2 ⟨?_,List.forall_mem_nil _⟩)
 refine Jq 5 23 (I (JaS now p.least)) [(20,I now),(22,I p.least)] (fun X=>?_)
 exact Ji 23 (I (JaS now p.least)) (JgX G now p.least (by (have q_:=Jgu (p:=p) (now:=now) ‹_›;omega))) Jm
 refine JP 8 [(24,I (if (JaS now p.least) < p.next then (JaS now p.least) else p.next)),(25,Pt b1 4)] (fun X=>?_)
 refine JaU 1 [[Sg b2 0 [I 0,I 0,I 0,I 0,I 0,I 0]],[Sg b1 0 [I p.least,I p.most,I p.lost,I p.least,I (if (JaS now p.least) < p.next then (JaS now p.least) else p.next),I 0]]] ?_
 refine Jao [] ?_
 refine Jav [0,1,2,3,4,5,6,7] [] [] [(2,Pt b1 0),(4,Pt b2 0)] (List.forall_mem_nil _) ?_
 refine Ja ?_
 refine JcA [4,3,0] [(4,Pt b2 0),(5,I 0)] [[Sg b2 0 [I p.least,I p.most,I p.lost,I p.least,I (if (JaS now p.least) < p.next then (JaS now p.least) else p.next),I 0]],[Sg b1 0 [I p.least,I p.most,I p.lost,I p.least,I (if (JaS now p.least) < p.next then (JaS now p.least) else p.next),I 0]]] ?_
 refine Jk ?_
 refine Jl [0,0] [.agg #[I p.least,I p.most,I p.lost,I p.least,I (if (JaS now p.least) < p.next then (JaS now p.least) else p.next),I 0],I 0] (Jw (Jt.le_refl _) ?_)
 have hf_:(JbI p now) = ((⟨p.least,p.most,p.lost,p.least,if (JaS now p.least) < p.next then (JaS now p.least) else p.next,0⟩:JbJ),0):=by
  unfold JbI JeE;(repeat' split) <;> first | rfl | (exfalso;omega)
 · (try rw [hf_]);(simp only [JM];done)
theorem JgY (G:Jt) (vs_p:List Value) (p:JbJ) (h_p:Jcf.R G vs_p p) :Con Tryz.prog 155 #[.agg vs_p.toArray] G [] (fun u G' L'=>u = .tuple #[Bo ((JcZ p).1),I ((JcZ p).2)]):=by
 obtain ⟨rfl,w1,w2,w3,w4,w5,w6⟩:=h_p
 refine JL Tryz.func155 17 [(0,.agg #[I p.least,I p.most,I p.lost,I p.gap,I p.next,I p.asked])] rfl (fun w0 G0=>?_)
 refine Je (Jb ?_)
 refine Ju 1 #[I p.least,I p.most,I p.lost,I p.gap,I p.next,I p.asked] 56 (fun b1=>?_)
 refine Jd [0,0] [(1,Pt b1 0)] (Jc (Ja (Je (Jb ?_))))
 refine Jd [2] [(1,Pt b1 0),(5,.agg #[I p.least,I p.most,I p.lost,I p.gap,I p.next,I p.asked])] ?_
 refine Ji 6 (I (Jab p)) (JeN G [I p.least,I p.most,I p.lost,I p.gap,I p.next,I p.asked] p (⟨rfl,w1,w2,w3,w4,w5,w6⟩)) ?_
 refine Jd [0] [(1,Pt b1 0),(4,I (Jab p))] (Jc (Ja (Je (Jb ?_))))
 refine Jd [0,0,0] [(1,Pt b1 0),(4,I (Jab p)),(9,Bo (decide (Jab p = 0)))] ?_
 refine Jay (decide (Jab p = 0)) (fun bb=>[(1,Pt b1 0),(4,I (Jab p)),(9,Bo bb)]) [0,2,0,2,0,0] [1,1,1,1,1,0] (fun bb=>[(4,I (Jab p)),(15,Bo (bb && (decide (p.asked ≥ p.lost))))]) ?_
 refine Jd [0,0,0] [(2,Bo ((decide (Jab p = 0)) && (decide (p.asked ≥ p.lost)))),(3,I (Jab p))] (Jc (Ja (Jk ?_)))
 refine Jl [0,0] [Bo ((decide (Jab p = 0)) && (decide (p.asked ≥ p.lost))),I (Jab p)] (Jw (Jt.le_refl _) ?_)
 have hf_:(JcZ p) = (((decide (Jab p = 0)) && (decide (p.asked ≥ p.lost))),(Jab p)):=by
  rfl
 · (try rw [hf_]);(simp only [JM];done)
end Go.Proofs.YtnnlpbjdignhaaaGreatDoor
