import Derived.Test.YtnnlpbjdignhaaaGreatDoorThTickD
import Derived.Test.YtnnlpbjdignhaaaGreatDoorThLook
namespace Go.Proofs.YtnnlpbjdignhaaaGreatDoor
open Go.Tx
set_option linter.unusedVariables false
set_option linter.unusedSimpArgs false
open Go.Tx Go.Proofs
def Jc2 (c:JaD) (a b:Int):List JS × Int:=if ¬ J4 c = 0 then ([],J4 c) else Jcz c.heads a b
set_option maxHeartbeats 1600000 in
theorem JjH (G:Jt) (vs_c:List Value) (c:JaD) (h_c:Jfj.R G vs_c c) (a:Int) (hw_a:rI a) (b:Int) (hw_b:rI b) :Con Tryz.prog 150 #[.agg vs_c.toArray,I a,I b] G [] (fun u G' L'=>∃ (a1:Option Addr) (c2:Nat),u = .tuple #[Sl a1 (((Jc2 c a b).1).length) c2,I ((Jc2 c a b).2)] ∧ (RS Jaz G' a1 c2 ((Jc2 c a b).1)) ∧ L' = []):=by
 obtain ⟨a1,c1,a2,c2,a3,c3,rfl,w1,hs1,w2,w3,w4,hs2,hs3⟩:=h_c
 refine JL Tryz.func150 21 [(0,(JaL c a1 c1 a2 c2 a3 c3)),(1,I a),(2,I b)] rfl (fun w0 G0=>?_)
 refine Je (Jb ?_)
 refine Ju 3 #[I c.queue.most,Sl a1 c.queue.wait.length c1,I c.batch,I c.every,I c.now,Sl a2 c.heads.length c2,Sl a3 c.books.length c3] 34 (fun b1=>?_)
 refine Jd [0,0] [(1,I a),(2,I b),(3,Pt b1 0)] (Jc (Ja (Je (Je (Jb ?_)))))
 refine Jd [2] [(1,I a),(2,I b),(3,Pt b1 0),(9,(JaL c a1 c1 a2 c2 a3 c3))] ?_
 refine Ji 10 (I (J4 c)) (Jd3 G (Jal c a1 c1 a2 c2 a3 c3) c (⟨a1,c1,a2,c2,a3,c3,rfl,w1,hs1,w2,w3,w4,hs2,hs3⟩)) ?_
 refine Jd [0] [(1,I a),(2,I b),(3,Pt b1 0),(8,I (J4 c))] (Jc (Ja ?_))
 refine Jg [0,0] [(1,I a),(2,I b),(3,Pt b1 0),(8,I (J4 c)),(12,Bo (!decide (J4 c = 0)))] ?_
 refine Jo (!decide (J4 c = 0)) (fun h1=>?_) (fun h1=>?_)
 try simp only [BB] at h1
 refine Jg [0,0,0] [(6,Sl none 0 0),(7,I (J4 c))] (Jk (Jh ?_))
 have hf1:Jc2 c a b = ([],J4 c):=by
  unfold Jc2;(rw [if_pos ‹_›];done)
 refine Jl [0,0] [Sl none 0 0,I (J4 c)] (JY [] (.cons _ .slnil) (Jt.le_refl _) ?_)
 rw [hf1]
 try dsimp only
 exact ⟨none,0,rfl,(RS.nil' Jaz G),rfl⟩
 try simp only [BB] at h1
 refine Jn (Ja (Je (Jb ?_)))
 refine Jd [0,2,0,0] [(15,Sl a2 c.heads.length c2),(16,I a),(17,I b)] ?_
 refine JN 18 (Jj2 G a2 c2 c.heads hs2 a hw_a b hw_b) (fun v G1 L1 hl1 hp=>?_)
 obtain ⟨a4,c4,rfl,hs4,rfl⟩:=hp
 refine Jd [0,0,0,0] [(6,Sl a4 (((Jcz c.heads a b).1).length) c4),(7,I ((Jcz c.heads a b).2))] (Jc (Ja (Jk ?_)))
 have hf2:Jc2 c a b = ((Jcz c.heads a b).1,(Jcz c.heads a b).2):=by
  unfold Jc2;(rw [if_neg (by omega)];done)
 refine Jl [0,0] [Sl a4 (((Jcz c.heads a b).1).length) c4,I ((Jcz c.heads a b).2)] (JY [] (.cons _ .slnil) hl1 ?_)
 rw [hf2]
 try dsimp only
 exact ⟨a4,c4,rfl,hs4,rfl⟩
end Go.Proofs.YtnnlpbjdignhaaaGreatDoor
