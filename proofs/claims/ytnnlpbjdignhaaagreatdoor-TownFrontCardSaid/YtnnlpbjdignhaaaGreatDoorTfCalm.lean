import Derived.Test.YtnnlpbjdignhaaaGreatDoorTfTickD
import Derived.Test.YtnnlpbjdignhaaaGreatDoorTfLook
namespace Go.Proofs.YtnnlpbjdignhaaaGreatDoor
open Go.Tx
set_option linter.unusedVariables false
set_option linter.unusedSimpArgs false
open Go.Tx Go.Proofs
def W3 (c:KF) (a b:Int):List JU×Int:=if ¬ J7 c=0 then ([],J7 c) else WB c.heads a b
set_option maxHeartbeats 1600000 in
theorem JdN (G:Jt) (vs_c:List Value) (c:KF) (h_c:Vo.R G vs_c c) (a:Int) (hw_a:rI a) (b:Int) (hw_b:rI b) :QE Tryz.prog 150 #[.agg vs_c.toArray,I a,I b] G [] (fun u G' L'=>∃ (a1:Option Addr) (c2:Nat),u=.tuple #[Sl a1 (((W3 c a b).1).length) c2,I ((W3 c a b).2)]∧(RS KA G' a1 c2 ((W3 c a b).1))∧L'=[]):=by
 obtain ⟨a1,c1,a2,c2,a3,c3,rfl,w1,hs1,w2,w3,w4,hs2,hs3⟩:=h_c
 refine JL Tryz.func150 21 [(0,(KP c a1 c1 a2 c2 a3 c3)),(1,I a),(2,I b)] rfl (fun w0 G0=>?_)
 refine Je (Jb ?_)
 refine Ju 3 #[I c.queue.most,Sl a1 c.queue.wait.length c1,I c.batch,I c.every,I c.now,Sl a2 c.heads.length c2,Sl a3 c.books.length c3] 34 (fun b1=>?_)
 refine Jc [0,0] [(1,I a),(2,I b),(3,Pt b1 0)] (Jd (Ja (Je (Je (Jb ?_)))))
 refine Jc [2] [(1,I a),(2,I b),(3,Pt b1 0),(9,(KP c a1 c1 a2 c2 a3 c3))] ?_
 refine Ji 10 (I (J7 c)) (YE G (Kn c a1 c1 a2 c2 a3 c3) c (⟨a1,c1,a2,c2,a3,c3,rfl,w1,hs1,w2,w3,w4,hs2,hs3⟩)) ?_
 refine Jc [0] [(1,I a),(2,I b),(3,Pt b1 0),(8,I (J7 c))] (Jd (Ja ?_))
 refine Jg [0,0] [(1,I a),(2,I b),(3,Pt b1 0),(8,I (J7 c)),(12,Bo (!decide (J7 c=0)))] ?_
 refine Jo (!decide (J7 c=0)) (fun h1=>?_) (fun h1=>?_)
 try simp only [BB] at h1
 refine Jg [0,0,0] [(6,Sl none 0 0),(7,I (J7 c))] (Jk (Jh ?_))
 have hf1:W3 c a b=([],J7 c):=by
  unfold W3;(rw [if_pos ‹_›];done)
 refine Jl [0,0] [Sl none 0 0,I (J7 c)] (JY [] (.cons _ .slnil) (Jt.le_refl _) ?_)
 rw [hf1]
 try dsimp only
 exact ⟨none,0,rfl,(RS.nil' KA G),rfl⟩
 try simp only [BB] at h1
 refine Jm (Ja (Je (Jb ?_)))
 refine Jc [0,2,0,0] [(15,Sl a2 c.heads.length c2),(16,I a),(17,I b)] ?_
 refine JN 18 (Jd8 G a2 c2 c.heads hs2 a hw_a b hw_b) (fun v G1 L1 hl1 hp=>?_)
 obtain ⟨a4,c4,rfl,hs4,rfl⟩:=hp
 refine Jc [0,0,0,0] [(6,Sl a4 (((WB c.heads a b).1).length) c4),(7,I ((WB c.heads a b).2))] (Jd (Ja (Jk ?_)))
 have hf2:W3 c a b=((WB c.heads a b).1,(WB c.heads a b).2):=by
  unfold W3;(rw [if_neg (by omega)];done)
 refine Jl [0,0] [Sl a4 (((WB c.heads a b).1).length) c4,I ((WB c.heads a b).2)] (JY [] (.cons _ .slnil) hl1 ?_)
 rw [hf2]
 try dsimp only
 exact ⟨a4,c4,rfl,hs4,rfl⟩
end Go.Proofs.YtnnlpbjdignhaaaGreatDoor
