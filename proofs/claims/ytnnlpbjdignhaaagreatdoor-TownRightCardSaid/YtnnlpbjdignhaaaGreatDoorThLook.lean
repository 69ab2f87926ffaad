import Derived.Test.YtnnlpbjdignhaaaGreatDoorThClerk
namespace Go.Proofs.YtnnlpbjdignhaaaGreatDoor
open Go.Tx
set_option linter.unusedVariables false
set_option linter.unusedSimpArgs false
open Go.Tx Go.Proofs
def Jib:Jct:=⟨JcV,Jh5⟩
def JbB (c:JaD) (name:List UInt8) (epoch:Int):Jct × Int:=if ¬ (Jan c epoch).2 = 0 then (Jib,(Jan c epoch).2) else if ¬ (JaM (Jan c epoch).1 name).2 = 0 then (Jib,(JaM (Jan c epoch).1 name).2) else (⟨c.heads[epoch.toNat]?.getD JcV,(JaM (Jan c epoch).1 name).1⟩,0)
theorem JgV (G:Jt) (vs_c:List Value) (c:JaD) (h_c:Jfj.R G vs_c c) (name:List UInt8) (hw_name:(name).length ≤ 140737488351232) (epoch:Int) (hw_epoch:rI epoch) :Con Tryz.prog 49 #[.agg vs_c.toArray,Sr name,I epoch] G [] (fun u G' L'=>∃ (a1:Option Addr) (c2:Nat) (a3:Option Addr) (c4:Nat),u = .tuple #[.agg #[I (((JbB c name epoch).1).head.epoch),U (((JbB c name epoch).1).head.root),U (((JbB c name epoch).1).head.prev),I (((JbB c name epoch).1).head.at_),Sr (((JbB c name epoch).1).proof.name),Sl a1 ((((JbB c name epoch).1).proof.entries).length) c2,Sl a3 ((((JbB c name epoch).1).proof.sides).length) c4],I ((JbB c name epoch).2)] ∧ (rI (((JbB c name epoch).1).head.epoch)) ∧ (rU (((JbB c name epoch).1).head.root)) ∧ (rU (((JbB c name epoch).1).head.prev)) ∧ (rI (((JbB c name epoch).1).head.at_)) ∧ ((((JbB c name epoch).1).proof.name).length ≤ 140737488351232) ∧ (RS Jbh G' a1 c2 (((JbB c name epoch).1).proof.entries)) ∧ (RS EU G' a3 c4 (((JbB c name epoch).1).proof.sides)) ∧ L' = []):=by
 obtain ⟨a1,c1,a2,c2,a3,c3,rfl,w1,hs1,w2,w3,w4,hs2,hs3⟩:=h_c
 refine JL Tryz.func49 38 [(0,(JaL c a1 c1 a2 c2 a3 c3)),(1,Sr name),(2,I epoch)] rfl (fun w0 G0=>?_)
 refine Je (Jb ?_)
 refine Ju 3 #[I c.queue.most,Sl a1 c.queue.wait.length c1,I c.batch,I c.every,I c.now,Sl a2 c.heads.length c2,Sl a3 c.books.length c3] 34 (fun b1=>?_)
 refine Ju 6 #[I 0,U 0,U 0,I 0,Sr ([]),Sl none 0 0,Sl none 0 0] 70 (fun b2=>?_)
 refine Jd [0] [(1,Sr name),(2,I epoch),(3,Pt b1 0),(6,Pt b2 0)] (Jc (Ja (Je (Jb ?_))))
 refine Jd [4,0] [(1,Sr name),(2,I epoch),(3,Pt b1 0),(6,Pt b2 0),(12,(JaL c a1 c1 a2 c2 a3 c3)),(13,I epoch)] ?_
 refine JN 14 (Jka G (Jal c a1 c1 a2 c2 a3 c3) c (⟨a1,c1,a2,c2,a3,c3,rfl,w1,hs1,w2,w3,w4,hs2,hs3⟩) epoch hw_epoch) (fun v G1 L1 hl1 hp=>?_)
 obtain ⟨a4,c4,_,rfl,hr1,rfl⟩:=hp
 refine Jd [0,0,0,0,0] [(1,Sr name),(2,I epoch),(3,Pt b1 0),(6,Pt b2 0),(8,Sl a4 (((Jan c epoch).1).length) c4),(9,I ((Jan c epoch).2))] (Jc (Ja (Je ?_)))
 refine Jg [0,0] [(1,Sr name),(2,I epoch),(3,Pt b1 0),(6,Pt b2 0),(8,Sl a4 (((Jan c epoch).1).length) c4),(9,I ((Jan c epoch).2)),(18,Bo (!decide ((Jan c epoch).2 = 0)))] ?_
 refine Jo (!decide ((Jan c epoch).2 = 0)) (fun h1=>?_) (fun h1=>?_)
 try simp only [BB] at h1
 refine Jg [0,0,5,0] [(6,Pt b2 0),(7,I ((Jan c epoch).2))] (Jk (Jh ?_))
 have hf1:JbB c name epoch = ((⟨(⟨0,0,0,0⟩:JS),(⟨[],[],[]⟩:JcD)⟩:Jct),(Jan c epoch).2):=by
  unfold JbB Jib;(rw [if_pos ‹_›];rfl)
 refine Jl [1,0] [.agg #[I 0,U 0,U 0,I 0,Sr ([]),Sl none 0 0,Sl none 0 0],I ((Jan c epoch).2)] (JY [] (.cons _ (.cons _ (.cons _ .slnil))) hl1 ?_)
 rw [hf1]
 try dsimp only
 exact ⟨none,0,none,0,rfl,(by omega),(by omega),(by omega),(by omega),(Nat.le_of_ble_eq_true rfl),(RS.nil' Jbh G1),(RS.nil' EU G1),rfl⟩
 try simp only [BB] at h1
 refine Jn (Ja (Je (Jb ?_)))
 refine Jd [0,0] [(2,I epoch),(3,Pt b1 0),(6,Pt b2 0),(9,I ((Jan c epoch).2)),(22,Sl a4 (((Jan c epoch).1).length) c4),(23,Sr name)] ?_
 refine Jer (E:=Jbh) 0 hr1 (by have q_:=JqA c epoch;simp only [Jbh];omega) (fun G2 hl2 hs4=>?_)
 refine JN 24 (JjY G2 a4 c4 ((Jan c epoch).1) hs4 name hw_name) (fun v G3 L1 hl3 hp=>?_)
 obtain ⟨a5,c5,a6,c6,rfl,w5,hs5,hs6,rfl⟩:=hp
 refine Jd [0,0,0] [(2,I epoch),(3,Pt b1 0),(6,Pt b2 0),(9,I ((Jan c epoch).2)),(25,(Jdv (JaM ((Jan c epoch).1) name).1 a5 c5 a6 c6)),(26,I ((JaM ((Jan c epoch).1) name).2))] ?_
 refine Ju 10 #[Sr ([]),Sl none 0 0,Sl none 0 0] 68 (fun b3=>?_)
 refine Jaa [3,0] [(2,I epoch),(3,Pt b1 0),(6,Pt b2 0),(9,I ((JaM ((Jan c epoch).1) name).2)),(10,Pt b3 0)] [[Sg b3 0 (Jc8 (JaM ((Jan c epoch).1) name).1 a5 c5 a6 c6)],[],[Sg b2 0 [I 0,U 0,U 0,I 0,Sr ([]),Sl none 0 0,Sl none 0 0]],[Sg b1 0 (Jal c a1 c1 a2 c2 a3 c3)]] (Jc (Ja (Je ?_)))
 refine Jg [0,0] [(2,I epoch),(3,Pt b1 0),(6,Pt b2 0),(9,I ((JaM ((Jan c epoch).1) name).2)),(10,Pt b3 0),(28,Bo (!decide ((JaM ((Jan c epoch).1) name).2 = 0)))] ?_
 refine Jo (!decide ((JaM ((Jan c epoch).1) name).2 = 0)) (fun h2=>?_) (fun h2=>?_)
 try simp only [BB] at h2
 refine Jg [0,0,7,0] [(6,Pt b2 0),(7,I ((JaM ((Jan c epoch).1) name).2))] (Jk (Jh ?_))
 have hf2:JbB c name epoch = ((⟨(⟨0,0,0,0⟩:JS),(⟨[],[],[]⟩:JcD)⟩:Jct),(JaM ((Jan c epoch).1) name).2):=by
  unfold JbB Jib;(rw [if_neg (by omega)];(rw [if_pos ‹_›];rfl))
 refine Jl [2,0] [.agg #[I 0,U 0,U 0,I 0,Sr ([]),Sl none 0 0,Sl none 0 0],I ((JaM ((Jan c epoch).1) name).2)] (JY [] (.cons _ (.cons _ (.cons _ (.cons _ .slnil)))) (Jt.le_trans (Jt.le_trans hl1 hl2) hl3) ?_)
 rw [hf2]
 try dsimp only
 exact ⟨none,0,none,0,rfl,(by omega),(by omega),(by omega),(by omega),(Nat.le_of_ble_eq_true rfl),(RS.nil' Jbh G3),(RS.nil' EU G3),rfl⟩
 try simp only [BB] at h2
 refine Jn (Ja ?_)
 obtain ⟨kn1,hkn1⟩:∃ k_:Nat,epoch = (k_:Int):=⟨(epoch).toNat,by (have q_:=JhD (c:=c) ‹_›;have q1_:=q_.1.len;omega)⟩
 have e1:epoch = (kn1:Int):=hkn1
 refine JaJ (fr':=[(2,I (kn1:Int)),(3,Pt b1 0),(6,Pt b2 0),(9,I ((JaM ((Jan c epoch).1) name).2)),(10,Pt b3 0),(28,Bo (!decide ((JaM ((Jan c epoch).1) name).2 = 0)))]) (L':=[[Sg b3 0 [Sr (((JaM ((Jan c epoch).1) name).1).name),Sl a5 ((((JaM ((Jan c epoch).1) name).1).entries).length) c5,Sl a6 ((((JaM ((Jan c epoch).1) name).1).sides).length) c6]],[],[Sg b2 0 [I 0,U 0,U 0,I 0,Sr ([]),Sl none 0 0,Sl none 0 0]],[Sg b1 0 [I c.queue.most,Sl a1 c.queue.wait.length c1,I c.batch,I c.every,I c.now,Sl a2 c.heads.length c2,Sl a3 c.books.length c3]]]) (by (simp only [Jal,Jc8,JcK,JaL,Jdv,Jcp,e1];first | done | rfl)) (by rfl) ?_
 refine Je ?_
 obtain ⟨b4,o1,rfl⟩:=RS.addr (hs2.mono (Jt.le_trans (Jt.le_trans hl1 hl2) hl3)) (k:=kn1) (by (have q_:=JhD (c:=c) ‹_›;have q1_:=q_.1.len;omega))
 obtain ⟨x1,hx1⟩:=Jb1 (l:=c.heads) (k:=kn1) (by (have q_:=JhD (c:=c) ‹_›;have q1_:=q_.1.len;omega))
 obtain ⟨_,⟨rfl,w6,w7,w8,w9⟩,hc1⟩:=RS.get (hs2.mono (Jt.le_trans (Jt.le_trans hl1 hl2) hl3)) hx1
 refine Jau [7] ?_
 refine Jb6 [(0,Pt b1 5),(1,Sl (At b4 o1) c.heads.length c2),(2,I (kn1:Int)),(3,Pt b4 (o1 + kn1 * 4)),(4,.agg #[I x1.epoch,U x1.root,U x1.prev,I x1.at_]),(5,(Jdv (JaM ((Jan c epoch).1) name).1 a5 c5 a6 c6)),(6,(Jcp (⟨x1,(JaM ((Jan c epoch).1) name).1⟩:Jct) a5 c5 a6 c6))] ?_
 refine JZ [] [(0,0),(1,8),(2,0),(5,2),(6,0)] [3,4] [7] (List.forall_mem_cons.2 ⟨?_,(List.forall_mem_cons.2 ⟨?_,List.forall_mem_nil _⟩)⟩) (List.forall_mem_cons.2 ⟨?_,List.forall_mem_nil _⟩)
 refine Jq 3 34 (Pt b4 (o1 + kn1 * 4)) [(32,Sl (At b4 o1) c.heads.length c2),(33,I (kn1:Int))] (fun X=>?_)
 exact Jac (b:=b4) (off:=o1) (len:=c.heads.length) (cap:=c2) (ik:=.i64) 34 50 4 kn1 (by (have q_:=JhD (c:=c) ‹_›;have q1_:=q_.1.len;omega)) Jm
 refine Jq 4 35 (.agg #[I x1.epoch,U x1.root,U x1.prev,I x1.at_]) [(34,Pt b4 (o1 + kn1 * 4))] (fun X=>?_)
 exact J6 35 50 (cs:=[I x1.epoch,U x1.root,U x1.prev,I x1.at_]) 0 (.agg #[I x1.epoch,U x1.root,U x1.prev,I x1.at_]) hc1 Jm
 refine JP 7 [(6,Pt b2 0),(37,(Jcp (⟨x1,(JaM ((Jan c epoch).1) name).1⟩:Jct) a5 c5 a6 c6))] (fun X=>?_)
 refine JaU 2 [[Sg b3 0 (Jc8 (JaM ((Jan c epoch).1) name).1 a5 c5 a6 c6)],[],[Sg b2 0 (JcK (⟨x1,(JaM ((Jan c epoch).1) name).1⟩:Jct) a5 c5 a6 c6)],[Sg b1 0 (Jal c a1 c1 (At b4 o1) c2 a3 c3)]] ?_
 refine Jao [(8,I 0)] ?_
 refine Jav [0,1,2,3,4,5,6] [(8,0)] [] [(6,Pt b2 0),(7,I 0)] (List.forall_mem_nil _) ?_
 refine Ja (Jk ?_)
 have hf3:JbB c name epoch = ((⟨x1,((JaM ((Jan c epoch).1) name).1)⟩:Jct),0):=by
  unfold JbB Jib;(rw [if_neg (by omega)];(rw [if_neg (by simp_all)];simp_all;done))
 refine Jl [2,0] [(Jcp (⟨x1,(JaM ((Jan c epoch).1) name).1⟩:Jct) a5 c5 a6 c6),I 0] (JY [] (.cons _ (.cons _ (.cons _ (.cons _ .slnil)))) (Jt.le_trans (Jt.le_trans hl1 hl2) hl3) ?_)
 rw [hf3]
 try dsimp only
 exact ⟨a5,c5,a6,c6,rfl,w6,w7,w8,w9,w5,hs5,hs6,rfl⟩
end Go.Proofs.YtnnlpbjdignhaaaGreatDoor
