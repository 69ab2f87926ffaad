import Derived.Test.YtnnlpbjdignhaaaGreatDoorTfClerk
namespace Go.Proofs.YtnnlpbjdignhaaaGreatDoor
open Go.Tx
set_option linter.unusedVariables false
set_option linter.unusedSimpArgs false
open Go.Tx Go.Proofs
def Jci:Wv:=⟨WX,Jcc⟩
def QD (c:KF) (name:List UInt8) (epoch:Int):Wv×Int:=if ¬ (Km c epoch).2=0 then (Jci,(Km c epoch).2) else if ¬ (KL (Km c epoch).1 name).2=0 then (Jci,(KL (Km c epoch).1 name).2) else (⟨c.heads[epoch.toNat]?.getD WX,(KL (Km c epoch).1 name).1⟩,0)
theorem Ja4 (G:Jt) (vs_c:List Value) (c:KF) (h_c:Vo.R G vs_c c) (name:List UInt8) (hw_name:(name).length≤140737488351232) (epoch:Int) (hw_epoch:rI epoch) :QE Tryz.prog 49 #[.agg vs_c.toArray,Sr name,I epoch] G [] (fun u G' L'=>∃ (a1:Option Addr) (c2:Nat) (a3:Option Addr) (c4:Nat),u=.tuple #[.agg #[I (((QD c name epoch).1).head.epoch),U (((QD c name epoch).1).head.root),U (((QD c name epoch).1).head.prev),I (((QD c name epoch).1).head.at_),Sr (((QD c name epoch).1).proof.name),Sl a1 ((((QD c name epoch).1).proof.entries).length) c2,Sl a3 ((((QD c name epoch).1).proof.sides).length) c4],I ((QD c name epoch).2)]∧(rI (((QD c name epoch).1).head.epoch))∧(rU (((QD c name epoch).1).head.root))∧(rU (((QD c name epoch).1).head.prev))∧(rI (((QD c name epoch).1).head.at_))∧((((QD c name epoch).1).proof.name).length≤140737488351232)∧(RS Qj G' a1 c2 (((QD c name epoch).1).proof.entries))∧(RS EU G' a3 c4 (((QD c name epoch).1).proof.sides))∧L'=[]):=by
 obtain ⟨a1,c1,a2,c2,a3,c3,rfl,w1,hs1,w2,w3,w4,hs2,hs3⟩:=h_c
 refine JL Tryz.func49 38 [(0,(KP c a1 c1 a2 c2 a3 c3)),(1,Sr name),(2,I epoch)] rfl (fun w0 G0=>?_)
 refine Je (Jb ?_)
 refine Ju 3 #[I c.queue.most,Sl a1 c.queue.wait.length c1,I c.batch,I c.every,I c.now,Sl a2 c.heads.length c2,Sl a3 c.books.length c3] 34 (fun b1=>?_)
 refine Ju 6 #[I 0,U 0,U 0,I 0,Sr ([]),Sl none 0 0,Sl none 0 0] 70 (fun b2=>?_)
 refine Jc [0] [(1,Sr name),(2,I epoch),(3,Pt b1 0),(6,Pt b2 0)] (Jd (Ja (Je (Jb ?_))))
 refine Jc [4,0] [(1,Sr name),(2,I epoch),(3,Pt b1 0),(6,Pt b2 0),(12,(KP c a1 c1 a2 c2 a3 c3)),(13,I epoch)] ?_
 refine JN 14 (Jeg G (Kn c a1 c1 a2 c2 a3 c3) c (⟨a1,c1,a2,c2,a3,c3,rfl,w1,hs1,w2,w3,w4,hs2,hs3⟩) epoch hw_epoch) (fun v G1 L1 hl1 hp=>?_)
 obtain ⟨a4,c4,_,rfl,hr1,rfl⟩:=hp
 refine Jc [0,0,0,0,0] [(1,Sr name),(2,I epoch),(3,Pt b1 0),(6,Pt b2 0),(8,Sl a4 (((Km c epoch).1).length) c4),(9,I ((Km c epoch).2))] (Jd (Ja (Je ?_)))
 refine Jg [0,0] [(1,Sr name),(2,I epoch),(3,Pt b1 0),(6,Pt b2 0),(8,Sl a4 (((Km c epoch).1).length) c4),(9,I ((Km c epoch).2)),(18,Bo (!decide ((Km c epoch).2=0)))] ?_
 refine Jo (!decide ((Km c epoch).2=0)) (fun h1=>?_) (fun h1=>?_)
 try simp only [BB] at h1
 refine Jg [0,0,5,0] [(6,Pt b2 0),(7,I ((Km c epoch).2))] (Jk (Jh ?_))
 have hf1:QD c name epoch=((⟨(⟨0,0,0,0⟩:JU),(⟨[],[],[]⟩:WF)⟩:Wv),(Km c epoch).2):=by
  unfold QD Jci;(rw [if_pos ‹_›];rfl)
 refine Jl [1,0] [.agg #[I 0,U 0,U 0,I 0,Sr ([]),Sl none 0 0,Sl none 0 0],I ((Km c epoch).2)] (JY [] (.cons _ (.cons _ (.cons _ .slnil))) hl1 ?_)
 rw [hf1]
 try dsimp only
 exact ⟨none,0,none,0,rfl,(by omega),(by omega),(by omega),(by omega),(Nat.le_of_ble_eq_true rfl),(RS.nil' Qj G1),(RS.nil' EU G1),rfl⟩
 try simp only [BB] at h1
 refine Jm (Ja (Je (Jb ?_)))
 refine Jc [0,0] [(2,I epoch),(3,Pt b1 0),(6,Pt b2 0),(9,I ((Km c epoch).2)),(22,Sl a4 (((Km c epoch).1).length) c4),(23,Sr name)] ?_
 refine Ys (E:=Qj) 0 hr1 (by have q_:=JkK c epoch;simp only [Qj];omega) (fun G2 hl2 hs4=>?_)
 refine JN 24 (Jd4 G2 a4 c4 ((Km c epoch).1) hs4 name hw_name) (fun v G3 L1 hl3 hp=>?_)
 obtain ⟨a5,c5,a6,c6,rfl,w5,hs5,hs6,rfl⟩:=hp
 refine Jc [0,0,0] [(2,I epoch),(3,Pt b1 0),(6,Pt b2 0),(9,I ((Km c epoch).2)),(25,(Zv (KL ((Km c epoch).1) name).1 a5 c5 a6 c6)),(26,I ((KL ((Km c epoch).1) name).2))] ?_
 refine Ju 10 #[Sr ([]),Sl none 0 0,Sl none 0 0] 68 (fun b3=>?_)
 refine Kb [3,0] [(2,I epoch),(3,Pt b1 0),(6,Pt b2 0),(9,I ((KL ((Km c epoch).1) name).2)),(10,Pt b3 0)] [[Sg b3 0 (W7 (KL ((Km c epoch).1) name).1 a5 c5 a6 c6)],[],[Sg b2 0 [I 0,U 0,U 0,I 0,Sr ([]),Sl none 0 0,Sl none 0 0]],[Sg b1 0 (Kn c a1 c1 a2 c2 a3 c3)]] (Jd (Ja (Je ?_)))
 refine Jg [0,0] [(2,I epoch),(3,Pt b1 0),(6,Pt b2 0),(9,I ((KL ((Km c epoch).1) name).2)),(10,Pt b3 0),(28,Bo (!decide ((KL ((Km c epoch).1) name).2=0)))] ?_
 refine Jo (!decide ((KL ((Km c epoch).1) name).2=0)) (fun h2=>?_) (fun h2=>?_)
 try simp only [BB] at h2
 refine Jg [0,0,7,0] [(6,Pt b2 0),(7,I ((KL ((Km c epoch).1) name).2))] (Jk (Jh ?_))
 have hf2:QD c name epoch=((⟨(⟨0,0,0,0⟩:JU),(⟨[],[],[]⟩:WF)⟩:Wv),(KL ((Km c epoch).1) name).2):=by
  unfold QD Jci;(rw [if_neg (by omega)];(rw [if_pos ‹_›];rfl))
 refine Jl [2,0] [.agg #[I 0,U 0,U 0,I 0,Sr ([]),Sl none 0 0,Sl none 0 0],I ((KL ((Km c epoch).1) name).2)] (JY [] (.cons _ (.cons _ (.cons _ (.cons _ .slnil)))) (Jt.le_trans (Jt.le_trans hl1 hl2) hl3) ?_)
 rw [hf2]
 try dsimp only
 exact ⟨none,0,none,0,rfl,(by omega),(by omega),(by omega),(by omega),(Nat.le_of_ble_eq_true rfl),(RS.nil' Qj G3),(RS.nil' EU G3),rfl⟩
 try simp only [BB] at h2
 refine Jm (Ja ?_)
 obtain ⟨kn1,hkn1⟩:∃ k_:Nat,epoch=(k_:Int):=⟨(epoch).toNat,by (have q_:=JbK (c:=c) ‹_›;have q1_:=q_.1.len;omega)⟩
 have e1:epoch=(kn1:Int):=hkn1
 refine KJ (fr':=[(2,I (kn1:Int)),(3,Pt b1 0),(6,Pt b2 0),(9,I ((KL ((Km c epoch).1) name).2)),(10,Pt b3 0),(28,Bo (!decide ((KL ((Km c epoch).1) name).2=0)))]) (L':=[[Sg b3 0 [Sr (((KL ((Km c epoch).1) name).1).name),Sl a5 ((((KL ((Km c epoch).1) name).1).entries).length) c5,Sl a6 ((((KL ((Km c epoch).1) name).1).sides).length) c6]],[],[Sg b2 0 [I 0,U 0,U 0,I 0,Sr ([]),Sl none 0 0,Sl none 0 0]],[Sg b1 0 [I c.queue.most,Sl a1 c.queue.wait.length c1,I c.batch,I c.every,I c.now,Sl a2 c.heads.length c2,Sl a3 c.books.length c3]]]) (by (simp only [Kn,W7,WM,KP,Zv,Wr,e1];first | done | rfl)) (by rfl) ?_
 refine Je ?_
 obtain ⟨b4,o1,rfl⟩:=RS.addr (hs2.mono (Jt.le_trans (Jt.le_trans hl1 hl2) hl3)) (k:=kn1) (by (have q_:=JbK (c:=c) ‹_›;have q1_:=q_.1.len;omega))
 obtain ⟨x1,hx1⟩:=Q8 (l:=c.heads) (k:=kn1) (by (have q_:=JbK (c:=c) ‹_›;have q1_:=q_.1.len;omega))
 obtain ⟨_,⟨rfl,w6,w7,w8,w9⟩,hc1⟩:=RS.get (hs2.mono (Jt.le_trans (Jt.le_trans hl1 hl2) hl3)) hx1
 refine Kw [7] ?_
 refine Wa [(0,Pt b1 5),(1,Sl (At b4 o1) c.heads.length c2),(2,I (kn1:Int)),(3,Pt b4 (o1+kn1*4)),(4,.agg #[I x1.epoch,U x1.root,U x1.prev,I x1.at_]),(5,(Zv (KL ((Km c epoch).1) name).1 a5 c5 a6 c6)),(6,(Wr (⟨x1,(KL ((Km c epoch).1) name).1⟩:Wv) a5 c5 a6 c6))] ?_
 refine JZ [] [(0,0),(1,8),(2,0),(5,2),(6,0)] [3,4] [7] (List.forall_mem_cons.2 ⟨?_,(List.forall_mem_cons.2 ⟨?_,List.forall_mem_nil _⟩)⟩) (List.forall_mem_cons.2 ⟨?_,List.forall_mem_nil _⟩)
 refine Jq 3 34 (Pt b4 (o1+kn1*4)) [(32,Sl (At b4 o1) c.heads.length c2),(33,I (kn1:Int))] (fun X=>?_)
 exact Kh (b:=b4) (off:=o1) (len:=c.heads.length) (cap:=c2) (ik:=.i64) 34 50 4 kn1 (by (have q_:=JbK (c:=c) ‹_›;have q1_:=q_.1.len;omega)) Jn
 refine Jq 4 35 (.agg #[I x1.epoch,U x1.root,U x1.prev,I x1.at_]) [(34,Pt b4 (o1+kn1*4))] (fun X=>?_)
 exact J9 35 50 (cs:=[I x1.epoch,U x1.root,U x1.prev,I x1.at_]) 0 (.agg #[I x1.epoch,U x1.root,U x1.prev,I x1.at_]) hc1 Jn
 refine JO 7 [(6,Pt b2 0),(37,(Wr (⟨x1,(KL ((Km c epoch).1) name).1⟩:Wv) a5 c5 a6 c6))] (fun X=>?_)
 refine KQ 2 [[Sg b3 0 (W7 (KL ((Km c epoch).1) name).1 a5 c5 a6 c6)],[],[Sg b2 0 (WM (⟨x1,(KL ((Km c epoch).1) name).1⟩:Wv) a5 c5 a6 c6)],[Sg b1 0 (Kn c a1 c1 (At b4 o1) c2 a3 c3)]] ?_
 refine Kj [(8,I 0)] ?_
 refine Kv [0,1,2,3,4,5,6] [(8,0)] [] [(6,Pt b2 0),(7,I 0)] (List.forall_mem_nil _) ?_
 refine Ja (Jk ?_)
 have hf3:QD c name epoch=((⟨x1,((KL ((Km c epoch).1) name).1)⟩:Wv),0):=by
  unfold QD Jci;(rw [if_neg (by omega)];(rw [if_neg (by simp_all)];simp_all;done))
 refine Jl [2,0] [(Wr (⟨x1,(KL ((Km c epoch).1) name).1⟩:Wv) a5 c5 a6 c6),I 0] (JY [] (.cons _ (.cons _ (.cons _ (.cons _ .slnil)))) (Jt.le_trans (Jt.le_trans hl1 hl2) hl3) ?_)
 rw [hf3]
 try dsimp only
 exact ⟨a5,c5,a6,c6,rfl,w6,w7,w8,w9,w5,hs5,hs6,rfl⟩
end Go.Proofs.YtnnlpbjdignhaaaGreatDoor
