import Derived.Test.YtnnlpbjdignhaaaGreatDoorTcClerk
namespace Go.Proofs.YtnnlpbjdignhaaaGreatDoor
open Go.Tx
set_option linter.unusedVariables false
set_option linter.unusedSimpArgs false
open Go.Tx Go.Proofs
def JcJ:WC:=⟨WY,JcC⟩
def Kl (c:Kw) (name:List UInt8) (epoch:Int):WC×Int:=if ¬ (Kb c epoch).2=0 then (JcJ,(Kb c epoch).2) else if ¬ (Ky (Kb c epoch).1 name).2=0 then (JcJ,(Ky (Kb c epoch).1 name).2) else (⟨c.heads[epoch.toNat]?.getD WY,(Ky (Kb c epoch).1 name).1⟩,0)
theorem JlE {c:Kw} {name:List UInt8} {e:Int} (h:(Kl c name e).2=0):(Kb c e).2=0∧JI (Kl c name e).1=K7 (Kb c e).1 name∧(K7 (Kb c e).1 name).2.2=0∧(Kl c name e).1.head.epoch=e:=by
 unfold Kl at h ⊢
 split at h
 ·
  contradiction
 split at h
 ·
  contradiction
 ·
  rename_i h1 h2
  rw [if_neg h1,if_neg h2]
  have b1:=Decidable.not_not.1 h1
  have b2:=Decidable.not_not.1 h2
  obtain ⟨ok,e0,e1,hx⟩:=JaB b1
  obtain ⟨q1,q2,q3,q4⟩:=Jkf b2
  obtain ⟨r1,r2⟩:=ok.root _ _ hx
  have hl:e.toNat<c.heads.length:=by rw [← ok.len];omega
  have hh:c.heads[e.toNat]? = some c.heads[e.toNat]:=List.getElem?_eq_getElem hl
  have hc:=ok.chain.ok _ (List.getElem_mem hl)
  have he:=ok.chain.epoch _ _ hh
  rw [hh] at r2 ⊢
  simp only [Option.getD_some] at r2 ⊢
  refine ⟨b1,?_,q3,?_⟩
  ·
   unfold JI
   simp only
   rw [if_neg (by rw [hc];simp),← r2]
   exact q2
  ·
   rw [he,ok.first];omega
theorem Jbu (G:Jt) (vs_c:List Value) (c:Kw) (h_c:VE.R G vs_c c) (name:List UInt8) (hw_name:(name).length≤140737488351232) (epoch:Int) (hw_epoch:rI epoch) :QF Tryz.prog 49 #[.agg vs_c.toArray,Sr name,I epoch] G [] (fun u G' L'=>∃ (a1:Option Addr) (c2:Nat) (a3:Option Addr) (c4:Nat),u=.tuple #[.agg #[I (((Kl c name epoch).1).head.epoch),U (((Kl c name epoch).1).head.root),U (((Kl c name epoch).1).head.prev),I (((Kl c name epoch).1).head.at_),Sr (((Kl c name epoch).1).proof.name),Sl a1 ((((Kl c name epoch).1).proof.entries).length) c2,Sl a3 ((((Kl c name epoch).1).proof.sides).length) c4],I ((Kl c name epoch).2)]∧(rI (((Kl c name epoch).1).head.epoch))∧(rU (((Kl c name epoch).1).head.root))∧(rU (((Kl c name epoch).1).head.prev))∧(rI (((Kl c name epoch).1).head.at_))∧((((Kl c name epoch).1).proof.name).length≤140737488351232)∧(RS Qo G' a1 c2 (((Kl c name epoch).1).proof.entries))∧(RS EU G' a3 c4 (((Kl c name epoch).1).proof.sides))∧L'=[]):=by
 obtain ⟨a1,c1,a2,c2,a3,c3,rfl,w1,hs1,w2,w3,w4,hs2,hs3⟩:=h_c
 refine JJ Tryz.func49 38 [(0,(KW c a1 c1 a2 c2 a3 c3)),(1,Sr name),(2,I epoch)] rfl (fun w0 G0=>?_)
 refine Je (Jb (Ju 3 #[I c.queue.most,Sl a1 c.queue.wait.length c1,I c.batch,I c.every,I c.now,Sl a2 c.heads.length c2,Sl a3 c.books.length c3] 34 (fun b1=>Ju 6 #[I 0,U 0,U 0,I 0,Sr ([]),Sl none 0 0,Sl none 0 0] 70 (fun b2=>Jd [0] [(1,Sr name),(2,I epoch),(3,Pt b1 0),(6,Pt b2 0)] (Jc (Ja (Je (Jb (Jd [4,0] [(1,Sr name),(2,I epoch),(3,Pt b1 0),(6,Pt b2 0),(12,(KW c a1 c1 a2 c2 a3 c3)),(13,I epoch)] (JQ 14 (JeL G (Kn c a1 c1 a2 c2 a3 c3) c (⟨a1,c1,a2,c2,a3,c3,rfl,w1,hs1,w2,w3,w4,hs2,hs3⟩) epoch hw_epoch) (fun v G1 L1 hl1 hp=>?_)))))))))))
 obtain ⟨a4,c4,_,rfl,hr1,rfl⟩:=hp
 refine Jd [0,0,0,0,0] [(1,Sr name),(2,I epoch),(3,Pt b1 0),(6,Pt b2 0),(8,Sl a4 (((Kb c epoch).1).length) c4),(9,I ((Kb c epoch).2))] (Jc (Ja (Je (Jg [0,0] [(1,Sr name),(2,I epoch),(3,Pt b1 0),(6,Pt b2 0),(8,Sl a4 (((Kb c epoch).1).length) c4),(9,I ((Kb c epoch).2)),(18,Bo (!decide ((Kb c epoch).2=0)))] (Jo (!decide ((Kb c epoch).2=0)) (fun h1=>?_) (fun h1=>?_))))))
 try simp only [BB] at h1
 refine Jg [0,0,5,0] [(6,Pt b2 0),(7,I ((Kb c epoch).2))] (Jk (Jh ?_))
 have hf1:Kl c name epoch=((⟨(⟨0,0,0,0⟩:JR),(⟨[],[],[]⟩:Wy)⟩:WC),(Kb c epoch).2):=by
  unfold Kl JcJ;(rw [if_pos ‹_›];rfl)
 refine Jl [1,0] [.agg #[I 0,U 0,U 0,I 0,Sr ([]),Sl none 0 0,Sl none 0 0],I ((Kb c epoch).2)] (JY [] (.cons _ (.cons _ (.cons _ .slnil))) hl1 ?_)
 rw [hf1]
 try dsimp only
 exact ⟨none,0,none,0,rfl,(by omega),(by omega),(by omega),(by omega),(Nat.le_of_ble_eq_true rfl),(RS.nil' Qo G1),(RS.nil' EU G1),rfl⟩
 try simp only [BB] at h1
 refine Jm (Ja (Je (Jb (Jd [0,0] [(2,I epoch),(3,Pt b1 0),(6,Pt b2 0),(9,I ((Kb c epoch).2)),(22,Sl a4 (((Kb c epoch).1).length) c4),(23,Sr name)] (YB (E:=Qo) 0 hr1 (by have q_:=JlB c epoch;simp only [Qo];omega) (fun G2 hl2 hs4=>JQ 24 (Jez G2 a4 c4 ((Kb c epoch).1) hs4 name hw_name) (fun v G3 L1 hl3 hp=>?_)))))))
 obtain ⟨a5,c5,a6,c6,rfl,w5,hs5,hs6,rfl⟩:=hp
 refine Jd [0,0,0] [(2,I epoch),(3,Pt b1 0),(6,Pt b2 0),(9,I ((Kb c epoch).2)),(25,(ZF (Ky ((Kb c epoch).1) name).1 a5 c5 a6 c6)),(26,I ((Ky ((Kb c epoch).1) name).2))] (Ju 10 #[Sr ([]),Sl none 0 0,Sl none 0 0] 68 (fun b3=>Kd [3,0] [(2,I epoch),(3,Pt b1 0),(6,Pt b2 0),(9,I ((Ky ((Kb c epoch).1) name).2)),(10,Pt b3 0)] [[Sg b3 0 (Ze (Ky ((Kb c epoch).1) name).1 a5 c5 a6 c6)],[],[Sg b2 0 [I 0,U 0,U 0,I 0,Sr ([]),Sl none 0 0,Sl none 0 0]],[Sg b1 0 (Kn c a1 c1 a2 c2 a3 c3)]] (Jc (Ja (Je (Jg [0,0] [(2,I epoch),(3,Pt b1 0),(6,Pt b2 0),(9,I ((Ky ((Kb c epoch).1) name).2)),(10,Pt b3 0),(28,Bo (!decide ((Ky ((Kb c epoch).1) name).2=0)))] (Jo (!decide ((Ky ((Kb c epoch).1) name).2=0)) (fun h2=>?_) (fun h2=>?_))))))))
 try simp only [BB] at h2
 refine Jg [0,0,7,0] [(6,Pt b2 0),(7,I ((Ky ((Kb c epoch).1) name).2))] (Jk (Jh ?_))
 have hf2:Kl c name epoch=((⟨(⟨0,0,0,0⟩:JR),(⟨[],[],[]⟩:Wy)⟩:WC),(Ky ((Kb c epoch).1) name).2):=by
  unfold Kl JcJ;(rw [if_neg (by omega)];(rw [if_pos ‹_›];rfl))
 refine Jl [2,0] [.agg #[I 0,U 0,U 0,I 0,Sr ([]),Sl none 0 0,Sl none 0 0],I ((Ky ((Kb c epoch).1) name).2)] (JY [] (.cons _ (.cons _ (.cons _ (.cons _ .slnil)))) (Jt.le_trans (Jt.le_trans hl1 hl2) hl3) ?_)
 rw [hf2]
 try dsimp only
 exact ⟨none,0,none,0,rfl,(by omega),(by omega),(by omega),(by omega),(Nat.le_of_ble_eq_true rfl),(RS.nil' Qo G3),(RS.nil' EU G3),rfl⟩
 try simp only [BB] at h2
 refine Jm (Ja ?_)
 obtain ⟨kn1,hkn1⟩:∃ k_:Nat,epoch=(k_:Int):=⟨(epoch).toNat,by (have q_:=JaB (c:=c) ‹_›;have q1_:=q_.1.len;omega)⟩
 have e1:epoch=(kn1:Int):=hkn1
 refine KQ (fr':=[(2,I (kn1:Int)),(3,Pt b1 0),(6,Pt b2 0),(9,I ((Ky ((Kb c epoch).1) name).2)),(10,Pt b3 0),(28,Bo (!decide ((Ky ((Kb c epoch).1) name).2=0)))]) (L':=[[Sg b3 0 [Sr (((Ky ((Kb c epoch).1) name).1).name),Sl a5 ((((Ky ((Kb c epoch).1) name).1).entries).length) c5,Sl a6 ((((Ky ((Kb c epoch).1) name).1).sides).length) c6]],[],[Sg b2 0 [I 0,U 0,U 0,I 0,Sr ([]),Sl none 0 0,Sl none 0 0]],[Sg b1 0 [I c.queue.most,Sl a1 c.queue.wait.length c1,I c.batch,I c.every,I c.now,Sl a2 c.heads.length c2,Sl a3 c.books.length c3]]]) (by (simp only [Kn,Ze,WV,KW,ZF,WD,e1];first | done | rfl)) (by rfl) (Je ?_)
 obtain ⟨b4,o1,rfl⟩:=RS.addr (hs2.mono (Jt.le_trans (Jt.le_trans hl1 hl2) hl3)) (k:=kn1) (by (have q_:=JaB (c:=c) ‹_›;have q1_:=q_.1.len;omega))
 obtain ⟨x1,hx1⟩:=Wh (l:=c.heads) (k:=kn1) (by (have q_:=JaB (c:=c) ‹_›;have q1_:=q_.1.len;omega))
 obtain ⟨_,⟨rfl,w6,w7,w8,w9⟩,hc1⟩:=RS.get (hs2.mono (Jt.le_trans (Jt.le_trans hl1 hl2) hl3)) hx1
 refine KB [7] (Wr [(0,Pt b1 5),(1,Sl (At b4 o1) c.heads.length c2),(2,I (kn1:Int)),(3,Pt b4 (o1+kn1*4)),(4,.agg #[I x1.epoch,U x1.root,U x1.prev,I x1.at_]),(5,(ZF (Ky ((Kb c epoch).1) name).1 a5 c5 a6 c6)),(6,(WD (⟨x1,(Ky ((Kb c epoch).1) name).1⟩:WC) a5 c5 a6 c6))] (J1 [] [(0,0),(1,8),(2,0),(5,2),(6,0)] [3,4] [7] (List.forall_mem_cons.2 ⟨?_,(List.forall_mem_cons.2 ⟨?_,List.forall_mem_nil _⟩)⟩) (List.forall_mem_cons.2 ⟨?_,List.forall_mem_nil _⟩)))
 refine Jr 3 34 (Pt b4 (o1+kn1*4)) [(32,Sl (At b4 o1) c.heads.length c2),(33,I (kn1:Int))] (fun X=>?_)
 exact Kh (b:=b4) (off:=o1) (len:=c.heads.length) (cap:=c2) (ik:=.i64) 34 50 4 kn1 (by (have q_:=JaB (c:=c) ‹_›;have q1_:=q_.1.len;omega)) Jp
 refine Jr 4 35 (.agg #[I x1.epoch,U x1.root,U x1.prev,I x1.at_]) [(34,Pt b4 (o1+kn1*4))] (fun X=>?_)
 exact Ka 35 50 (cs:=[I x1.epoch,U x1.root,U x1.prev,I x1.at_]) 0 (.agg #[I x1.epoch,U x1.root,U x1.prev,I x1.at_]) hc1 Jp
 refine JS 7 [(6,Pt b2 0),(37,(WD (⟨x1,(Ky ((Kb c epoch).1) name).1⟩:WC) a5 c5 a6 c6))] (fun X=>?_)
 refine K2 2 [[Sg b3 0 (Ze (Ky ((Kb c epoch).1) name).1 a5 c5 a6 c6)],[],[Sg b2 0 (WV (⟨x1,(Ky ((Kb c epoch).1) name).1⟩:WC) a5 c5 a6 c6)],[Sg b1 0 (Kn c a1 c1 (At b4 o1) c2 a3 c3)]] (Kp [(8,I 0)] (KA [0,1,2,3,4,5,6] [(8,0)] [] [(6,Pt b2 0),(7,I 0)] (List.forall_mem_nil _) (Ja (Jk ?_))))
 have hf3:Kl c name epoch=((⟨x1,((Ky ((Kb c epoch).1) name).1)⟩:WC),0):=by
  unfold Kl JcJ;(rw [if_neg (by omega)];(rw [if_neg (by simp_all)];simp_all;done))
 refine Jl [2,0] [(WD (⟨x1,(Ky ((Kb c epoch).1) name).1⟩:WC) a5 c5 a6 c6),I 0] (JY [] (.cons _ (.cons _ (.cons _ (.cons _ .slnil)))) (Jt.le_trans (Jt.le_trans hl1 hl2) hl3) ?_)
 rw [hf3]
 try dsimp only
 exact ⟨a5,c5,a6,c6,rfl,w6,w7,w8,w9,w5,hs5,hs6,rfl⟩
end Go.Proofs.YtnnlpbjdignhaaaGreatDoor
