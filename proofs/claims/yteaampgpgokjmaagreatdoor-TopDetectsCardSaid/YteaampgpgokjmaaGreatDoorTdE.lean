import Derived.Test.YteaampgpgokjmaaGreatDoorTdD
set_option linter.unusedVariables false
set_option linter.unusedSimpArgs false
namespace Go.Proofs.YteaampgpgokjmaaGreatDoor
open Go.Tx
open Go.Proofs
set_option maxRecDepth 20000 in
abbrev QE (d:Qc) (kn1:Nat) (t:JL):=JO (Js t (kn1:Int)) d.value
abbrev W9 (d:Qc) (kn1:Nat) (t:JL):=Kv t.town.clerk ((QE d kn1 t).2.1)
abbrev Jbu (d:Qc) (kn1:Nat):=(⟨d.kind,(kn1:Int),d.value,d.fates,d.letter⟩:Qc)
abbrev VN (d:Qc) (kn1:Nat) (t:JL):=JjU (QE d kn1 t).2.1
abbrev z4_4 (d:Qc) (kn1:Nat) (t:JL):=(⟨(⟨((W9 d kn1 t).1),t.town.owners.set kn1 ((QE d kn1 t).1),t.town.polls,t.town.net⟩:Wf),t.reach,t.fates,t.events⟩:JL)
abbrev JcM (d:Qc) (kn1:Nat) (t:JL):=Jij (QE d kn1 t).2.1
set_option maxHeartbeats 1600000 in
theorem JmI (G:Jp) (b:Nat) (t:JL) (a_1:Option Addr) (c_1:Nat) (a_5:Option Addr) (c_5:Nat) (a_6:Option Addr) (c_6:Nat) (a_7:Option Addr) (c_7:Nat) (a_8:Option Addr) (c_8:Nat) (a_10:Option Addr) (c_10:Nat) (a_12:Option Addr) (c_12:Nat) (a_13:Option Addr) (c_13:Nat) (r_7:List Kg) (r_8:List Kg) (r_12:List Kg) (r_13:List Kg) (h_0:rI t.town.clerk.queue.most) (h_1:RS Q3 G a_1 c_1 t.town.clerk.queue.wait) (h_2:rI t.town.clerk.batch) (h_3:rI t.town.clerk.every) (h_4:rI t.town.clerk.now) (h_5:RS KA G a_5 c_5 t.town.clerk.heads) (h_6:RS Qs G a_6 c_6 t.town.clerk.books) (h_7:J0 Q1 G a_7 c_7 t.town.owners r_7) (h_8:J0 Wy G a_8 c_8 t.town.polls r_8) (h_9:rI t.town.net.now) (h_10:RS Kh G a_10 c_10 t.town.net.way) (h_11:rI t.reach) (h_12:J0 Vk G a_12 c_12 t.fates r_12) (h_13:J0 Wn G a_13 c_13 t.events r_13) (vs_d:List Value) (d:Qc) (h_d:WW.R G vs_d d) (hev:t.events.length≤1000000):Jcf 60 #[Pt b 0,.agg vs_d.toArray] G [[Sg b 0 [I t.town.clerk.queue.most,Sl a_1 t.town.clerk.queue.wait.length c_1,I t.town.clerk.batch,I t.town.clerk.every,I t.town.clerk.now,Sl a_5 t.town.clerk.heads.length c_5,Sl a_6 t.town.clerk.books.length c_6,Sl a_7 t.town.owners.length c_7,Sl a_8 t.town.polls.length c_8,I t.town.net.now,Sl a_10 t.town.net.way.length c_10,I t.reach,Sl a_12 t.fates.length c_12,Sl a_13 t.events.length c_13]],r_7,r_8,r_12,r_13] (fun u G' L'=>∃ (a_z1:Option Addr) (c_z1:Nat) (a_z5:Option Addr) (c_z5:Nat) (a_z6:Option Addr) (c_z6:Nat) (a_z7:Option Addr) (c_z7:Nat) (a_z8:Option Addr) (c_z8:Nat) (a_z10:Option Addr) (c_z10:Nat) (a_z12:Option Addr) (c_z12:Nat) (a_z13:Option Addr) (c_z13:Nat) (r_z7:List Kg) (r_z8:List Kg) (r_z12:List Kg) (r_z13:List Kg),u=.tuple #[]∧(rI ((Wg t d).town.clerk.queue.most))∧(RS Q3 G' a_z1 c_z1 ((Wg t d).town.clerk.queue.wait))∧(rI ((Wg t d).town.clerk.batch))∧(rI ((Wg t d).town.clerk.every))∧(rI ((Wg t d).town.clerk.now))∧(RS KA G' a_z5 c_z5 ((Wg t d).town.clerk.heads))∧(RS Qs G' a_z6 c_z6 ((Wg t d).town.clerk.books))∧(J0 Q1 G' a_z7 c_z7 ((Wg t d).town.owners) r_z7)∧(J0 Wy G' a_z8 c_z8 ((Wg t d).town.polls) r_z8)∧(rI ((Wg t d).town.net.now))∧(RS Kh G' a_z10 c_z10 ((Wg t d).town.net.way))∧(rI ((Wg t d).reach))∧(J0 Vk G' a_z12 c_z12 ((Wg t d).fates) r_z12)∧(J0 Wn G' a_z13 c_z13 ((Wg t d).events) r_z13)∧L'=[[Sg b 0 [I ((Wg t d).town.clerk.queue.most),Sl a_z1 (((Wg t d).town.clerk.queue.wait).length) c_z1,I ((Wg t d).town.clerk.batch),I ((Wg t d).town.clerk.every),I ((Wg t d).town.clerk.now),Sl a_z5 (((Wg t d).town.clerk.heads).length) c_z5,Sl a_z6 (((Wg t d).town.clerk.books).length) c_z6,Sl a_z7 (((Wg t d).town.owners).length) c_z7,Sl a_z8 (((Wg t d).town.polls).length) c_z8,I ((Wg t d).town.net.now),Sl a_z10 (((Wg t d).town.net.way).length) c_z10,I ((Wg t d).reach),Sl a_z12 (((Wg t d).fates).length) c_z12,Sl a_z13 (((Wg t d).events).length) c_z13]],r_z7,r_z8,r_z12,r_z13]):=by
 obtain ⟨a1,c1,a2,c2,a3,c3,a4,c4,rfl,_,_,w3,_,_,_,_,_,_,_,_,_,_,_,_,_⟩:=h_d
 intro Lr
 refine JN Tryz.func60 84 [(0,Pt b 0),(1,(Jfh d a1 c1 a2 c2 a3 c3 a4 c4))] rfl (fun w0 G0=>?_)
 show TC _ _ _ _ _ ([Sg b 0 (J6 t a_1 c_1 a_5 c_5 a_6 c_6 a_7 c_7 a_8 c_8 a_10 c_10 a_12 c_12 a_13 c_13)]::r_7::r_8::r_12::r_13::Lr)
 refine Je (Jc (Jv 3 #[I d.kind,I d.who,Sr d.value,Sl a1 d.fates.length c1,I d.letter.to_,I d.letter.from_,I d.letter.since,I d.letter.due,Sl a2 d.letter.heads.length c2,I d.letter.reply.head.epoch,U d.letter.reply.head.root,U d.letter.reply.head.prev,I d.letter.reply.head.at_,Sr d.letter.reply.proof.name,Sl a3 d.letter.reply.proof.entries.length c3,Sl a4 d.letter.reply.proof.sides.length c4] 53 (fun b1=>Jd (Jb (Je (Je (Jc (Ja [0,0,2] [(10,Pt b 0),(12,I d.who)] (Jx 5 (Jx 5 (Jx 5 (Jx 5 (Jx 5 (Qn (Ls:=[[Sg b 0 (J6 t a_1 c_1 a_5 c_5 a_6 c_6 a_7 c_7 a_8 c_8 a_10 c_10 a_12 c_12 a_13 c_13)],r_7,r_8,r_12,r_13]) (Lr:=([Sg b1 0 (WT d a1 c1 a2 c2 a3 c3 a4 c4)]::Lr)) 13 (JbO G b t a_1 c_1 a_5 c_5 a_6 c_6 a_7 c_7 a_8 c_8 a_10 c_10 a_12 c_12 a_13 c_13 r_7 r_8 r_12 r_13 h_0 h_1 h_2 h_3 h_4 h_5 h_6 h_7 h_8 h_9 h_10 h_11 h_12 h_13 d.who) (fun v G1 L1 hl1 hp=>?_)))))))))))))))
 obtain ⟨a5,c5,a6,c6,a7,c7,a8,c8,a9,c9,a10,c10,a11,c11,a12,c12,r1,r2,r3,r4,rfl,w13,hs5,w14,w15,w16,hs6,hs7,hr1,hr2,w17,hs8,w18,hr3,hr4,rfl⟩:=hp
 refine Ja [0] [(14,Bo (!(W8 t d.who)))] (Jd (Jb (Jk (!(W8 t d.who)) (fun h1=>?_) (fun h1=>?_))))
 refine Jl (Jh (Ji 4 (Ji 4 (Ji 4 (Ji 4 (Ji 4 ?_))))))
 have hf1:Wg t d=t:=by
  exact tWant0 ‹_›
 refine Jm [] [] (KQ (Lr:=Lr) [[Sg b 0 (J6 t a5 c5 a6 c6 a7 c7 a8 c8 a9 c9 a10 c10 a11 c11 a12 c12)],r1,r2,r3,r4] hl1 ?_)
 rw [hf1];try dsimp only
 exact ⟨a5,c5,a6,c6,a7,c7,a8,c8,a9,c9,a10,c10,a11,c11,a12,c12,r1,r2,r3,r4,rfl,w13,hs5,w14,w15,w16,hs6,hs7,hr1,hr2,w17,hs8,w18,hr3,hr4,rfl⟩
 refine Jo (Jb ?_)
 have hown:=Jas.1 (show W8 t d.who=true by assumption)
 obtain ⟨kn1,hkn1⟩:∃ k_:Nat,d.who=(k_:Int):=⟨(d.who).toNat,by omega⟩
 have e1:d.who=(kn1:Int):=hkn1
 refine Jcy (L':=([Sg b 0 [I t.town.clerk.queue.most,Sl a5 t.town.clerk.queue.wait.length c5,I t.town.clerk.batch,I t.town.clerk.every,I t.town.clerk.now,Sl a6 t.town.clerk.heads.length c6,Sl a7 t.town.clerk.books.length c7,Sl a8 t.town.owners.length c8,Sl a9 t.town.polls.length c9,I t.town.net.now,Sl a10 t.town.net.way.length c10,I t.reach,Sl a11 t.fates.length c11,Sl a12 t.events.length c12]]::r1::r2::r3::r4::[Sg b1 0 [I d.kind,I (kn1:Int),Sr d.value,Sl a1 d.fates.length c1,I d.letter.to_,I d.letter.from_,I d.letter.since,I d.letter.due,Sl a2 d.letter.heads.length c2,I d.letter.reply.head.epoch,U d.letter.reply.head.root,U d.letter.reply.head.prev,I d.letter.reply.head.at_,Sr d.letter.reply.proof.name,Sl a3 d.letter.reply.proof.entries.length c3,Sl a4 d.letter.reply.proof.sides.length c4]]::Lr)) (by (simp only [Jij,KU,WT,KE,J6,JjU,Qz,Jfh,Ku,e1];first | done | rfl)) (Je ?_)
 have hx1:(t.town.owners)[kn1]? = some (Js t (kn1:Int)):=YI (by omega)
 obtain ⟨b2,o1,_,_,⟨a13,c13,rfl,w19,w20,w21,w22,w23,w24,hs9,w25⟩,ha1,hre1,hc1⟩:=J0.ix hr1 hx1
 refine Ko [] (Wm [(0,Pt b 0),(1,Pt b 0),(2,Pt b 0),(3,Pt b 7),(4,Sl a8 t.town.owners.length c8),(5,Pt b1 1),(6,I (kn1:Int)),(7,Pt b2 (o1+kn1*8)),(8,Pt b2 (o1+kn1*8+6)),(9,Sl a13 (((Js t (kn1:Int)).wanted).length) c13),(10,I ((((Js t (kn1:Int)).wanted).length:Nat):Int)),(11,I ((((Js t (kn1:Int)).wanted).length:Nat):Int))] (Km [] [(0,0),(1,0),(2,0),(3,0),(4,2),(5,0),(6,12),(8,0),(10,0),(11,0)] [7,9] [(0,Pt b 0),(3,Pt b1 0),(4,I ((((Js t (kn1:Int)).wanted).length:Nat):Int))] (Ke ?_ (Ke ?_ K4)) ?_))
 refine Jr 7 22 (Pt b2 (o1+kn1*8)) [(19,Sl a8 t.town.owners.length c8),(21,I (kn1:Int))] (fun X=>?_)
 exact QI (b:=b2) (off:=o1) (len:=t.town.owners.length) (cap:=c8) (ik:=.i64) 22 76 8 kn1 ha1 J7 Jn
 refine Jr 9 24 (Sl a13 (((Js t (kn1:Int)).wanted).length) c13) [(23,Pt b2 (o1+kn1*8+6))] (fun X=>?_)
 exact W5 (off:=o1) (p:=kn1*8) (cs:=(KE (Js t (kn1:Int)) a13 c13)) 24 22 1 6 (Sl a13 (((Js t (kn1:Int)).wanted).length) c13) hre1 hc1 Jn
 refine Jb ?_
 refine Yv (σ:=Nat×Nat×(Option Addr)×Nat×Jp) (fun q_=>(Jp.le G1 q_.2.2.2.2)∧((((QE d kn1 t).2.1).name).length≤140737488351232)∧((((QE d kn1 t).2.1).value).length≤140737488351232)∧(rU (((QE d kn1 t).2.1).n))∧(rU (((QE d kn1 t).2.1).tag))∧((((QE d kn1 t).1).name).length≤140737488351232)∧(rU (((QE d kn1 t).1).key))∧(rI (((QE d kn1 t).1).head.epoch))∧(rU (((QE d kn1 t).1).head.root))∧(rU (((QE d kn1 t).1).head.prev))∧(rI (((QE d kn1 t).1).head.at_))∧(RS ES q_.2.2.2.2 q_.2.2.1 q_.2.2.2.1 (((QE d kn1 t).1).wanted))∧(rI (((QE d kn1 t).1).had))) (fun q_=>[(0,Pt b 0),(3,Pt b1 0),(4,I ((((Js t (kn1:Int)).wanted).length:Nat):Int)),(5,Pt q_.1 0),(6,Pt q_.2.1 0),(7,I ((QE d kn1 t).2.2))]) (fun q_=>q_.2.2.2.2) (fun q_=>([Sg q_.2.1 0 (JcM d kn1 t)]::[Sg q_.1 0 (KE (QE d kn1 t).1 q_.2.2.1 q_.2.2.2.1)]::[Sg b 0 (J6 t a5 c5 a6 c6 a7 c7 a8 c8 a9 c9 a10 c10 a11 c11 a12 c12)]::r1::r2::r3::r4::[Sg b1 0 (WT (Jbu d kn1) a1 c1 a2 c2 a3 c3 a4 c4)]::Lr)) ?_ (fun q_ hs=>?_)
 refine Ko [11,16,17,18,19] (Wm [(0,Pt b 0),(1,Pt b 0),(2,Pt b 0),(3,Pt b 7),(4,Sl a8 t.town.owners.length c8),(5,Pt b1 1),(6,I (kn1:Int)),(7,Pt b2 (o1+kn1*8)),(8,(Ku (Js t (kn1:Int)) a13 c13)),(9,Pt b1 2),(10,Sr d.value)] (JK [] [(0,0),(1,0),(2,0),(3,0),(4,2),(5,0),(6,12),(9,0),(10,12)] [7,8] [11,16,17] (Ke ?_ (Ke ?_ K4)) (Ke ?_ (Ke ?_ (Ke ?_ K4)))))
 refine Jr 7 34 (Pt b2 (o1+kn1*8)) [(31,Sl a8 t.town.owners.length c8),(33,I (kn1:Int))] (fun X=>?_)
 exact QI (b:=b2) (off:=o1) (len:=t.town.owners.length) (cap:=c8) (ik:=.i64) 34 76 8 kn1 ha1 J7 Jn
 refine Jr 8 35 (Ku (Js t (kn1:Int)) a13 c13) [(34,Pt b2 (o1+kn1*8))] (fun X=>?_)
 exact W5 (off:=o1) (p:=kn1*8) (cs:=(KE (Js t (kn1:Int)) a13 c13)) 35 76 1 0 (Ku (Js t (kn1:Int)) a13 c13) hre1 hc1 Jn
 refine JD 11 [(35,(Ku (Js t (kn1:Int)) a13 c13)),(37,Sr d.value)] (fun X=>?_)
 refine JF 38 (YX G1 (KE (Js t (kn1:Int)) a13 c13) (Js t (kn1:Int)) (⟨a13,c13,rfl,w19,w20,w21,w22,w23,w24,hs9,w25⟩) d.value w3) (fun v G2 L1 hl2 hp=>?_)
 obtain ⟨a14,c14,rfl,w26,w27,w28,w29,w30,w31,hs10,w32,w33,w34,w35,w36,rfl⟩:=hp
 refine JC [(11,.tuple #[(Ku (QE d kn1 t).1 a14 c14),(VN d kn1 t),I ((QE d kn1 t).2.2)]),(12,.tuple #[(Ku (QE d kn1 t).1 a14 c14),(VN d kn1 t),I ((QE d kn1 t).2.2)]),(13,(Ku (QE d kn1 t).1 a14 c14)),(14,(VN d kn1 t)),(15,I ((QE d kn1 t).2.2))] (JK [0,1,2,3,4,5,6,7,8,9,10] [(12,0),(13,0),(14,0),(15,0)] [] [16,17] (List.forall_mem_nil _) (Ke ?_ (Ke ?_ K4)))
 refine JD 16 [] (fun X=>?_)
 refine Jv 5 #[Sr ([]),U 0,I 0,U 0,U 0,I 0,Sl none 0 0,I 0] 76 (fun b3=>JC [(16,Pt b3 0)] (JK [0,1,2,3,4,5,6,7,8,9,10] [(12,0),(13,0),(14,0),(15,0)] [] [17] (List.forall_mem_nil _) (Ke ?_ K4)))
 refine JD 17 [] (fun X=>?_)
 refine Jv 6 #[Sr ([]),Sr ([]),U 0,U 0] 182 (fun b4=>JC [(17,Pt b4 0)] (JK [0,1,2,3,4,5,6,7,8,9,10] [(12,0),(13,0),(14,0),(15,0)] [] [18] (List.forall_mem_nil _) (Ke ?_ K4)))
 refine JD 18 [(5,Pt b3 0),(39,(Ku (QE d kn1 t).1 a14 c14))] (fun X=>?_)
 refine KL 1 ([Sg b4 0 [Sr ([]),Sr ([]),U 0,U 0]]::[Sg b3 0 (KE (QE d kn1 t).1 a14 c14)]::[Sg b 0 (J6 t a5 c5 a6 c6 a7 c7 a8 c8 a9 c9 a10 c10 a11 c11 a12 c12)]::r1::r2::r3::r4::[Sg b1 0 (WT (Jbu d kn1) a1 c1 a2 c2 a3 c3 a4 c4)]::Lr) (Kc [] (JK [0,1,2,3,4,5,6,7,8,9,10,12,13] [(14,0),(15,0)] [] [19] (List.forall_mem_nil _) (Ke ?_ K4)))
 refine JD 19 [(6,Pt b4 0),(40,(VN d kn1 t))] (fun X=>?_)
 exact KL 0 ([Sg b4 0 (JcM d kn1 t)]::[Sg b3 0 (KE (QE d kn1 t).1 a14 c14)]::[Sg b 0 (J6 t a5 c5 a6 c6 a7 c7 a8 c8 a9 c9 a10 c10 a11 c11 a12 c12)]::r1::r2::r3::r4::[Sg b1 0 (WT (Jbu d kn1) a1 c1 a2 c2 a3 c3 a4 c4)]::Lr) (Kc [(20,I ((QE d kn1 t).2.2))] (Km [0,1,2,3,4,5,6,7,8,9,10,12,13,14] [(15,0),(20,0)] [] [(0,Pt b 0),(3,Pt b1 0),(4,I ((((Js t (kn1:Int)).wanted).length:Nat):Int)),(5,Pt b3 0),(6,Pt b4 0),(7,I ((QE d kn1 t).2.2))] (List.forall_mem_nil _) (Wb (b3,b4,a14,c14,G2) ⟨hl2,w33,w34,w35,w36,w26,w27,w28,w29,w30,w31,hs10,w32⟩)))
 refine JD 17 [] (fun X=>?_)
 refine Jv 6 #[Sr ([]),Sr ([]),U 0,U 0] 182 (fun b5=>JC [(17,Pt b5 0)] (JK [0,1,2,3,4,5,6,7,8,9,10] [(12,0),(13,0),(14,0),(15,0)] [] [16] (List.forall_mem_nil _) (Ke ?_ K4)))
 refine JD 16 [] (fun X=>?_)
 refine Jv 5 #[Sr ([]),U 0,I 0,U 0,U 0,I 0,Sl none 0 0,I 0] 76 (fun b6=>JC [(16,Pt b6 0)] (JK [0,1,2,3,4,5,6,7,8,9,10] [(12,0),(13,0),(14,0),(15,0)] [] [18] (List.forall_mem_nil _) (Ke ?_ K4)))
 refine JD 18 [(5,Pt b6 0),(39,(Ku (QE d kn1 t).1 a14 c14))] (fun X=>?_)
 refine KL 0 ([Sg b6 0 (KE (QE d kn1 t).1 a14 c14)]::[Sg b5 0 [Sr ([]),Sr ([]),U 0,U 0]]::[Sg b 0 (J6 t a5 c5 a6 c6 a7 c7 a8 c8 a9 c9 a10 c10 a11 c11 a12 c12)]::r1::r2::r3::r4::[Sg b1 0 (WT (Jbu d kn1) a1 c1 a2 c2 a3 c3 a4 c4)]::Lr) (Kc [] (JK [0,1,2,3,4,5,6,7,8,9,10,12,13] [(14,0),(15,0)] [] [19] (List.forall_mem_nil _) (Ke ?_ K4)))
 refine JD 19 [(6,Pt b5 0),(40,(VN d kn1 t))] (fun X=>?_)
 refine KL 1 ([Sg b6 0 (KE (QE d kn1 t).1 a14 c14)]::[Sg b5 0 (JcM d kn1 t)]::[Sg b 0 (J6 t a5 c5 a6 c6 a7 c7 a8 c8 a9 c9 a10 c10 a11 c11 a12 c12)]::r1::r2::r3::r4::[Sg b1 0 (WT (Jbu d kn1) a1 c1 a2 c2 a3 c3 a4 c4)]::Lr) (Kc [(20,I ((QE d kn1 t).2.2))] (Km [0,1,2,3,4,5,6,7,8,9,10,12,13,14] [(15,0),(20,0)] [] [(0,Pt b 0),(3,Pt b1 0),(4,I ((((Js t (kn1:Int)).wanted).length:Nat):Int)),(5,Pt b6 0),(6,Pt b5 0),(7,I ((QE d kn1 t).2.2))] (List.forall_mem_nil _) (Ji 7 (Ji 7 (Ji 7 (Ji 7 (Ji 7 (Ji 7 (Ji 6 (Ji 7 ?_))))))))))
 exact Wb (b6,b5,a14,c14,G2) ⟨hl2,w33,w34,w35,w36,w26,w27,w28,w29,w30,w31,hs10,w32⟩
 refine JD 16 [] (fun X=>?_)
 refine Jv 5 #[Sr ([]),U 0,I 0,U 0,U 0,I 0,Sl none 0 0,I 0] 76 (fun b7=>JC [(16,Pt b7 0)] (JK [] [(0,0),(1,0),(2,0),(3,0),(4,4),(5,0),(6,14),(9,0),(10,14)] [7,8] [11,17] (Ke ?_ (Ke ?_ K4)) (Ke ?_ (Ke ?_ K4))))
 refine Jr 7 34 (Pt b2 (o1+kn1*8)) [(31,Sl a8 t.town.owners.length c8),(33,I (kn1:Int))] (fun X=>?_)
 exact QI (b:=b2) (off:=o1) (len:=t.town.owners.length) (cap:=c8) (ik:=.i64) 34 76 8 kn1 ha1 J7 Jn
 refine Jr 8 35 (Ku (Js t (kn1:Int)) a13 c13) [(34,Pt b2 (o1+kn1*8))] (fun X=>?_)
 exact W5 (off:=o1) (p:=kn1*8) (cs:=(KE (Js t (kn1:Int)) a13 c13)) 35 76 2 0 (Ku (Js t (kn1:Int)) a13 c13) hre1 hc1 Jn
 refine JD 11 [(35,(Ku (Js t (kn1:Int)) a13 c13)),(37,Sr d.value)] (fun X=>?_)
 refine JF 38 (YX G1 (KE (Js t (kn1:Int)) a13 c13) (Js t (kn1:Int)) (⟨a13,c13,rfl,w19,w20,w21,w22,w23,w24,hs9,w25⟩) d.value w3) (fun v G3 L1 hl3 hp=>?_)
 obtain ⟨a15,c15,rfl,w37,w38,w39,w40,w41,w42,hs11,w43,w44,w45,w46,w47,rfl⟩:=hp
 refine JC [(11,.tuple #[(Ku (QE d kn1 t).1 a15 c15),(VN d kn1 t),I ((QE d kn1 t).2.2)]),(12,.tuple #[(Ku (QE d kn1 t).1 a15 c15),(VN d kn1 t),I ((QE d kn1 t).2.2)]),(13,(Ku (QE d kn1 t).1 a15 c15)),(14,(VN d kn1 t)),(15,I ((QE d kn1 t).2.2))] (JK [0,1,2,3,4,5,6,7,8,9,10] [(12,0),(13,0),(14,0),(15,0)] [] [17] (List.forall_mem_nil _) (Ke ?_ K4))
 refine JD 17 [] (fun X=>?_)
 refine Jv 6 #[Sr ([]),Sr ([]),U 0,U 0] 182 (fun b8=>JC [(17,Pt b8 0)] (JK [0,1,2,3,4,5,6,7,8,9,10] [(12,0),(13,0),(14,0),(15,0)] [] [18] (List.forall_mem_nil _) (Ke ?_ K4)))
 refine JD 18 [(5,Pt b7 0),(39,(Ku (QE d kn1 t).1 a15 c15))] (fun X=>?_)
 refine KL 1 ([Sg b8 0 [Sr ([]),Sr ([]),U 0,U 0]]::[Sg b7 0 (KE (QE d kn1 t).1 a15 c15)]::[Sg b 0 (J6 t a5 c5 a6 c6 a7 c7 a8 c8 a9 c9 a10 c10 a11 c11 a12 c12)]::r1::r2::r3::r4::[Sg b1 0 (WT (Jbu d kn1) a1 c1 a2 c2 a3 c3 a4 c4)]::Lr) (Kc [] (JK [0,1,2,3,4,5,6,7,8,9,10,12,13] [(14,0),(15,0)] [] [19] (List.forall_mem_nil _) (Ke ?_ K4)))
 refine JD 19 [(6,Pt b8 0),(40,(VN d kn1 t))] (fun X=>?_)
 exact KL 0 ([Sg b8 0 (JcM d kn1 t)]::[Sg b7 0 (KE (QE d kn1 t).1 a15 c15)]::[Sg b 0 (J6 t a5 c5 a6 c6 a7 c7 a8 c8 a9 c9 a10 c10 a11 c11 a12 c12)]::r1::r2::r3::r4::[Sg b1 0 (WT (Jbu d kn1) a1 c1 a2 c2 a3 c3 a4 c4)]::Lr) (Kc [(20,I ((QE d kn1 t).2.2))] (Km [0,1,2,3,4,5,6,7,8,9,10,12,13,14] [(15,0),(20,0)] [] [(0,Pt b 0),(3,Pt b1 0),(4,I ((((Js t (kn1:Int)).wanted).length:Nat):Int)),(5,Pt b7 0),(6,Pt b8 0),(7,I ((QE d kn1 t).2.2))] (List.forall_mem_nil _) (Wb (b7,b8,a15,c15,G3) ⟨hl3,w44,w45,w46,w47,w37,w38,w39,w40,w41,w42,hs11,w43⟩)))
 refine JD 17 [] (fun X=>?_)
 refine Jv 6 #[Sr ([]),Sr ([]),U 0,U 0] 182 (fun b9=>JC [(17,Pt b9 0)] (JK [] [(0,0),(1,0),(2,0),(3,0),(4,6),(5,0),(6,16),(9,0),(10,16)] [7,8] [11] (Ke ?_ (Ke ?_ K4)) (Ke ?_ K4)))
 refine Jr 7 34 (Pt b2 (o1+kn1*8)) [(31,Sl a8 t.town.owners.length c8),(33,I (kn1:Int))] (fun X=>?_)
 exact QI (b:=b2) (off:=o1) (len:=t.town.owners.length) (cap:=c8) (ik:=.i64) 34 76 8 kn1 ha1 J7 Jn
 refine Jr 8 35 (Ku (Js t (kn1:Int)) a13 c13) [(34,Pt b2 (o1+kn1*8))] (fun X=>?_)
 exact W5 (off:=o1) (p:=kn1*8) (cs:=(KE (Js t (kn1:Int)) a13 c13)) 35 76 3 0 (Ku (Js t (kn1:Int)) a13 c13) hre1 hc1 Jn
 refine JD 11 [(35,(Ku (Js t (kn1:Int)) a13 c13)),(37,Sr d.value)] (fun X=>?_)
 refine JF 38 (YX G1 (KE (Js t (kn1:Int)) a13 c13) (Js t (kn1:Int)) (⟨a13,c13,rfl,w19,w20,w21,w22,w23,w24,hs9,w25⟩) d.value w3) (fun v G4 L1 hl4 hp=>?_)
 obtain ⟨a16,c16,rfl,w48,w49,w50,w51,w52,w53,hs12,w54,w55,w56,w57,w58,rfl⟩:=hp
 refine JC [(11,.tuple #[(Ku (QE d kn1 t).1 a16 c16),(VN d kn1 t),I ((QE d kn1 t).2.2)]),(12,.tuple #[(Ku (QE d kn1 t).1 a16 c16),(VN d kn1 t),I ((QE d kn1 t).2.2)]),(13,(Ku (QE d kn1 t).1 a16 c16)),(14,(VN d kn1 t)),(15,I ((QE d kn1 t).2.2))] (JK [0,1,2,3,4,5,6,7,8,9,10] [(12,0),(13,0),(14,0),(15,0)] [] [18] (List.forall_mem_nil _) (Ke ?_ K4))
 refine JD 18 [(5,Pt b7 0),(39,(Ku (QE d kn1 t).1 a16 c16))] (fun X=>?_)
 refine KL 1 ([Sg b9 0 [Sr ([]),Sr ([]),U 0,U 0]]::[Sg b7 0 (KE (QE d kn1 t).1 a16 c16)]::[Sg b 0 (J6 t a5 c5 a6 c6 a7 c7 a8 c8 a9 c9 a10 c10 a11 c11 a12 c12)]::r1::r2::r3::r4::[Sg b1 0 (WT (Jbu d kn1) a1 c1 a2 c2 a3 c3 a4 c4)]::Lr) (Kc [] (JK [0,1,2,3,4,5,6,7,8,9,10,12,13] [(14,0),(15,0)] [] [19] (List.forall_mem_nil _) (Ke ?_ K4)))
 refine JD 19 [(6,Pt b9 0),(40,(VN d kn1 t))] (fun X=>?_)
 exact KL 0 ([Sg b9 0 (JcM d kn1 t)]::[Sg b7 0 (KE (QE d kn1 t).1 a16 c16)]::[Sg b 0 (J6 t a5 c5 a6 c6 a7 c7 a8 c8 a9 c9 a10 c10 a11 c11 a12 c12)]::r1::r2::r3::r4::[Sg b1 0 (WT (Jbu d kn1) a1 c1 a2 c2 a3 c3 a4 c4)]::Lr) (Kc [(20,I ((QE d kn1 t).2.2))] (Km [0,1,2,3,4,5,6,7,8,9,10,12,13,14] [(15,0),(20,0)] [] [(0,Pt b 0),(3,Pt b1 0),(4,I ((((Js t (kn1:Int)).wanted).length:Nat):Int)),(5,Pt b7 0),(6,Pt b9 0),(7,I ((QE d kn1 t).2.2))] (List.forall_mem_nil _) (Wb (b7,b9,a16,c16,G4) ⟨hl4,w55,w56,w57,w58,w48,w49,w50,w51,w52,w53,hs12,w54⟩)))
 refine JD 17 [] (fun X=>?_)
 refine Jv 6 #[Sr ([]),Sr ([]),U 0,U 0] 182 (fun b10=>JC [(17,Pt b10 0)] (JK [] [(0,0),(1,0),(2,0),(3,0),(4,4),(5,0),(6,14),(9,0),(10,14)] [7,8] [11,16] (Ke ?_ (Ke ?_ K4)) (Ke ?_ (Ke ?_ K4))))
 refine Jr 7 34 (Pt b2 (o1+kn1*8)) [(31,Sl a8 t.town.owners.length c8),(33,I (kn1:Int))] (fun X=>?_)
 exact QI (b:=b2) (off:=o1) (len:=t.town.owners.length) (cap:=c8) (ik:=.i64) 34 76 8 kn1 ha1 J7 Jn
 refine Jr 8 35 (Ku (Js t (kn1:Int)) a13 c13) [(34,Pt b2 (o1+kn1*8))] (fun X=>?_)
 exact W5 (off:=o1) (p:=kn1*8) (cs:=(KE (Js t (kn1:Int)) a13 c13)) 35 76 2 0 (Ku (Js t (kn1:Int)) a13 c13) hre1 hc1 Jn
 refine JD 11 [(35,(Ku (Js t (kn1:Int)) a13 c13)),(37,Sr d.value)] (fun X=>?_)
 refine JF 38 (YX G1 (KE (Js t (kn1:Int)) a13 c13) (Js t (kn1:Int)) (⟨a13,c13,rfl,w19,w20,w21,w22,w23,w24,hs9,w25⟩) d.value w3) (fun v G5 L1 hl5 hp=>?_)
 obtain ⟨a17,c17,rfl,w59,w60,w61,w62,w63,w64,hs13,w65,w66,w67,w68,w69,rfl⟩:=hp
 refine JC [(11,.tuple #[(Ku (QE d kn1 t).1 a17 c17),(VN d kn1 t),I ((QE d kn1 t).2.2)]),(12,.tuple #[(Ku (QE d kn1 t).1 a17 c17),(VN d kn1 t),I ((QE d kn1 t).2.2)]),(13,(Ku (QE d kn1 t).1 a17 c17)),(14,(VN d kn1 t)),(15,I ((QE d kn1 t).2.2))] (JK [0,1,2,3,4,5,6,7,8,9,10] [(12,0),(13,0),(14,0),(15,0)] [] [16] (List.forall_mem_nil _) (Ke ?_ K4))
 refine JD 16 [] (fun X=>?_)
 refine Jv 5 #[Sr ([]),U 0,I 0,U 0,U 0,I 0,Sl none 0 0,I 0] 76 (fun b11=>JC [(16,Pt b11 0)] (JK [0,1,2,3,4,5,6,7,8,9,10] [(12,0),(13,0),(14,0),(15,0)] [] [18] (List.forall_mem_nil _) (Ke ?_ K4)))
 refine JD 18 [(5,Pt b11 0),(39,(Ku (QE d kn1 t).1 a17 c17))] (fun X=>?_)
 refine KL 0 ([Sg b11 0 (KE (QE d kn1 t).1 a17 c17)]::[Sg b10 0 [Sr ([]),Sr ([]),U 0,U 0]]::[Sg b 0 (J6 t a5 c5 a6 c6 a7 c7 a8 c8 a9 c9 a10 c10 a11 c11 a12 c12)]::r1::r2::r3::r4::[Sg b1 0 (WT (Jbu d kn1) a1 c1 a2 c2 a3 c3 a4 c4)]::Lr) (Kc [] (JK [0,1,2,3,4,5,6,7,8,9,10,12,13] [(14,0),(15,0)] [] [19] (List.forall_mem_nil _) (Ke ?_ K4)))
 refine JD 19 [(6,Pt b10 0),(40,(VN d kn1 t))] (fun X=>?_)
 refine KL 1 ([Sg b11 0 (KE (QE d kn1 t).1 a17 c17)]::[Sg b10 0 (JcM d kn1 t)]::[Sg b 0 (J6 t a5 c5 a6 c6 a7 c7 a8 c8 a9 c9 a10 c10 a11 c11 a12 c12)]::r1::r2::r3::r4::[Sg b1 0 (WT (Jbu d kn1) a1 c1 a2 c2 a3 c3 a4 c4)]::Lr) (Kc [(20,I ((QE d kn1 t).2.2))] (Km [0,1,2,3,4,5,6,7,8,9,10,12,13,14] [(15,0),(20,0)] [] [(0,Pt b 0),(3,Pt b1 0),(4,I ((((Js t (kn1:Int)).wanted).length:Nat):Int)),(5,Pt b11 0),(6,Pt b10 0),(7,I ((QE d kn1 t).2.2))] (List.forall_mem_nil _) (Ji 7 (Ji 7 (Ji 7 (Ji 7 (Ji 7 (Ji 7 (Ji 6 (Ji 7 ?_))))))))))
 exact Wb (b11,b10,a17,c17,G5) ⟨hl5,w66,w67,w68,w69,w59,w60,w61,w62,w63,w64,hs13,w65⟩
 refine JD 16 [] (fun X=>?_)
 refine Jv 5 #[Sr ([]),U 0,I 0,U 0,U 0,I 0,Sl none 0 0,I 0] 76 (fun b12=>JC [(16,Pt b12 0)] (JK [] [(0,0),(1,0),(2,0),(3,0),(4,6),(5,0),(6,16),(9,0),(10,16)] [7,8] [11] (Ke ?_ (Ke ?_ K4)) (Ke ?_ K4)))
 refine Jr 7 34 (Pt b2 (o1+kn1*8)) [(31,Sl a8 t.town.owners.length c8),(33,I (kn1:Int))] (fun X=>?_)
 exact QI (b:=b2) (off:=o1) (len:=t.town.owners.length) (cap:=c8) (ik:=.i64) 34 76 8 kn1 ha1 J7 Jn
 refine Jr 8 35 (Ku (Js t (kn1:Int)) a13 c13) [(34,Pt b2 (o1+kn1*8))] (fun X=>?_)
 exact W5 (off:=o1) (p:=kn1*8) (cs:=(KE (Js t (kn1:Int)) a13 c13)) 35 76 3 0 (Ku (Js t (kn1:Int)) a13 c13) hre1 hc1 Jn
 refine JD 11 [(35,(Ku (Js t (kn1:Int)) a13 c13)),(37,Sr d.value)] (fun X=>?_)
 refine JF 38 (YX G1 (KE (Js t (kn1:Int)) a13 c13) (Js t (kn1:Int)) (⟨a13,c13,rfl,w19,w20,w21,w22,w23,w24,hs9,w25⟩) d.value w3) (fun v G6 L1 hl6 hp=>?_)
 obtain ⟨a18,c18,rfl,w70,w71,w72,w73,w74,w75,hs14,w76,w77,w78,w79,w80,rfl⟩:=hp
 refine JC [(11,.tuple #[(Ku (QE d kn1 t).1 a18 c18),(VN d kn1 t),I ((QE d kn1 t).2.2)]),(12,.tuple #[(Ku (QE d kn1 t).1 a18 c18),(VN d kn1 t),I ((QE d kn1 t).2.2)]),(13,(Ku (QE d kn1 t).1 a18 c18)),(14,(VN d kn1 t)),(15,I ((QE d kn1 t).2.2))] (JK [0,1,2,3,4,5,6,7,8,9,10] [(12,0),(13,0),(14,0),(15,0)] [] [18] (List.forall_mem_nil _) (Ke ?_ K4))
 refine JD 18 [(5,Pt b12 0),(39,(Ku (QE d kn1 t).1 a18 c18))] (fun X=>?_)
 refine KL 0 ([Sg b12 0 (KE (QE d kn1 t).1 a18 c18)]::[Sg b10 0 [Sr ([]),Sr ([]),U 0,U 0]]::[Sg b 0 (J6 t a5 c5 a6 c6 a7 c7 a8 c8 a9 c9 a10 c10 a11 c11 a12 c12)]::r1::r2::r3::r4::[Sg b1 0 (WT (Jbu d kn1) a1 c1 a2 c2 a3 c3 a4 c4)]::Lr) (Kc [] (JK [0,1,2,3,4,5,6,7,8,9,10,12,13] [(14,0),(15,0)] [] [19] (List.forall_mem_nil _) (Ke ?_ K4)))
 refine JD 19 [(6,Pt b10 0),(40,(VN d kn1 t))] (fun X=>?_)
 refine KL 1 ([Sg b12 0 (KE (QE d kn1 t).1 a18 c18)]::[Sg b10 0 (JcM d kn1 t)]::[Sg b 0 (J6 t a5 c5 a6 c6 a7 c7 a8 c8 a9 c9 a10 c10 a11 c11 a12 c12)]::r1::r2::r3::r4::[Sg b1 0 (WT (Jbu d kn1) a1 c1 a2 c2 a3 c3 a4 c4)]::Lr) (Kc [(20,I ((QE d kn1 t).2.2))] (Km [0,1,2,3,4,5,6,7,8,9,10,12,13,14] [(15,0),(20,0)] [] [(0,Pt b 0),(3,Pt b1 0),(4,I ((((Js t (kn1:Int)).wanted).length:Nat):Int)),(5,Pt b12 0),(6,Pt b10 0),(7,I ((QE d kn1 t).2.2))] (List.forall_mem_nil _) (Ji 7 (Ji 7 (Ji 7 (Ji 7 (Ji 7 (Ji 7 (Ji 6 (Ji 7 ?_))))))))))
 exact Wb (b12,b10,a18,c18,G6) ⟨hl6,w77,w78,w79,w80,w70,w71,w72,w73,w74,w75,hs14,w76⟩
 obtain ⟨b3,b4,a14,c14,G2⟩:=q_
 obtain ⟨hle1,hj1,hj2,hj3,hj4,hj5,hj6,hj7,hj8,hj9,hj10,hj11,hj12⟩:=hs
 dsimp only at hle1 hj1 hj2 hj3 hj4 hj5 hj6 hj7 hj8 hj9 hj10 hj11 hj12
 dsimp only
 refine Je (Je (Jc (Ja [0,0,0] [(44,Bo (!decide ((QE d kn1 t).2.2=0)))] (Qu [44] (!decide ((QE d kn1 t).2.2=0)) (fun h2=>?_) (fun h2=>?_)))))
 refine Ja [1,1,1,1,1,0] [(50,Bo true)] (Jd (Jb (JU (Jl (Jh (Ji 6 (Ji 6 (Ji 6 (Ji 6 (Ji 6 ?_))))))))))
 have hf2:Wg t d=t:=by
  exact tWant1 ‹_› ‹_› ‹_›
 refine Jm [] [] (KQ (Lr:=Lr) [[Sg b 0 (J6 t a5 c5 a6 c6 a7 c7 a8 c8 a9 c9 a10 c10 a11 c11 a12 c12)],r1,r2,r3,r4] (Jp.le_trans hl1 hle1) ?_)
 rw [hf2];try dsimp only
 exact ⟨a5,c5,a6,c6,a7,c7,a8,c8,a9,c9,a10,c10,a11,c11,a12,c12,r1,r2,r3,r4,rfl,w13,(hs5.mono hle1),w14,w15,w16,(hs6.mono hle1),(hs7.mono hle1),(hr1.mono hle1),(hr2.mono hle1),w17,(hs8.mono hle1),w18,(hr3.mono hle1),(hr4.mono hle1),rfl⟩
 refine Ja [0,4,2] [(46,U (((QE d kn1 t).1).key)),(47,(VN d kn1 t))] (Jj 48 (Bo (Z2 (((QE d kn1 t).1).key) ((QE d kn1 t).2.1))) (Jhx G2 (((QE d kn1 t).1).key) (JcM d kn1 t) ((QE d kn1 t).2.1) (⟨rfl,hj1,hj2,hj3,hj4⟩)) (Ja [0,0] [(50,Bo (!(Z2 (((QE d kn1 t).1).key) ((QE d kn1 t).2.1))))] (Jd (Jb (Jk (!(Z2 (((QE d kn1 t).1).key) ((QE d kn1 t).2.1))) (fun h3=>?_) (fun h3=>?_))))))
 refine Jl (Jh (Ji 6 (Ji 6 (Ji 6 (Ji 6 (Ji 6 ?_))))))
 have hf3:Wg t d=t:=by
  exact tWant2 ‹_› ‹_› ‹_›
 refine Jm [] [] (KQ (Lr:=Lr) [[Sg b 0 (J6 t a5 c5 a6 c6 a7 c7 a8 c8 a9 c9 a10 c10 a11 c11 a12 c12)],r1,r2,r3,r4] (Jp.le_trans hl1 hle1) ?_)
 rw [hf3];try dsimp only
 exact ⟨a5,c5,a6,c6,a7,c7,a8,c8,a9,c9,a10,c10,a11,c11,a12,c12,r1,r2,r3,r4,rfl,w13,(hs5.mono hle1),w14,w15,w16,(hs6.mono hle1),(hs7.mono hle1),(hr1.mono hle1),(hr2.mono hle1),w17,(hs8.mono hle1),w18,(hr3.mono hle1),(hr4.mono hle1),rfl⟩
 refine Jo (Jb ?_)
 refine Yv (σ:=Nat×(Option Addr)×Nat×(Option Addr)×Nat×(Option Addr)×Nat×Jp) (fun q_=>(Jp.le G2 q_.2.2.2.2.2.2.2)∧(rI ((W9 d kn1 t).2.1))∧(rI (((W9 d kn1 t).1).queue.most))∧(RS Q3 q_.2.2.2.2.2.2.2 q_.2.1 q_.2.2.1 (((W9 d kn1 t).1).queue.wait))∧(rI (((W9 d kn1 t).1).batch))∧(rI (((W9 d kn1 t).1).every))∧(rI (((W9 d kn1 t).1).now))∧(RS KA q_.2.2.2.2.2.2.2 q_.2.2.2.1 q_.2.2.2.2.1 (((W9 d kn1 t).1).heads))∧(RS Qs q_.2.2.2.2.2.2.2 q_.2.2.2.2.2.1 q_.2.2.2.2.2.2.1 (((W9 d kn1 t).1).books))) (fun q_=>[(0,Pt b 0),(3,Pt b1 0),(4,I ((((Js t (kn1:Int)).wanted).length:Nat):Int)),(5,Pt b3 0),(7,I ((W9 d kn1 t).2.2)),(8,Pt q_.1 0),(9,I ((W9 d kn1 t).2.1))]) (fun q_=>q_.2.2.2.2.2.2.2) (fun q_=>([Sg q_.1 0 (KU (W9 d kn1 t).1 q_.2.1 q_.2.2.1 q_.2.2.2.1 q_.2.2.2.2.1 q_.2.2.2.2.2.1 q_.2.2.2.2.2.2.1)]::[Sg b4 0 (JcM d kn1 t)]::[Sg b3 0 (KE (QE d kn1 t).1 a14 c14)]::[Sg b 0 (J6 t a5 c5 a6 c6 a7 c7 a8 c8 a9 c9 a10 c10 a11 c11 a12 c12)]::r1::r2::r3::r4::[Sg b1 0 (WT (Jbu d kn1) a1 c1 a2 c2 a3 c3 a4 c4)]::Lr)) ?_ (fun q_ hs=>?_)
 refine Ko [6,11,12] (Wm [(0,Pt b 0),(1,Pt b 0),(2,Pt b 0),(3,Pt b 0),(4,(Qz t.town.clerk a5 c5 a6 c6 a7 c7)),(5,(VN d kn1 t))] (JK [] [(0,0),(1,0),(2,0),(3,0),(4,6),(5,2)] [] [6,11] (List.forall_mem_nil _) (Ke ?_ (Ke ?_ K4))))
 refine JD 6 [(56,(Qz t.town.clerk a5 c5 a6 c6 a7 c7)),(57,(VN d kn1 t))] (fun X=>?_)
 refine JF 58 (Jdo G2 (KU t.town.clerk a5 c5 a6 c6 a7 c7) t.town.clerk (⟨a5,c5,a6,c6,a7,c7,rfl,w13,(hs5.mono hle1),w14,w15,w16,(hs6.mono hle1),(hs7.mono hle1)⟩) (JcM d kn1 t) ((QE d kn1 t).2.1) (⟨rfl,hj1,hj2,hj3,hj4⟩)) (fun v G7 L1 hl7 hp=>?_)
 obtain ⟨a19,c19,a20,c20,a21,c21,rfl,w81,hs15,w82,w83,w84,hs16,hs17,w85,rfl⟩:=hp
 refine JC [(6,.tuple #[(Qz (W9 d kn1 t).1 a19 c19 a20 c20 a21 c21),I ((W9 d kn1 t).2.1),I ((W9 d kn1 t).2.2)]),(7,.tuple #[(Qz (W9 d kn1 t).1 a19 c19 a20 c20 a21 c21),I ((W9 d kn1 t).2.1),I ((W9 d kn1 t).2.2)]),(8,(Qz (W9 d kn1 t).1 a19 c19 a20 c20 a21 c21)),(9,I ((W9 d kn1 t).2.1)),(10,I ((W9 d kn1 t).2.2))] (JK [0,1,2,3,4,5] [(7,0),(8,0),(9,0),(10,0)] [] [11] (List.forall_mem_nil _) (Ke ?_ K4))
 refine JD 11 [] (fun X=>?_)
 refine Jv 8 #[I 0,Sl none 0 0,I 0,I 0,I 0,Sl none 0 0,Sl none 0 0] 60 (fun b13=>JC [(11,Pt b13 0)] (JK [0,1,2,3,4,5] [(7,0),(8,0),(9,0),(10,0)] [] [12] (List.forall_mem_nil _) (Ke ?_ K4)))
 refine JD 12 [(8,Pt b13 0),(59,(Qz (W9 d kn1 t).1 a19 c19 a20 c20 a21 c21))] (fun X=>?_)
 exact KL 0 ([Sg b13 0 (KU (W9 d kn1 t).1 a19 c19 a20 c20 a21 c21)]::[Sg b4 0 (JcM d kn1 t)]::[Sg b3 0 (KE (QE d kn1 t).1 a14 c14)]::[Sg b 0 (J6 t a5 c5 a6 c6 a7 c7 a8 c8 a9 c9 a10 c10 a11 c11 a12 c12)]::r1::r2::r3::r4::[Sg b1 0 (WT (Jbu d kn1) a1 c1 a2 c2 a3 c3 a4 c4)]::Lr) (Kc [(13,I ((W9 d kn1 t).2.1)),(14,I ((W9 d kn1 t).2.2))] (Km [0,1,2,3,4,5,7,8] [(9,0),(10,0),(13,0),(14,0)] [] [(0,Pt b 0),(3,Pt b1 0),(4,I ((((Js t (kn1:Int)).wanted).length:Nat):Int)),(5,Pt b3 0),(7,I ((W9 d kn1 t).2.2)),(8,Pt b13 0),(9,I ((W9 d kn1 t).2.1))] (List.forall_mem_nil _) (Wb (b13,a19,c19,a20,c20,a21,c21,G7) ⟨hl7,w85,w81,hs15,w82,w83,w84,hs16,hs17⟩)))
 refine JD 11 [] (fun X=>?_)
 refine Jv 8 #[I 0,Sl none 0 0,I 0,I 0,I 0,Sl none 0 0,Sl none 0 0] 60 (fun b14=>JC [(11,Pt b14 0)] (JK [] [(0,0),(1,0),(2,0),(3,0),(4,8),(5,4)] [] [6] (List.forall_mem_nil _) (Ke ?_ K4)))
 refine JD 6 [(56,(Qz t.town.clerk a5 c5 a6 c6 a7 c7)),(57,(VN d kn1 t))] (fun X=>?_)
 refine JF 58 (Jdo G2 (KU t.town.clerk a5 c5 a6 c6 a7 c7) t.town.clerk (⟨a5,c5,a6,c6,a7,c7,rfl,w13,(hs5.mono hle1),w14,w15,w16,(hs6.mono hle1),(hs7.mono hle1)⟩) (JcM d kn1 t) ((QE d kn1 t).2.1) (⟨rfl,hj1,hj2,hj3,hj4⟩)) (fun v G8 L1 hl8 hp=>?_)
 obtain ⟨a22,c22,a23,c23,a24,c24,rfl,w86,hs18,w87,w88,w89,hs19,hs20,w90,rfl⟩:=hp
 refine JC [(6,.tuple #[(Qz (W9 d kn1 t).1 a22 c22 a23 c23 a24 c24),I ((W9 d kn1 t).2.1),I ((W9 d kn1 t).2.2)]),(7,.tuple #[(Qz (W9 d kn1 t).1 a22 c22 a23 c23 a24 c24),I ((W9 d kn1 t).2.1),I ((W9 d kn1 t).2.2)]),(8,(Qz (W9 d kn1 t).1 a22 c22 a23 c23 a24 c24)),(9,I ((W9 d kn1 t).2.1)),(10,I ((W9 d kn1 t).2.2))] (JK [0,1,2,3,4,5] [(7,0),(8,0),(9,0),(10,0)] [] [12] (List.forall_mem_nil _) (Ke ?_ K4))
 refine JD 12 [(8,Pt b14 0),(59,(Qz (W9 d kn1 t).1 a22 c22 a23 c23 a24 c24))] (fun X=>?_)
 exact KL 0 ([Sg b14 0 (KU (W9 d kn1 t).1 a22 c22 a23 c23 a24 c24)]::[Sg b4 0 (JcM d kn1 t)]::[Sg b3 0 (KE (QE d kn1 t).1 a14 c14)]::[Sg b 0 (J6 t a5 c5 a6 c6 a7 c7 a8 c8 a9 c9 a10 c10 a11 c11 a12 c12)]::r1::r2::r3::r4::[Sg b1 0 (WT (Jbu d kn1) a1 c1 a2 c2 a3 c3 a4 c4)]::Lr) (Kc [(13,I ((W9 d kn1 t).2.1)),(14,I ((W9 d kn1 t).2.2))] (Km [0,1,2,3,4,5,7,8] [(9,0),(10,0),(13,0),(14,0)] [] [(0,Pt b 0),(3,Pt b1 0),(4,I ((((Js t (kn1:Int)).wanted).length:Nat):Int)),(5,Pt b3 0),(7,I ((W9 d kn1 t).2.2)),(8,Pt b14 0),(9,I ((W9 d kn1 t).2.1))] (List.forall_mem_nil _) (Wb (b14,a22,c22,a23,c23,a24,c24,G8) ⟨hl8,w90,w86,hs18,w87,w88,w89,hs19,hs20⟩)))
 obtain ⟨b13,a19,c19,a20,c20,a21,c21,G7⟩:=q_
 obtain ⟨hle2,hj13,hj14,hj15,hj16,hj17,hj18,hj19,hj20⟩:=hs
 dsimp only at hle2 hj13 hj14 hj15 hj16 hj17 hj18 hj19 hj20
 dsimp only
 refine Je (Jf [0,0] [(63,Bo (!decide ((W9 d kn1 t).2.2=0)))] (Jk (!decide ((W9 d kn1 t).2.2=0)) (fun h4=>?_) (fun h4=>?_)))
 refine Jl (Jh (Ji 7 (Ji 7 (Ji 7 (Ji 7 (Ji 7 ?_))))))
 have hf4:Wg t d=t:=by
  exact tWant3 ‹_› ‹_› ‹_›
 refine Jm [] [] (KQ (Lr:=Lr) [[Sg b 0 (J6 t a5 c5 a6 c6 a7 c7 a8 c8 a9 c9 a10 c10 a11 c11 a12 c12)],r1,r2,r3,r4] (Jp.le_trans (Jp.le_trans hl1 hle1) hle2) ?_)
 rw [hf4];try dsimp only
 exact ⟨a5,c5,a6,c6,a7,c7,a8,c8,a9,c9,a10,c10,a11,c11,a12,c12,r1,r2,r3,r4,rfl,w13,(hs5.mono (Jp.le_trans hle1 hle2)),w14,w15,w16,(hs6.mono (Jp.le_trans hle1 hle2)),(hs7.mono (Jp.le_trans hle1 hle2)),(hr1.mono (Jp.le_trans hle1 hle2)),(hr2.mono (Jp.le_trans hle1 hle2)),w17,(hs8.mono (Jp.le_trans hle1 hle2)),w18,(hr3.mono (Jp.le_trans hle1 hle2)),(hr4.mono (Jp.le_trans hle1 hle2)),rfl⟩
 refine Jo (Jb (Je (Ko [11,15] (Wm [(0,Pt b 0),(1,Pt b 0),(2,Pt b 0),(3,Pt b 7),(4,Sl a8 t.town.owners.length c8),(5,Pt b1 1),(6,I (kn1:Int)),(7,Pt b 0),(8,(Ku (QE d kn1 t).1 a14 c14)),(9,(Qz (W9 d kn1 t).1 a19 c19 a20 c20 a21 c21)),(10,Pt b2 (o1+kn1*8))] (JK [] [(0,0),(1,0),(2,0),(3,0),(4,8),(5,0),(6,18),(7,0),(8,6),(9,2)] [10] [11] (Ke ?_ K4) (Ke ?_ K4))))))
 refine Jr 10 74 (Pt b2 (o1+kn1*8)) [(68,Sl a8 t.town.owners.length c8),(70,I (kn1:Int))] (fun X=>?_)
 exact QI (b:=b2) (off:=o1) (len:=t.town.owners.length) (cap:=c8) (ik:=.i64) 74 76 8 kn1 ha1 J7 Jn
 refine JD 11 [(72,(Ku (QE d kn1 t).1 a14 c14)),(74,Pt b2 (o1+kn1*8))] (fun X=>?_)
 refine YV (b:=b2) (off:=o1) 4 (hr1.mono (Jp.le_trans hle1 hle2)) kn1 ((QE d kn1 t).1) ha1 J7 (Ku (QE d kn1 t).1 a14 c14) (KE (QE d kn1 t).1 a14 c14) ⟨a14,c14,rfl,hj5,hj6,hj7,hj8,hj9,hj10,(hj11.mono hle2),hj12⟩ (fun r5 hr5=>?_)
 have e2:t.town.owners.length=(t.town.owners.set kn1 ((QE d kn1 t).1)).length:=(List.length_set ..).symm
 refine Kc [(12,Pt b 0),(13,Pt b 0),(14,Pt b 0)] (JK [0,1,2,3,4,5,6,8,10] [(7,0),(9,2),(12,0),(13,0),(14,0)] [] [15] (List.forall_mem_nil _) (Ke ?_ K4))
 refine JD 15 [(73,(Qz (W9 d kn1 t).1 a19 c19 a20 c20 a21 c21)),(77,Pt b 0)] (fun X=>?_)
 refine KL 3 ([Sg b13 0 (KU (W9 d kn1 t).1 a19 c19 a20 c20 a21 c21)]::[Sg b4 0 (JcM d kn1 t)]::[Sg b3 0 (KE (QE d kn1 t).1 a14 c14)]::[Sg b 0 (J6 (⟨(⟨(W9 d kn1 t).1,t.town.owners,t.town.polls,t.town.net⟩:Wf),t.reach,t.fates,t.events⟩:JL) a19 c19 a20 c20 a21 c21 a8 c8 a9 c9 a10 c10 a11 c11 a12 c12)]::r5::r2::r3::r4::[Sg b1 0 (WT (Jbu d kn1) a1 c1 a2 c2 a3 c3 a4 c4)]::Lr) (Kc [] (Km [0,1,2,3,4,5,6,7,8,9,10,12,13,14] [] [] [(0,Pt b 0),(3,Pt b1 0),(4,I ((((Js t (kn1:Int)).wanted).length:Nat):Int)),(9,I ((W9 d kn1 t).2.1))] (List.forall_mem_nil _) (JkL (fr':=[(0,Pt b 0),(3,Pt b1 0),(4,I ((((Js t (kn1:Int)).wanted).length:Nat):Int)),(9,I ((Kv t.town.clerk ((JO (Js t (kn1:Int)) d.value).2.1)).2.1))]) (L':=([Sg b13 0 [I (((Kv t.town.clerk ((JO (Js t (kn1:Int)) d.value).2.1)).1).queue.most),Sl a19 ((((Kv t.town.clerk ((JO (Js t (kn1:Int)) d.value).2.1)).1).queue.wait).length) c19,I (((Kv t.town.clerk ((JO (Js t (kn1:Int)) d.value).2.1)).1).batch),I (((Kv t.town.clerk ((JO (Js t (kn1:Int)) d.value).2.1)).1).every),I (((Kv t.town.clerk ((JO (Js t (kn1:Int)) d.value).2.1)).1).now),Sl a20 ((((Kv t.town.clerk ((JO (Js t (kn1:Int)) d.value).2.1)).1).heads).length) c20,Sl a21 ((((Kv t.town.clerk ((JO (Js t (kn1:Int)) d.value).2.1)).1).books).length) c21]]::[Sg b4 0 [Sr (((JO (Js t (kn1:Int)) d.value).2.1).name),Sr (((JO (Js t (kn1:Int)) d.value).2.1).value),U (((JO (Js t (kn1:Int)) d.value).2.1).n),U (((JO (Js t (kn1:Int)) d.value).2.1).tag)]]::[Sg b3 0 [Sr (((JO (Js t (kn1:Int)) d.value).1).name),U (((JO (Js t (kn1:Int)) d.value).1).key),I (((JO (Js t (kn1:Int)) d.value).1).head.epoch),U (((JO (Js t (kn1:Int)) d.value).1).head.root),U (((JO (Js t (kn1:Int)) d.value).1).head.prev),I (((JO (Js t (kn1:Int)) d.value).1).head.at_),Sl a14 ((((JO (Js t (kn1:Int)) d.value).1).wanted).length) c14,I (((JO (Js t (kn1:Int)) d.value).1).had)]]::[Sg b 0 [I (((Kv t.town.clerk ((JO (Js t (kn1:Int)) d.value).2.1)).1).queue.most),Sl a19 ((((Kv t.town.clerk ((JO (Js t (kn1:Int)) d.value).2.1)).1).queue.wait).length) c19,I (((Kv t.town.clerk ((JO (Js t (kn1:Int)) d.value).2.1)).1).batch),I (((Kv t.town.clerk ((JO (Js t (kn1:Int)) d.value).2.1)).1).every),I (((Kv t.town.clerk ((JO (Js t (kn1:Int)) d.value).2.1)).1).now),Sl a20 ((((Kv t.town.clerk ((JO (Js t (kn1:Int)) d.value).2.1)).1).heads).length) c20,Sl a21 ((((Kv t.town.clerk ((JO (Js t (kn1:Int)) d.value).2.1)).1).books).length) c21,Sl a8 ((t.town.owners.set kn1 ((JO (Js t (kn1:Int)) d.value).1)).length) c8,Sl a9 t.town.polls.length c9,I t.town.net.now,Sl a10 t.town.net.way.length c10,I t.reach,Sl a11 t.fates.length c11,Sl a12 t.events.length c12]]::r5::r2::r3::r4::[Sg b1 0 [I d.kind,I (kn1:Int),Sr d.value,Sl a1 d.fates.length c1,I d.letter.to_,I d.letter.from_,I d.letter.since,I d.letter.due,Sl a2 d.letter.heads.length c2,I d.letter.reply.head.epoch,U d.letter.reply.head.root,U d.letter.reply.head.prev,I d.letter.reply.head.at_,Sr d.letter.reply.proof.name,Sl a3 d.letter.reply.proof.entries.length c3,Sl a4 d.letter.reply.proof.sides.length c4]]::Lr)) (by rfl) (by (simp only [Jij,KU,WT,KE,J6,JjU,Qz,Jfh,Ku,e2];first | done | rfl)) (Jb (Jc (Ja [0,0,18,0,0] [(78,Pt b 0),(80,I (kn1:Int)),(81,I ((((Js t (kn1:Int)).wanted).length:Nat):Int)),(82,I ((W9 d kn1 t).2.1))] (Jx 7 (Jx 7 (Jx 7 (Jx 7 (Jx 7 ?_)))))))))))
 refine Qn (Ls:=[[Sg b 0 (J6 (⟨(⟨(W9 d kn1 t).1,(t.town.owners.set kn1 ((QE d kn1 t).1)),t.town.polls,t.town.net⟩:Wf),t.reach,t.fates,t.events⟩:JL) a19 c19 a20 c20 a21 c21 a8 c8 a9 c9 a10 c10 a11 c11 a12 c12)],r5,r2,r3,r4]) (Lr:=([Sg b13 0 (KU (W9 d kn1 t).1 a19 c19 a20 c20 a21 c21)]::[Sg b4 0 (JcM d kn1 t)]::[Sg b3 0 (KE (QE d kn1 t).1 a14 c14)]::[Sg b1 0 (WT (Jbu d kn1) a1 c1 a2 c2 a3 c3 a4 c4)]::Lr)) 83 (Jd6 G7 b (z4_4 d kn1 t) a19 c19 a20 c20 a21 c21 a8 c8 a9 c9 a10 c10 a11 c11 a12 c12 r5 r2 r3 r4 hj14 hj15 hj16 hj17 hj18 hj19 hj20 hr5 (hr2.mono (Jp.le_trans hle1 hle2)) w17 (hs8.mono (Jp.le_trans hle1 hle2)) w18 (hr3.mono (Jp.le_trans hle1 hle2)) (hr4.mono (Jp.le_trans hle1 hle2)) 1 J7 (kn1:Int) J7 ((((Js t (kn1:Int)).wanted).length:Nat):Int) (by have q_:=(show RS ES _ _ _ (Js t (kn1:Int)).wanted by assumption).le;have p_:=(show RS ES _ _ _ (Js t (kn1:Int)).wanted by assumption).max;omega) ((W9 d kn1 t).2.1) hj13 ‹_›) (fun v G9 L1 hl9 hp=>?_)
 obtain ⟨a25,c25,a26,c26,a27,c27,a28,c28,a29,c29,a30,c30,a31,c31,a32,c32,r6,r7,r8,r9,rfl,w91,hs21,w92,w93,w94,hs22,hs23,hr6,hr7,w95,hs24,w96,hr8,hr9,rfl⟩:=hp
 refine Jd (Ji 4 (Ji 4 (Ji 4 (Ji 4 (Ji 4 ?_)))))
 have hf5:Wg t d=(Q6 (z4_4 d kn1 t) 1 (kn1:Int) ((((Js t (kn1:Int)).wanted).length:Nat):Int) ((W9 d kn1 t).2.1)):=by
  exact tWant4 ‹_› rfl ‹_› ‹_› ‹_› ‹_›
 refine ZC [] [] (KQ (Lr:=Lr) [[Sg b 0 (J6 (Q6 (z4_4 d kn1 t) 1 (kn1:Int) ((((Js t (kn1:Int)).wanted).length:Nat):Int) ((W9 d kn1 t).2.1)) a25 c25 a26 c26 a27 c27 a28 c28 a29 c29 a30 c30 a31 c31 a32 c32)],r6,r7,r8,r9] (Jp.le_trans (Jp.le_trans (Jp.le_trans hl1 hle1) hle2) hl9) ?_)
 rw [hf5];try dsimp only
 exact ⟨a25,c25,a26,c26,a27,c27,a28,c28,a29,c29,a30,c30,a31,c31,a32,c32,r6,r7,r8,r9,rfl,w91,hs21,w92,w93,w94,hs22,hs23,hr6,hr7,w95,hs24,w96,hr8,hr9,rfl⟩
theorem Jb4 {t:JL} {l:JS} (h:t.town.clerk.heads.length≤9000000000000000000) (hr:1≤t.reach∧t.reach≤40):0≤WH t l∧WH t l≤9000000000000000000∧-1≤Vc t l∧Vc t l≤9000000000000000000∧-1≤WN t∧WN t≤9000000000000000000:=by
 unfold Vc WH WN minI maxI
 (repeat' split) <;> omega
structure JgW (p:Wa):Prop where
 least:-9223372036854775808≤p.least∧p.least<9223372036854775808
 most:-9223372036854775808≤p.most∧p.most<9223372036854775808
 lost:-9223372036854775808≤p.lost∧p.lost<9223372036854775808
 gap:-9223372036854775808≤p.gap∧p.gap<9223372036854775808
 next:-9223372036854775808≤p.next∧p.next<9223372036854775808
 asked:-9223372036854775808≤p.asked∧p.asked<9223372036854775808
theorem JgW.ok {p:Wa} (h:Y6 p):JgW p:=by
 unfold Y6 at h
 refine ⟨?_,?_,?_,?_,?_,?_⟩ <;> omega
theorem JhP:JgW Vt:=⟨by decide,by decide,by decide,by decide,by decide,by decide⟩
theorem VO (p:Wa) (now:Int):JgW (KG p now).1:=by
 by_cases h:(KG p now).2=0
 · exact .ok ((Zu _).1 (Jet h).2.2.2.2.2.2.2.2.2.2.2.2.2.2.1)
 · rw [JhL h];exact JhP
theorem Jb5 (p:Wa) (now:Int):JgW (Q7 p now).1:=by
 by_cases h:(Q7 p now).2=0
 ·
  obtain ⟨q,_⟩:=JhM h
  obtain ⟨q1,q2,q3⟩:=(JcL p now).1 q
  exact .ok ((Zu _).1 (Jez ((Zu _).2 q1) q2 q3))
 ·
  have e:(Q7 p now).1=Vt:=by revert h;unfold Q7;split <;> simp
  rw [e];exact JhP
theorem Jov {t:JL} {l:JS} (h:W8 t l.from_=false):Qi t l=t:=by unfold Qi;rw [if_pos h]
theorem Jow {t:JL} {l:JS} (h:W8 t l.from_=true):Qi t l=Wi t ⟨l.from_,0,0,0,(Zz t.town.clerk (WH t l) (Vc t l)).1,(JJ t.town.clerk (Js t l.from_).name (Vc t l)).1⟩:=by unfold Qi;rw [if_neg (by rw [h];simp)]
theorem Jox {t:JL} {l:JS} {k:Int} (e:l.from_=k) (h:W8 t l.from_=true):Qi t l=Wi t ⟨k,0,0,0,(Zz t.town.clerk (WH t l) (Vc t l)).1,(JJ t.town.clerk (Js t k).name (Vc t l)).1⟩:=by subst e;exact Jow h
theorem Jlv {t:JL} {l:JS} {k:Nat} (e:l.to_=(k:Int)):ZV t l=⟨⟨t.town.clerk,t.town.owners.set k (Ju (Js t (k:Int)) l.heads l.reply).1,if (Ju (Js t (k:Int)) l.heads l.reply).2.1=0∨(Ju (Js t (k:Int)) l.heads l.reply).2.1=1 then t.town.polls.set k (Q7 (QL t (k:Int)) t.town.clerk.now).1 else t.town.polls,t.town.net⟩,t.reach,t.fates,t.events++[⟨2,(k:Int),(Ju (Js t (k:Int)) l.heads l.reply).2.1,(Ju (Js t (k:Int)) l.heads l.reply).1.head.epoch⟩]⟩:=by
 unfold ZV;rw [e];rfl
theorem tAsk0 {t:JL} {k:Int} (h:¬ (KG (QL t k) t.town.clerk.now).2=0):Zw t k=t:=by unfold Zw;rw [if_pos h]
theorem tAsk1 {t:JL} {k:Int} (h:(KG (QL t k) t.town.clerk.now).2=0) (h1:(WR (KG (QL t k) t.town.clerk.now).1).1=true∧(WR (QL t k)).1=false):Zw t k=Q6 (JaZ t k) 3 k 0 t.town.clerk.now:=by
 have h2:JaY (KG (QL t k) t.town.clerk.now).1=true∧JaY (QL t k)=false:=h1
 unfold Zw;rw [if_neg (by simpa using h),if_pos h2]
theorem tAsk2 {t:JL} {k:Int} (h:(KG (QL t k) t.town.clerk.now).2=0) (h1:(WR (KG (QL t k) t.town.clerk.now).1).1=true→(WR (QL t k)).1=true):Zw t k=JaZ t k:=by
 unfold Zw;rw [if_neg (by simpa using h),if_neg]
 rintro ⟨q1,q2⟩
 have:=h1 q1
 have e:JaY (QL t k)=true:=this
 rw [e] at q2;cases q2
theorem Jpu (o:K2) (l:List JQ) (r:QB):-9223372036854775808≤(Ju o l r).2.1∧(Ju o l r).2.1<9223372036854775808:=by
 have hv:0≤(JY o l r).1∧(JY o l r).1≤6:=by
  unfold JY K1
  (repeat' split) <;> simp_all <;> omega
 unfold Ju
 (repeat' split) <;> simp only <;> omega
set_option maxRecDepth 20000 in
abbrev Y0 (kn1:Nat) (l:JS) (t:JL):=JJ t.town.clerk ((Js t (kn1:Int)).name) (Vc t l)
abbrev JhQ (l:JS) (t:JL):=Zz t.town.clerk (WH t l) (Vc t l)
abbrev z5_2 (kn1:Nat) (l:JS):=(⟨l.to_,(kn1:Int),l.since,l.due,l.heads,l.reply⟩:JS)
theorem Jjd (G:Jp) (b:Nat) (t:JL) (a_1:Option Addr) (c_1:Nat) (a_5:Option Addr) (c_5:Nat) (a_6:Option Addr) (c_6:Nat) (a_7:Option Addr) (c_7:Nat) (a_8:Option Addr) (c_8:Nat) (a_10:Option Addr) (c_10:Nat) (a_12:Option Addr) (c_12:Nat) (a_13:Option Addr) (c_13:Nat) (r_7:List Kg) (r_8:List Kg) (r_12:List Kg) (r_13:List Kg) (h_0:rI t.town.clerk.queue.most) (h_1:RS Q3 G a_1 c_1 t.town.clerk.queue.wait) (h_2:rI t.town.clerk.batch) (h_3:rI t.town.clerk.every) (h_4:rI t.town.clerk.now) (h_5:RS KA G a_5 c_5 t.town.clerk.heads) (h_6:RS Qs G a_6 c_6 t.town.clerk.books) (h_7:J0 Q1 G a_7 c_7 t.town.owners r_7) (h_8:J0 Wy G a_8 c_8 t.town.polls r_8) (h_9:rI t.town.net.now) (h_10:RS Kh G a_10 c_10 t.town.net.way) (h_11:rI t.reach) (h_12:J0 Vk G a_12 c_12 t.fates r_12) (h_13:J0 Wn G a_13 c_13 t.events r_13) (vs_l:List Value) (l:JS) (h_l:Kh.R G vs_l l) (hreach:1≤t.reach∧t.reach≤40):Jcf 112 #[Pt b 0,.agg vs_l.toArray] G [[Sg b 0 [I t.town.clerk.queue.most,Sl a_1 t.town.clerk.queue.wait.length c_1,I t.town.clerk.batch,I t.town.clerk.every,I t.town.clerk.now,Sl a_5 t.town.clerk.heads.length c_5,Sl a_6 t.town.clerk.books.length c_6,Sl a_7 t.town.owners.length c_7,Sl a_8 t.town.polls.length c_8,I t.town.net.now,Sl a_10 t.town.net.way.length c_10,I t.reach,Sl a_12 t.fates.length c_12,Sl a_13 t.events.length c_13]],r_7,r_8,r_12,r_13] (fun u G' L'=>∃ (a_z1:Option Addr) (c_z1:Nat) (a_z5:Option Addr) (c_z5:Nat) (a_z6:Option Addr) (c_z6:Nat) (a_z7:Option Addr) (c_z7:Nat) (a_z8:Option Addr) (c_z8:Nat) (a_z10:Option Addr) (c_z10:Nat) (a_z12:Option Addr) (c_z12:Nat) (a_z13:Option Addr) (c_z13:Nat) (r_z7:List Kg) (r_z8:List Kg) (r_z12:List Kg) (r_z13:List Kg),u=.tuple #[]∧(rI ((Qi t l).town.clerk.queue.most))∧(RS Q3 G' a_z1 c_z1 ((Qi t l).town.clerk.queue.wait))∧(rI ((Qi t l).town.clerk.batch))∧(rI ((Qi t l).town.clerk.every))∧(rI ((Qi t l).town.clerk.now))∧(RS KA G' a_z5 c_z5 ((Qi t l).town.clerk.heads))∧(RS Qs G' a_z6 c_z6 ((Qi t l).town.clerk.books))∧(J0 Q1 G' a_z7 c_z7 ((Qi t l).town.owners) r_z7)∧(J0 Wy G' a_z8 c_z8 ((Qi t l).town.polls) r_z8)∧(rI ((Qi t l).town.net.now))∧(RS Kh G' a_z10 c_z10 ((Qi t l).town.net.way))∧(rI ((Qi t l).reach))∧(J0 Vk G' a_z12 c_z12 ((Qi t l).fates) r_z12)∧(J0 Wn G' a_z13 c_z13 ((Qi t l).events) r_z13)∧L'=[[Sg b 0 [I ((Qi t l).town.clerk.queue.most),Sl a_z1 (((Qi t l).town.clerk.queue.wait).length) c_z1,I ((Qi t l).town.clerk.batch),I ((Qi t l).town.clerk.every),I ((Qi t l).town.clerk.now),Sl a_z5 (((Qi t l).town.clerk.heads).length) c_z5,Sl a_z6 (((Qi t l).town.clerk.books).length) c_z6,Sl a_z7 (((Qi t l).town.owners).length) c_z7,Sl a_z8 (((Qi t l).town.polls).length) c_z8,I ((Qi t l).town.net.now),Sl a_z10 (((Qi t l).town.net.way).length) c_z10,I ((Qi t l).reach),Sl a_z12 (((Qi t l).fates).length) c_z12,Sl a_z13 (((Qi t l).events).length) c_z13]],r_z7,r_z8,r_z12,r_z13]):=by
 obtain ⟨a1,c1,a2,c2,a3,c3,rfl,_,_,_,_,_,_,_,_,_,_,_,_⟩:=h_l
 intro Lr
 refine JN Tryz.func112 76 [(0,Pt b 0),(1,(QZ l a1 c1 a2 c2 a3 c3))] rfl (fun w0 G0=>?_)
 show TC _ _ _ _ _ ([Sg b 0 (J6 t a_1 c_1 a_5 c_5 a_6 c_6 a_7 c_7 a_8 c_8 a_10 c_10 a_12 c_12 a_13 c_13)]::r_7::r_8::r_12::r_13::Lr)
 refine Je (Jc (Jv 3 #[I l.to_,I l.from_,I l.since,I l.due,Sl a1 l.heads.length c1,I l.reply.head.epoch,U l.reply.head.root,U l.reply.head.prev,I l.reply.head.at_,Sr l.reply.proof.name,Sl a2 l.reply.proof.entries.length c2,Sl a3 l.reply.proof.sides.length c3] 51 (fun b1=>Jd (Jb (Je (Je (Jc (Ja [0,0,2] [(11,Pt b 0),(13,I l.from_)] (Jx 5 (Jx 5 (Jx 5 (Jx 5 (Jx 5 (Qn (Ls:=[[Sg b 0 (J6 t a_1 c_1 a_5 c_5 a_6 c_6 a_7 c_7 a_8 c_8 a_10 c_10 a_12 c_12 a_13 c_13)],r_7,r_8,r_12,r_13]) (Lr:=([Sg b1 0 (Kp l a1 c1 a2 c2 a3 c3)]::Lr)) 14 (JbO G b t a_1 c_1 a_5 c_5 a_6 c_6 a_7 c_7 a_8 c_8 a_10 c_10 a_12 c_12 a_13 c_13 r_7 r_8 r_12 r_13 h_0 h_1 h_2 h_3 h_4 h_5 h_6 h_7 h_8 h_9 h_10 h_11 h_12 h_13 l.from_) (fun v G1 L1 hl1 hp=>?_)))))))))))))))
 obtain ⟨a4,c4,a5,c5,a6,c6,a7,c7,a8,c8,a9,c9,a10,c10,a11,c11,r1,r2,r3,r4,rfl,w10,hs4,w11,w12,w13,hs5,hs6,hr1,hr2,w14,hs7,w15,hr3,hr4,rfl⟩:=hp
 refine Ja [0] [(15,Bo (!(W8 t l.from_)))] (Jd (Jb (Jk (!(W8 t l.from_)) (fun h1=>?_) (fun h1=>?_))))
 refine Jl (Jh (Ji 4 (Ji 4 (Ji 4 (Ji 4 (Ji 4 ?_))))))
 have hf1:Qi t l=t:=by
  exact Jov ‹_›
 refine Jm [] [] (KQ (Lr:=Lr) [[Sg b 0 (J6 t a4 c4 a5 c5 a6 c6 a7 c7 a8 c8 a9 c9 a10 c10 a11 c11)],r1,r2,r3,r4] hl1 ?_)
 rw [hf1];try dsimp only
 exact ⟨a4,c4,a5,c5,a6,c6,a7,c7,a8,c8,a9,c9,a10,c10,a11,c11,r1,r2,r3,r4,rfl,w10,hs4,w11,w12,w13,hs5,hs6,hr1,hr2,w14,hs7,w15,hr3,hr4,rfl⟩
 refine Jo (Jb ?_)
 have hown:=Jas.1 (show W8 t l.from_=true by assumption)
 obtain ⟨kn1,hkn1⟩:∃ k_:Nat,l.from_=(k_:Int):=⟨(l.from_).toNat,by omega⟩
 have e1:l.from_=(kn1:Int):=hkn1
 refine Jcy (L':=([Sg b 0 [I t.town.clerk.queue.most,Sl a4 t.town.clerk.queue.wait.length c4,I t.town.clerk.batch,I t.town.clerk.every,I t.town.clerk.now,Sl a5 t.town.clerk.heads.length c5,Sl a6 t.town.clerk.books.length c6,Sl a7 t.town.owners.length c7,Sl a8 t.town.polls.length c8,I t.town.net.now,Sl a9 t.town.net.way.length c9,I t.reach,Sl a10 t.fates.length c10,Sl a11 t.events.length c11]]::r1::r2::r3::r4::[Sg b1 0 [I l.to_,I (kn1:Int),I l.since,I l.due,Sl a1 l.heads.length c1,I l.reply.head.epoch,U l.reply.head.root,U l.reply.head.prev,I l.reply.head.at_,Sr l.reply.proof.name,Sl a2 l.reply.proof.entries.length c2,Sl a3 l.reply.proof.sides.length c3]]::Lr)) (by (simp only [KU,Kp,KE,Wp,J6,Qz,QZ,Q9,e1];first | done | rfl)) (Jf [0,0,0,0,0,2,0,0,0] [(4,I (IntKind.i64.wrap ((t.town.clerk.heads.length:Int)-1)))] (Jg3 4 ((t.town.clerk.heads.length:Int)-1) (by (have q_:=(Jb4 (l:=l) (by have q_:=h_5.fit;simp only [KA] at q_;omega) hreach);have q2_:=h_5.fit;simp only [KA] at q2_;omega)) ?_))
 have e2:(t.town.clerk.heads.length:Int)-1=WN t:=rfl
 refine QX 4 (I (WN t)) (congrArg I e2) (Jf [0,12,0,0,0,0] [(5,I (if 0 > (if (WN t)<l.since then (WN t) else l.since) then 0 else (if (WN t)<l.since then (WN t) else l.since)))] ?_)
 have e3:(if 0 > (if (WN t)<l.since then (WN t) else l.since) then 0 else (if (WN t)<l.since then (WN t) else l.since))=WH t l:=rfl
 refine QX 5 (I (WH t l)) (congrArg I e3) (Jf [0,0,0,0,2,0,0,0,0,0] [(6,I (if (WN t)<(IntKind.i64.wrap ((IntKind.i64.wrap ((WH t l)+t.reach))-1)) then (WN t) else (IntKind.i64.wrap ((IntKind.i64.wrap ((WH t l)+t.reach))-1))))] ?_)
 have e4:IntKind.i64.wrap ((WH t l)+t.reach)=(WH t l)+t.reach:=IntWalk.i64_in _ (by (have q_:=(Jb4 (l:=l) (by have q_:=h_5.fit;simp only [KA] at q_;omega) hreach);have q2_:=h_5.fit;simp only [KA] at q2_;omega))
 have e5:IntKind.i64.wrap (((WH t l)+t.reach)-1)=((WH t l)+t.reach)-1:=IntWalk.i64_in _ (by (have q_:=(Jb4 (l:=l) (by have q_:=h_5.fit;simp only [KA] at q_;omega) hreach);have q2_:=h_5.fit;simp only [KA] at q2_;omega))
 refine QX 6 (I (if (WN t)<(((WH t l)+t.reach)-1) then (WN t) else (((WH t l)+t.reach)-1))) (show (I (if (WN t)<(IntKind.i64.wrap ((IntKind.i64.wrap ((WH t l)+t.reach))-1)) then (WN t) else (IntKind.i64.wrap ((IntKind.i64.wrap ((WH t l)+t.reach))-1))):Value)=I (if (WN t)<(((WH t l)+t.reach)-1) then (WN t) else (((WH t l)+t.reach)-1)) by simp only [e4,e5]) ?_
 clear e5 e4
 have e6:(if (WN t)<(((WH t l)+t.reach)-1) then (WN t) else (((WH t l)+t.reach)-1))=Vc t l:=rfl
 refine QX 6 (I (Vc t l)) (congrArg I e6) (Je (Jc (Ja [0,0,0,0,2,0,0] [(43,(Qz t.town.clerk a4 c4 a5 c5 a6 c6)),(44,I (WH t l)),(45,I (Vc t l))] (JF 46 (JfM G1 (KU t.town.clerk a4 c4 a5 c5 a6 c6) t.town.clerk (⟨a4,c4,a5,c5,a6,c6,rfl,‹_›,hs4,‹_›,‹_›,‹_›,hs5,hs6⟩) (WH t l) J7 (Vc t l) (by (have q_:=(Jb4 (l:=l) (by have q_:=h_5.fit;simp only [KA] at q_;omega) hreach);omega))) (fun v G2 L1 hl2 hp=>?_)))))
 obtain ⟨a12,c12,rfl,hs8,rfl⟩:=hp
 refine Ja [0,0,0,0,0] [(7,Sl a12 (((JhQ l t).1).length) c12)] (Jd (Jb ?_))
 refine Yv (σ:=Nat×(Option Addr)×Nat×(Option Addr)×Nat×Jp) (fun q_=>(Jp.le G2 q_.2.2.2.2.2)∧(rI (((Y0 kn1 l t).1).head.epoch))∧(rU (((Y0 kn1 l t).1).head.root))∧(rU (((Y0 kn1 l t).1).head.prev))∧(rI (((Y0 kn1 l t).1).head.at_))∧((((Y0 kn1 l t).1).proof.name).length≤140737488351232)∧(RS QA q_.2.2.2.2.2 q_.2.1 q_.2.2.1 (((Y0 kn1 l t).1).proof.entries))∧(RS EU q_.2.2.2.2.2 q_.2.2.2.1 q_.2.2.2.2.1 (((Y0 kn1 l t).1).proof.sides))) (fun q_=>[(0,Pt b 0),(3,Pt b1 0),(7,Sl a12 (((JhQ l t).1).length) c12),(9,Pt q_.1 0)]) (fun q_=>q_.2.2.2.2.2) (fun q_=>([Sg q_.1 0 (Wp (Y0 kn1 l t).1 q_.2.1 q_.2.2.1 q_.2.2.2.1 q_.2.2.2.2.1)]::[Sg b 0 (J6 t a4 c4 a5 c5 a6 c6 a7 c7 a8 c8 a9 c9 a10 c10 a11 c11)]::r1::r2::r3::r4::[Sg b1 0 (Kp (z5_2 kn1 l) a1 c1 a2 c2 a3 c3)]::Lr)) ?_ (fun q_ hs=>?_)
 have hx1:(t.town.owners)[kn1]? = some (Js t (kn1:Int)):=YI (by omega)
 obtain ⟨b2,o1,_,_,⟨a13,c13,rfl,w16,_,_,_,_,_,_,_⟩,ha1,hre1,hc1⟩:=J0.ix (hr1.mono hl2) hx1
 refine Ko [16,20,21] (Wm [(0,Pt b 0),(1,Pt b 0),(2,Pt b 0),(3,Pt b 0),(4,(Qz t.town.clerk a4 c4 a5 c5 a6 c6)),(5,Pt b 0),(6,Pt b 0),(7,Pt b 0),(8,Pt b 7),(9,Sl a7 t.town.owners.length c7),(10,Pt b1 1),(11,I (kn1:Int)),(12,Pt b2 (o1+kn1*8)),(13,Pt b2 (o1+kn1*8)),(14,Sr ((Js t (kn1:Int)).name)),(15,I (Vc t l))] (JK [] [(0,0),(1,0),(2,0),(3,0),(4,2),(5,0),(6,0),(7,0),(8,0),(9,2),(10,0),(11,12),(13,0),(15,0)] [12,14] [16,20] (Ke ?_ (Ke ?_ K4)) (Ke ?_ (Ke ?_ K4))))
 refine Jr 12 62 (Pt b2 (o1+kn1*8)) [(59,Sl a7 t.town.owners.length c7),(61,I (kn1:Int))] (fun X=>?_)
 exact QI (b:=b2) (off:=o1) (len:=t.town.owners.length) (cap:=c7) (ik:=.i64) 62 76 8 kn1 ha1 J7 Jn
 refine Jr 14 64 (Sr ((Js t (kn1:Int)).name)) [(63,Pt b2 (o1+kn1*8))] (fun X=>?_)
 exact W5 (off:=o1) (p:=kn1*8) (cs:=(KE (Js t (kn1:Int)) a13 c13)) 64 9 1 0 (Sr ((Js t (kn1:Int)).name)) hre1 hc1 Jn
 refine JD 16 [(54,(Qz t.town.clerk a4 c4 a5 c5 a6 c6)),(64,Sr ((Js t (kn1:Int)).name)),(65,I (Vc t l))] (fun X=>?_)
 refine JF 66 (VC G2 (KU t.town.clerk a4 c4 a5 c5 a6 c6) t.town.clerk (⟨a4,c4,a5,c5,a6,c6,rfl,‹_›,(hs4.mono hl2),‹_›,‹_›,‹_›,(hs5.mono hl2),(hs6.mono hl2)⟩) ((Js t (kn1:Int)).name) w16 (Vc t l) (by (have q_:=(Jb4 (l:=l) (by have q_:=h_5.fit;simp only [KA] at q_;omega) hreach);omega))) (fun v G3 L1 hl3 hp=>?_)
 obtain ⟨a14,c14,a15,c15,rfl,w23,w24,w25,w26,w27,hs10,hs11,rfl⟩:=hp
 refine JC [(16,.tuple #[(Q9 (Y0 kn1 l t).1 a14 c14 a15 c15),I ((Y0 kn1 l t).2)]),(17,.tuple #[(Q9 (Y0 kn1 l t).1 a14 c14 a15 c15),I ((Y0 kn1 l t).2)]),(18,(Q9 (Y0 kn1 l t).1 a14 c14 a15 c15)),(19,I ((Y0 kn1 l t).2))] (JK [0,1,2,3,4,5,6,7,8,9,10,11,12,13,14,15] [(17,0),(18,0),(19,0)] [] [20] (List.forall_mem_nil _) (Ke ?_ K4))
 refine JD 20 [] (fun X=>?_)
 refine Jv 9 #[I 0,U 0,U 0,I 0,Sr ([]),Sl none 0 0,Sl none 0 0] 49 (fun b3=>JC [(20,Pt b3 0)] (JK [0,1,2,3,4,5,6,7,8,9,10,11,12,13,14,15] [(17,0),(18,0),(19,0)] [] [21] (List.forall_mem_nil _) (Ke ?_ K4)))
 refine JD 21 [(9,Pt b3 0),(67,(Q9 (Y0 kn1 l t).1 a14 c14 a15 c15))] (fun X=>?_)
 exact KL 0 ([Sg b3 0 (Wp (Y0 kn1 l t).1 a14 c14 a15 c15)]::[Sg b 0 (J6 t a4 c4 a5 c5 a6 c6 a7 c7 a8 c8 a9 c9 a10 c10 a11 c11)]::r1::r2::r3::r4::[Sg b1 0 (Kp (z5_2 kn1 l) a1 c1 a2 c2 a3 c3)]::Lr) (Kc [(22,I ((Y0 kn1 l t).2))] (Km [0,1,2,3,4,5,6,7,8,9,10,11,12,13,14,15,17,18] [(19,0),(22,0)] [] [(0,Pt b 0),(3,Pt b1 0),(7,Sl a12 (((JhQ l t).1).length) c12),(9,Pt b3 0)] (List.forall_mem_nil _) (Wb (b3,a14,c14,a15,c15,G3) ⟨hl3,w23,w24,w25,w26,w27,hs10,hs11⟩)))
 refine JD 20 [] (fun X=>?_)
 refine Jv 9 #[I 0,U 0,U 0,I 0,Sr ([]),Sl none 0 0,Sl none 0 0] 49 (fun b4=>JC [(20,Pt b4 0)] (JK [] [(0,0),(1,0),(2,0),(3,0),(4,4),(5,0),(6,0),(7,0),(8,0),(9,4),(10,0),(11,14),(13,0),(15,0)] [12,14] [16] (Ke ?_ (Ke ?_ K4)) (Ke ?_ K4)))
 refine Jr 12 62 (Pt b2 (o1+kn1*8)) [(59,Sl a7 t.town.owners.length c7),(61,I (kn1:Int))] (fun X=>?_)
 exact QI (b:=b2) (off:=o1) (len:=t.town.owners.length) (cap:=c7) (ik:=.i64) 62 76 8 kn1 ha1 J7 Jn
 refine Jr 14 64 (Sr ((Js t (kn1:Int)).name)) [(63,Pt b2 (o1+kn1*8))] (fun X=>?_)
 exact W5 (off:=o1) (p:=kn1*8) (cs:=(KE (Js t (kn1:Int)) a13 c13)) 64 9 2 0 (Sr ((Js t (kn1:Int)).name)) hre1 hc1 Jn
 refine JD 16 [(54,(Qz t.town.clerk a4 c4 a5 c5 a6 c6)),(64,Sr ((Js t (kn1:Int)).name)),(65,I (Vc t l))] (fun X=>?_)
 refine JF 66 (VC G2 (KU t.town.clerk a4 c4 a5 c5 a6 c6) t.town.clerk (⟨a4,c4,a5,c5,a6,c6,rfl,‹_›,(hs4.mono hl2),‹_›,‹_›,‹_›,(hs5.mono hl2),(hs6.mono hl2)⟩) ((Js t (kn1:Int)).name) w16 (Vc t l) (by (have q_:=(Jb4 (l:=l) (by have q_:=h_5.fit;simp only [KA] at q_;omega) hreach);omega))) (fun v G4 L1 hl4 hp=>?_)
 obtain ⟨a16,c16,a17,c17,rfl,w28,w29,w30,w31,w32,hs12,hs13,rfl⟩:=hp
 refine JC [(16,.tuple #[(Q9 (Y0 kn1 l t).1 a16 c16 a17 c17),I ((Y0 kn1 l t).2)]),(17,.tuple #[(Q9 (Y0 kn1 l t).1 a16 c16 a17 c17),I ((Y0 kn1 l t).2)]),(18,(Q9 (Y0 kn1 l t).1 a16 c16 a17 c17)),(19,I ((Y0 kn1 l t).2))] (JK [0,1,2,3,4,5,6,7,8,9,10,11,12,13,14,15] [(17,0),(18,0),(19,0)] [] [21] (List.forall_mem_nil _) (Ke ?_ K4))
 refine JD 21 [(9,Pt b4 0),(67,(Q9 (Y0 kn1 l t).1 a16 c16 a17 c17))] (fun X=>?_)
 exact KL 0 ([Sg b4 0 (Wp (Y0 kn1 l t).1 a16 c16 a17 c17)]::[Sg b 0 (J6 t a4 c4 a5 c5 a6 c6 a7 c7 a8 c8 a9 c9 a10 c10 a11 c11)]::r1::r2::r3::r4::[Sg b1 0 (Kp (z5_2 kn1 l) a1 c1 a2 c2 a3 c3)]::Lr) (Kc [(22,I ((Y0 kn1 l t).2))] (Km [0,1,2,3,4,5,6,7,8,9,10,11,12,13,14,15,17,18] [(19,0),(22,0)] [] [(0,Pt b 0),(3,Pt b1 0),(7,Sl a12 (((JhQ l t).1).length) c12),(9,Pt b4 0)] (List.forall_mem_nil _) (Wb (b4,a16,c16,a17,c17,G4) ⟨hl4,w28,w29,w30,w31,w32,hs12,hs13⟩)))
 obtain ⟨b3,a14,c14,a15,c15,G3⟩:=q_
 obtain ⟨hle1,hj1,hj2,hj3,hj4,hj5,hj6,hj7⟩:=hs
 dsimp only at hle1 hj1 hj2 hj3 hj4 hj5 hj6 hj7
 dsimp only
 refine Jc (Ja [0,0,14,0,2,0] [(69,Pt b 0),(74,(QZ (⟨(kn1:Int),0,0,0,(JhQ l t).1,(Y0 kn1 l t).1⟩:JS) a12 c12 a14 c14 a15 c15))] (Jx 5 (Jx 5 (Jx 5 (Jx 5 (Jx 5 (Qn (Ls:=[[Sg b 0 (J6 t a4 c4 a5 c5 a6 c6 a7 c7 a8 c8 a9 c9 a10 c10 a11 c11)],r1,r2,r3,r4]) (Lr:=([Sg b3 0 (Wp (Y0 kn1 l t).1 a14 c14 a15 c15)]::[Sg b1 0 (Kp (z5_2 kn1 l) a1 c1 a2 c2 a3 c3)]::Lr)) 75 (JgV G3 b t a4 c4 a5 c5 a6 c6 a7 c7 a8 c8 a9 c9 a10 c10 a11 c11 r1 r2 r3 r4 ‹_› (hs4.mono (Jp.le_trans hl2 hle1)) ‹_› ‹_› ‹_› (hs5.mono (Jp.le_trans hl2 hle1)) (hs6.mono (Jp.le_trans hl2 hle1)) (hr1.mono (Jp.le_trans hl2 hle1)) (hr2.mono (Jp.le_trans hl2 hle1)) ‹_› (hs7.mono (Jp.le_trans hl2 hle1)) ‹_› (hr3.mono (Jp.le_trans hl2 hle1)) (hr4.mono (Jp.le_trans hl2 hle1)) (Kp (⟨(kn1:Int),0,0,0,(JhQ l t).1,(Y0 kn1 l t).1⟩:JS) a12 c12 a14 c14 a15 c15) (⟨(kn1:Int),0,0,0,(JhQ l t).1,((Y0 kn1 l t).1)⟩:JS) (⟨a12,c12,a14,c14,a15,c15,rfl,(by (dsimp only;omega)),(by (dsimp only;omega)),(by (dsimp only;omega)),(by (dsimp only;omega)),(hs8.mono hle1),hj1,hj2,hj3,hj4,hj5,hj6,hj7⟩)) (fun v G5 L1 hl5 hp=>?_))))))))
 obtain ⟨a18,c18,a19,c19,a20,c20,a21,c21,a22,c22,a23,c23,a24,c24,a25,c25,r5,r6,r7,r8,rfl,w33,hs14,w34,w35,w36,hs15,hs16,hr5,hr6,w37,hs17,w38,hr7,hr8,rfl⟩:=hp
 refine Jd (Ji 4 (Ji 4 (Ji 4 (Ji 4 (Ji 4 ?_)))))
 have hf2:Qi t l=(Wi t (⟨(kn1:Int),0,0,0,(JhQ l t).1,((Y0 kn1 l t).1)⟩:JS)):=by
  (rw [Jox ‹_› ‹_›];done)
 refine ZC [] [] (KQ (Lr:=Lr) [[Sg b 0 (J6 (Wi t (⟨(kn1:Int),0,0,0,(JhQ l t).1,((Y0 kn1 l t).1)⟩:JS)) a18 c18 a19 c19 a20 c20 a21 c21 a22 c22 a23 c23 a24 c24 a25 c25)],r5,r6,r7,r8] (Jp.le_trans (Jp.le_trans (Jp.le_trans hl1 hl2) hle1) hl5) ?_)
 rw [hf2];try dsimp only
 exact ⟨a18,c18,a19,c19,a20,c20,a21,c21,a22,c22,a23,c23,a24,c24,a25,c25,r5,r6,r7,r8,rfl,w33,hs14,w34,w35,w36,hs15,hs16,hr5,hr6,w37,hs17,w38,hr7,hr8,rfl⟩
set_option maxRecDepth 20000 in
abbrev YT (kn1:Nat) (l:JS) (t:JL):=Q6 (⟨(⟨t.town.clerk,t.town.owners.set kn1 ((Ju (Js t (kn1:Int)) l.heads l.reply).1),t.town.polls,t.town.net⟩:Wf),t.reach,t.fates,t.events⟩:JL) 2 (kn1:Int) ((Ju (Js t (kn1:Int)) l.heads l.reply).2.1) (((Ju (Js t (kn1:Int)) l.heads l.reply).1).head.epoch)
abbrev W0 (kn1:Nat) (l:JS) (t:JL):=Ju (Js t (kn1:Int)) l.heads l.reply
abbrev Jbm (kn1:Nat) (l:JS) (t:JL):=Q7 (QL (YT kn1 l t) (kn1:Int)) ((YT kn1 l t).town.clerk.now)
abbrev z6_3 (kn1:Nat) (l:JS):=(⟨(kn1:Int),l.from_,l.since,l.due,l.heads,l.reply⟩:JS)
abbrev Jgp (kn1:Nat) (l:JS) (t:JL):=QL (YT kn1 l t) (kn1:Int)
theorem Joy (G:Jp) (b:Nat) (t:JL) (a_1:Option Addr) (c_1:Nat) (a_5:Option Addr) (c_5:Nat) (a_6:Option Addr) (c_6:Nat) (a_7:Option Addr) (c_7:Nat) (a_8:Option Addr) (c_8:Nat) (a_10:Option Addr) (c_10:Nat) (a_12:Option Addr) (c_12:Nat) (a_13:Option Addr) (c_13:Nat) (r_7:List Kg) (r_8:List Kg) (r_12:List Kg) (r_13:List Kg) (h_0:rI t.town.clerk.queue.most) (h_1:RS Q3 G a_1 c_1 t.town.clerk.queue.wait) (h_2:rI t.town.clerk.batch) (h_3:rI t.town.clerk.every) (h_4:rI t.town.clerk.now) (h_5:RS KA G a_5 c_5 t.town.clerk.heads) (h_6:RS Qs G a_6 c_6 t.town.clerk.books) (h_7:J0 Q1 G a_7 c_7 t.town.owners r_7) (h_8:J0 Wy G a_8 c_8 t.town.polls r_8) (h_9:rI t.town.net.now) (h_10:RS Kh G a_10 c_10 t.town.net.way) (h_11:rI t.reach) (h_12:J0 Vk G a_12 c_12 t.fates r_12) (h_13:J0 Wn G a_13 c_13 t.events r_13) (vs_l:List Value) (l:JS) (h_l:Kh.R G vs_l l) (hev:t.events.length≤1000000) (hto:0≤l.to_∧l.to_<t.town.owners.length) (hpl:t.town.polls.length=t.town.owners.length):Jcf 113 #[Pt b 0,.agg vs_l.toArray] G [[Sg b 0 [I t.town.clerk.queue.most,Sl a_1 t.town.clerk.queue.wait.length c_1,I t.town.clerk.batch,I t.town.clerk.every,I t.town.clerk.now,Sl a_5 t.town.clerk.heads.length c_5,Sl a_6 t.town.clerk.books.length c_6,Sl a_7 t.town.owners.length c_7,Sl a_8 t.town.polls.length c_8,I t.town.net.now,Sl a_10 t.town.net.way.length c_10,I t.reach,Sl a_12 t.fates.length c_12,Sl a_13 t.events.length c_13]],r_7,r_8,r_12,r_13] (fun u G' L'=>∃ (a_z1:Option Addr) (c_z1:Nat) (a_z5:Option Addr) (c_z5:Nat) (a_z6:Option Addr) (c_z6:Nat) (a_z7:Option Addr) (c_z7:Nat) (a_z8:Option Addr) (c_z8:Nat) (a_z10:Option Addr) (c_z10:Nat) (a_z12:Option Addr) (c_z12:Nat) (a_z13:Option Addr) (c_z13:Nat) (r_z7:List Kg) (r_z8:List Kg) (r_z12:List Kg) (r_z13:List Kg),u=.tuple #[]∧(rI ((ZV t l).town.clerk.queue.most))∧(RS Q3 G' a_z1 c_z1 ((ZV t l).town.clerk.queue.wait))∧(rI ((ZV t l).town.clerk.batch))∧(rI ((ZV t l).town.clerk.every))∧(rI ((ZV t l).town.clerk.now))∧(RS KA G' a_z5 c_z5 ((ZV t l).town.clerk.heads))∧(RS Qs G' a_z6 c_z6 ((ZV t l).town.clerk.books))∧(J0 Q1 G' a_z7 c_z7 ((ZV t l).town.owners) r_z7)∧(J0 Wy G' a_z8 c_z8 ((ZV t l).town.polls) r_z8)∧(rI ((ZV t l).town.net.now))∧(RS Kh G' a_z10 c_z10 ((ZV t l).town.net.way))∧(rI ((ZV t l).reach))∧(J0 Vk G' a_z12 c_z12 ((ZV t l).fates) r_z12)∧(J0 Wn G' a_z13 c_z13 ((ZV t l).events) r_z13)∧L'=[[Sg b 0 [I ((ZV t l).town.clerk.queue.most),Sl a_z1 (((ZV t l).town.clerk.queue.wait).length) c_z1,I ((ZV t l).town.clerk.batch),I ((ZV t l).town.clerk.every),I ((ZV t l).town.clerk.now),Sl a_z5 (((ZV t l).town.clerk.heads).length) c_z5,Sl a_z6 (((ZV t l).town.clerk.books).length) c_z6,Sl a_z7 (((ZV t l).town.owners).length) c_z7,Sl a_z8 (((ZV t l).town.polls).length) c_z8,I ((ZV t l).town.net.now),Sl a_z10 (((ZV t l).town.net.way).length) c_z10,I ((ZV t l).reach),Sl a_z12 (((ZV t l).fates).length) c_z12,Sl a_z13 (((ZV t l).events).length) c_z13]],r_z7,r_z8,r_z12,r_z13]):=by
 obtain ⟨a1,c1,a2,c2,a3,c3,rfl,_,_,_,_,hs1,w5,w6,w7,w8,w9,hs2,hs3⟩:=h_l
 intro Lr
 refine JN Tryz.func113 75 [(0,Pt b 0),(1,(QZ l a1 c1 a2 c2 a3 c3))] rfl (fun w0 G0=>?_)
 show TC _ _ _ _ _ ([Sg b 0 (J6 t a_1 c_1 a_5 c_5 a_6 c_6 a_7 c_7 a_8 c_8 a_10 c_10 a_12 c_12 a_13 c_13)]::r_7::r_8::r_12::r_13::Lr)
 refine Je (Jc (Jv 3 #[I l.to_,I l.from_,I l.since,I l.due,Sl a1 l.heads.length c1,I l.reply.head.epoch,U l.reply.head.root,U l.reply.head.prev,I l.reply.head.at_,Sr l.reply.proof.name,Sl a2 l.reply.proof.entries.length c2,Sl a3 l.reply.proof.sides.length c3] 51 (fun b1=>Jd (Jb ?_))))
 obtain ⟨kn1,hkn1⟩:∃ k_:Nat,l.to_=(k_:Int):=⟨(l.to_).toNat,by omega⟩
 have e1:l.to_=(kn1:Int):=hkn1
 refine QX 1 (.agg #[I (kn1:Int),I l.from_,I l.since,I l.due,Sl a1 l.heads.length c1,I l.reply.head.epoch,U l.reply.head.root,U l.reply.head.prev,I l.reply.head.at_,Sr l.reply.proof.name,Sl a2 l.reply.proof.entries.length c2,Sl a3 l.reply.proof.sides.length c3]) (show (.agg #[I l.to_,I l.from_,I l.since,I l.due,Sl a1 l.heads.length c1,I l.reply.head.epoch,U l.reply.head.root,U l.reply.head.prev,I l.reply.head.at_,Sr l.reply.proof.name,Sl a2 l.reply.proof.entries.length c2,Sl a3 l.reply.proof.sides.length c3]:Value)=.agg #[I (kn1:Int),I l.from_,I l.since,I l.due,Sl a1 l.heads.length c1,I l.reply.head.epoch,U l.reply.head.root,U l.reply.head.prev,I l.reply.head.at_,Sr l.reply.proof.name,Sl a2 l.reply.proof.entries.length c2,Sl a3 l.reply.proof.sides.length c3] by simp only [e1]) (Jcy (L':=([Sg b1 0 [I (kn1:Int),I l.from_,I l.since,I l.due,Sl a1 l.heads.length c1,I l.reply.head.epoch,U l.reply.head.root,U l.reply.head.prev,I l.reply.head.at_,Sr l.reply.proof.name,Sl a2 l.reply.proof.entries.length c2,Sl a3 l.reply.proof.sides.length c3]]::[Sg b 0 [I t.town.clerk.queue.most,Sl a_1 t.town.clerk.queue.wait.length c_1,I t.town.clerk.batch,I t.town.clerk.every,I t.town.clerk.now,Sl a_5 t.town.clerk.heads.length c_5,Sl a_6 t.town.clerk.books.length c_6,Sl a_7 t.town.owners.length c_7,Sl a_8 t.town.polls.length c_8,I t.town.net.now,Sl a_10 t.town.net.way.length c_10,I t.reach,Sl a_12 t.fates.length c_12,Sl a_13 t.events.length c_13]]::r_7::r_8::r_12::r_13::Lr)) (by (simp only [Kp,KE,YQ,Wp,J6,QZ,Ku,Zt,Q9,e1];first | done | rfl)) ?_)
 refine Yv (σ:=Nat×(Option Addr)×Nat×Jp) (fun q_=>(Jp.le G q_.2.2.2)∧((((W0 kn1 l t).1).name).length≤140737488351232)∧(rU (((W0 kn1 l t).1).key))∧(rI (((W0 kn1 l t).1).head.epoch))∧(rU (((W0 kn1 l t).1).head.root))∧(rU (((W0 kn1 l t).1).head.prev))∧(rI (((W0 kn1 l t).1).head.at_))∧(RS ES q_.2.2.2 q_.2.1 q_.2.2.1 (((W0 kn1 l t).1).wanted))∧(rI (((W0 kn1 l t).1).had))) (fun q_=>[(0,Pt b 0),(3,Pt b1 0),(4,Pt q_.1 0),(5,I ((W0 kn1 l t).2.1))]) (fun q_=>q_.2.2.2) (fun q_=>([Sg q_.1 0 (KE (W0 kn1 l t).1 q_.2.1 q_.2.2.1)]::[Sg b1 0 (Kp (z6_3 kn1 l) a1 c1 a2 c2 a3 c3)]::[Sg b 0 (J6 t a_1 c_1 a_5 c_5 a_6 c_6 a_7 c_7 a_8 c_8 a_10 c_10 a_12 c_12 a_13 c_13)]::r_7::r_8::r_12::r_13::Lr)) ?_ (fun q_ hs=>?_)
 have hx1:(t.town.owners)[kn1]? = some (Js t (kn1:Int)):=YI (by omega)
 obtain ⟨b2,o1,_,_,⟨a4,c4,rfl,w10,w11,w12,w13,w14,w15,hs4,w16⟩,ha1,hre1,hc1⟩:=J0.ix h_7 hx1
 refine Ko [13,18,19] (Wm [(0,Pt b 0),(1,Pt b 0),(2,Pt b 0),(3,Pt b 7),(4,Sl a_7 t.town.owners.length c_7),(5,Pt b1 0),(6,I (kn1:Int)),(7,Pt b2 (o1+kn1*8)),(8,(Ku (Js t (kn1:Int)) a4 c4)),(9,Pt b1 4),(10,Sl a1 l.heads.length c1),(11,Pt b1 5),(12,(Q9 l.reply a2 c2 a3 c3))] (JK [] [(0,0),(1,0),(2,0),(3,0),(4,4),(5,0),(6,2),(9,0),(10,2),(11,0),(12,2)] [7,8] [13,18] (Ke ?_ (Ke ?_ K4)) (Ke ?_ (Ke ?_ K4))))
 refine Jr 7 15 (Pt b2 (o1+kn1*8)) [(12,Sl a_7 t.town.owners.length c_7),(14,I (kn1:Int))] (fun X=>?_)
 exact QI (b:=b2) (off:=o1) (len:=t.town.owners.length) (cap:=c_7) (ik:=.i64) 15 76 8 kn1 ha1 J7 Jn
 refine Jr 8 16 (Ku (Js t (kn1:Int)) a4 c4) [(15,Pt b2 (o1+kn1*8))] (fun X=>?_)
 exact W5 (off:=o1) (p:=kn1*8) (cs:=(KE (Js t (kn1:Int)) a4 c4)) 16 76 2 0 (Ku (Js t (kn1:Int)) a4 c4) hre1 hc1 Jn
 refine JD 13 [(16,(Ku (Js t (kn1:Int)) a4 c4)),(18,Sl a1 l.heads.length c1),(20,(Q9 l.reply a2 c2 a3 c3))] (fun X=>?_)
 refine JF 21 (Jbf G (KE (Js t (kn1:Int)) a4 c4) (Js t (kn1:Int)) (⟨a4,c4,rfl,w10,w11,w12,w13,w14,w15,hs4,w16⟩) a1 c1 l.heads hs1 (Wp l.reply a2 c2 a3 c3) l.reply (⟨a2,c2,a3,c3,rfl,w5,w6,w7,w8,w9,hs2,hs3⟩)) (fun v G1 L1 hl1 hp=>?_)
 obtain ⟨a5,c5,rfl,w17,w18,w19,w20,w21,w22,hs5,w23,rfl⟩:=hp
 refine JC [(13,.tuple #[(Ku (W0 kn1 l t).1 a5 c5),I ((W0 kn1 l t).2.1),I ((W0 kn1 l t).2.2)]),(14,.tuple #[(Ku (W0 kn1 l t).1 a5 c5),I ((W0 kn1 l t).2.1),I ((W0 kn1 l t).2.2)]),(15,(Ku (W0 kn1 l t).1 a5 c5)),(16,I ((W0 kn1 l t).2.1)),(17,I ((W0 kn1 l t).2.2))] (JK [0,1,2,3,4,5,6,7,8,9,10,11,12] [(14,0),(15,0),(16,0),(17,0)] [] [18] (List.forall_mem_nil _) (Ke ?_ K4))
 refine JD 18 [] (fun X=>?_)
 refine Jv 4 #[Sr ([]),U 0,I 0,U 0,U 0,I 0,Sl none 0 0,I 0] 76 (fun b3=>JC [(18,Pt b3 0)] (JK [0,1,2,3,4,5,6,7,8,9,10,11,12] [(14,0),(15,0),(16,0),(17,0)] [] [19] (List.forall_mem_nil _) (Ke ?_ K4)))
 refine JD 19 [(4,Pt b3 0),(22,(Ku (W0 kn1 l t).1 a5 c5))] (fun X=>?_)
 exact KL 0 ([Sg b3 0 (KE (W0 kn1 l t).1 a5 c5)]::[Sg b1 0 (Kp (z6_3 kn1 l) a1 c1 a2 c2 a3 c3)]::[Sg b 0 (J6 t a_1 c_1 a_5 c_5 a_6 c_6 a_7 c_7 a_8 c_8 a_10 c_10 a_12 c_12 a_13 c_13)]::r_7::r_8::r_12::r_13::Lr) (Kc [(20,I ((W0 kn1 l t).2.1)),(21,I ((W0 kn1 l t).2.2))] (Km [0,1,2,3,4,5,6,7,8,9,10,11,12,14,15] [(16,0),(17,0),(20,0),(21,0)] [] [(0,Pt b 0),(3,Pt b1 0),(4,Pt b3 0),(5,I ((W0 kn1 l t).2.1))] (List.forall_mem_nil _) (Wb (b3,a5,c5,G1) ⟨hl1,w17,w18,w19,w20,w21,w22,hs5,w23⟩)))
 refine JD 18 [] (fun X=>?_)
 refine Jv 4 #[Sr ([]),U 0,I 0,U 0,U 0,I 0,Sl none 0 0,I 0] 76 (fun b4=>JC [(18,Pt b4 0)] (JK [] [(0,0),(1,0),(2,0),(3,0),(4,6),(5,0),(6,4),(9,0),(10,4),(11,0),(12,4)] [7,8] [13] (Ke ?_ (Ke ?_ K4)) (Ke ?_ K4)))
 refine Jr 7 15 (Pt b2 (o1+kn1*8)) [(12,Sl a_7 t.town.owners.length c_7),(14,I (kn1:Int))] (fun X=>?_)
 exact QI (b:=b2) (off:=o1) (len:=t.town.owners.length) (cap:=c_7) (ik:=.i64) 15 76 8 kn1 ha1 J7 Jn
 refine Jr 8 16 (Ku (Js t (kn1:Int)) a4 c4) [(15,Pt b2 (o1+kn1*8))] (fun X=>?_)
 exact W5 (off:=o1) (p:=kn1*8) (cs:=(KE (Js t (kn1:Int)) a4 c4)) 16 76 3 0 (Ku (Js t (kn1:Int)) a4 c4) hre1 hc1 Jn
 refine JD 13 [(16,(Ku (Js t (kn1:Int)) a4 c4)),(18,Sl a1 l.heads.length c1),(20,(Q9 l.reply a2 c2 a3 c3))] (fun X=>?_)
 refine JF 21 (Jbf G (KE (Js t (kn1:Int)) a4 c4) (Js t (kn1:Int)) (⟨a4,c4,rfl,w10,w11,w12,w13,w14,w15,hs4,w16⟩) a1 c1 l.heads hs1 (Wp l.reply a2 c2 a3 c3) l.reply (⟨a2,c2,a3,c3,rfl,w5,w6,w7,w8,w9,hs2,hs3⟩)) (fun v G2 L1 hl2 hp=>?_)
 obtain ⟨a6,c6,rfl,w24,w25,w26,w27,w28,w29,hs6,w30,rfl⟩:=hp
 refine JC [(13,.tuple #[(Ku (W0 kn1 l t).1 a6 c6),I ((W0 kn1 l t).2.1),I ((W0 kn1 l t).2.2)]),(14,.tuple #[(Ku (W0 kn1 l t).1 a6 c6),I ((W0 kn1 l t).2.1),I ((W0 kn1 l t).2.2)]),(15,(Ku (W0 kn1 l t).1 a6 c6)),(16,I ((W0 kn1 l t).2.1)),(17,I ((W0 kn1 l t).2.2))] (JK [0,1,2,3,4,5,6,7,8,9,10,11,12] [(14,0),(15,0),(16,0),(17,0)] [] [19] (List.forall_mem_nil _) (Ke ?_ K4))
 refine JD 19 [(4,Pt b4 0),(22,(Ku (W0 kn1 l t).1 a6 c6))] (fun X=>?_)
 exact KL 0 ([Sg b4 0 (KE (W0 kn1 l t).1 a6 c6)]::[Sg b1 0 (Kp (z6_3 kn1 l) a1 c1 a2 c2 a3 c3)]::[Sg b 0 (J6 t a_1 c_1 a_5 c_5 a_6 c_6 a_7 c_7 a_8 c_8 a_10 c_10 a_12 c_12 a_13 c_13)]::r_7::r_8::r_12::r_13::Lr) (Kc [(20,I ((W0 kn1 l t).2.1)),(21,I ((W0 kn1 l t).2.2))] (Km [0,1,2,3,4,5,6,7,8,9,10,11,12,14,15] [(16,0),(17,0),(20,0),(21,0)] [] [(0,Pt b 0),(3,Pt b1 0),(4,Pt b4 0),(5,I ((W0 kn1 l t).2.1))] (List.forall_mem_nil _) (Wb (b4,a6,c6,G2) ⟨hl2,w24,w25,w26,w27,w28,w29,hs6,w30⟩)))
 obtain ⟨b3,a5,c5,G1⟩:=q_
 obtain ⟨hle1,hj1,hj2,hj3,hj4,hj5,hj6,hj7,hj8⟩:=hs
 dsimp only at hle1 hj1 hj2 hj3 hj4 hj5 hj6 hj7 hj8
 dsimp only
 refine Je ?_
 have hx2:(t.town.owners)[kn1]? = some (Js t (kn1:Int)):=YI (by omega)
 obtain ⟨b5,o2,_,_,⟨_,_,rfl,_,_,_,_,_,_,_,_⟩,ha2,_,_⟩:=J0.ix (h_7.mono hle1) hx2
 refine Ko [9] (Wm [(0,Pt b 0),(1,Pt b 0),(2,Pt b 0),(3,Pt b 7),(4,Sl a_7 t.town.owners.length c_7),(5,Pt b1 0),(6,I (kn1:Int)),(7,(Ku (W0 kn1 l t).1 a5 c5)),(8,Pt b5 (o2+kn1*8))] (JK [] [(0,0),(1,0),(2,0),(3,0),(4,6),(5,0),(6,4),(7,2)] [8] [9] (Ke ?_ K4) (Ke ?_ K4)))
 refine Jr 8 33 (Pt b5 (o2+kn1*8)) [(29,Sl a_7 t.town.owners.length c_7),(31,I (kn1:Int))] (fun X=>?_)
 exact QI (b:=b5) (off:=o2) (len:=t.town.owners.length) (cap:=c_7) (ik:=.i64) 33 76 8 kn1 ha2 J7 Jn
 refine JD 9 [(32,(Ku (W0 kn1 l t).1 a5 c5)),(33,Pt b5 (o2+kn1*8))] (fun X=>?_)
 refine YV (b:=b5) (off:=o2) 3 (h_7.mono hle1) kn1 ((W0 kn1 l t).1) ha2 J7 (Ku (W0 kn1 l t).1 a5 c5) (KE (W0 kn1 l t).1 a5 c5) ⟨a5,c5,rfl,hj1,hj2,hj3,hj4,hj5,hj6,hj7,hj8⟩ (fun r1 hr1=>?_)
 have e2:t.town.owners.length=(t.town.owners.set kn1 ((W0 kn1 l t).1)).length:=(List.length_set ..).symm
 refine Kc [] (Km [0,1,2,3,4,5,6,7,8] [] [] [(0,Pt b 0),(3,Pt b1 0),(4,Pt b3 0),(5,I ((W0 kn1 l t).2.1))] (List.forall_mem_nil _) (JkL (fr':=[(0,Pt b 0),(3,Pt b1 0),(4,Pt b3 0),(5,I ((Ju (Js t (kn1:Int)) l.heads l.reply).2.1))]) (L':=([Sg b3 0 [Sr (((Ju (Js t (kn1:Int)) l.heads l.reply).1).name),U (((Ju (Js t (kn1:Int)) l.heads l.reply).1).key),I (((Ju (Js t (kn1:Int)) l.heads l.reply).1).head.epoch),U (((Ju (Js t (kn1:Int)) l.heads l.reply).1).head.root),U (((Ju (Js t (kn1:Int)) l.heads l.reply).1).head.prev),I (((Ju (Js t (kn1:Int)) l.heads l.reply).1).head.at_),Sl a5 ((((Ju (Js t (kn1:Int)) l.heads l.reply).1).wanted).length) c5,I (((Ju (Js t (kn1:Int)) l.heads l.reply).1).had)]]::[Sg b1 0 [I (kn1:Int),I l.from_,I l.since,I l.due,Sl a1 l.heads.length c1,I l.reply.head.epoch,U l.reply.head.root,U l.reply.head.prev,I l.reply.head.at_,Sr l.reply.proof.name,Sl a2 l.reply.proof.entries.length c2,Sl a3 l.reply.proof.sides.length c3]]::[Sg b 0 [I t.town.clerk.queue.most,Sl a_1 t.town.clerk.queue.wait.length c_1,I t.town.clerk.batch,I t.town.clerk.every,I t.town.clerk.now,Sl a_5 t.town.clerk.heads.length c_5,Sl a_6 t.town.clerk.books.length c_6,Sl a_7 ((t.town.owners.set kn1 ((Ju (Js t (kn1:Int)) l.heads l.reply).1)).length) c_7,Sl a_8 t.town.polls.length c_8,I t.town.net.now,Sl a_10 t.town.net.way.length c_10,I t.reach,Sl a_12 t.fates.length c_12,Sl a_13 t.events.length c_13]]::r1::r_8::r_12::r_13::Lr)) (by rfl) (by (simp only [Kp,KE,YQ,Wp,J6,QZ,Ku,Zt,Q9,e2];first | done | rfl)) (Jb (Je (Jc (Ja [0,0,4,0,0,0,2] [(34,Pt b 0),(36,I (kn1:Int)),(37,I ((W0 kn1 l t).2.1)),(40,I (((W0 kn1 l t).1).head.epoch))] (Jx 6 (Jx 6 (Jx 6 (Jx 6 (Jx 6 (Qn (Ls:=[[Sg b 0 (J6 (⟨(⟨t.town.clerk,(t.town.owners.set kn1 ((W0 kn1 l t).1)),t.town.polls,t.town.net⟩:Wf),t.reach,t.fates,t.events⟩:JL) a_1 c_1 a_5 c_5 a_6 c_6 a_7 c_7 a_8 c_8 a_10 c_10 a_12 c_12 a_13 c_13)],r1,r_8,r_12,r_13]) (Lr:=([Sg b3 0 (KE (W0 kn1 l t).1 a5 c5)]::[Sg b1 0 (Kp (z6_3 kn1 l) a1 c1 a2 c2 a3 c3)]::Lr)) 41 (Jd6 G1 b (⟨(⟨t.town.clerk,t.town.owners.set kn1 ((W0 kn1 l t).1),t.town.polls,t.town.net⟩:Wf),t.reach,t.fates,t.events⟩:JL) a_1 c_1 a_5 c_5 a_6 c_6 a_7 c_7 a_8 c_8 a_10 c_10 a_12 c_12 a_13 c_13 r1 r_8 r_12 r_13 h_0 (h_1.mono hle1) h_2 h_3 h_4 (h_5.mono hle1) (h_6.mono hle1) hr1 (h_8.mono hle1) h_9 (h_10.mono hle1) h_11 (h_12.mono hle1) (h_13.mono hle1) 2 J7 (kn1:Int) J7 ((W0 kn1 l t).2.1) (Jpu _ _ _) (((W0 kn1 l t).1).head.epoch) hj3 ‹_›) (fun v G3 L1 hl3 hp=>?_)))))))))))))
 obtain ⟨a8,c8,a9,c9,a10,c10,a11,c11,a12,c12,a13,c13,a14,c14,a15,c15,r2,r3,r4,r5,rfl,w38,hs8,w39,w40,w41,hs9,hs10,hr2,hr3,w42,hs11,w43,hr4,hr5,rfl⟩:=hp
 refine Jd (Jb (Je (Jc (Ja [0,0,0] [(44,Bo (decide ((W0 kn1 l t).2.1=0)))] (Kn (decide ((W0 kn1 l t).2.1=0)) [44] [1,1,0] [0,0,0] (fun bb=>[(47,Bo (bb || (decide ((W0 kn1 l t).2.1=1))))]) (Jd (Jb (Jk ((decide ((W0 kn1 l t).2.1=0)) || (decide ((W0 kn1 l t).2.1=1))) (fun h1=>?_) (fun h1=>?_)))))))))
 have hx3:((YT kn1 l t).town.polls)[kn1]? = some (Jgp kn1 l t):=JfO (by (simp only [Q6];omega))
 obtain ⟨b6,o3,_,_,⟨rfl,w44,w45,w46,w47,w48,w49⟩,ha3,hre3,hc3⟩:=J0.ix hr3 hx3
 refine Ko [27] (Wm [(0,Pt b 0),(1,Pt b 0),(2,Pt b 0),(3,Pt b 8),(4,Sl a12 (((YT kn1 l t).town.polls).length) c12),(5,Pt b1 0),(6,I (kn1:Int)),(7,Pt b 0),(8,Pt b 0),(9,Pt b 0),(10,Pt b 8),(11,Sl a12 (((YT kn1 l t).town.polls).length) c12),(12,Pt b1 0),(13,I (kn1:Int)),(14,Pt b6 (o3+kn1*6)),(15,(Zt (Jgp kn1 l t))),(16,Pt b 0),(17,Pt b 0),(18,Pt b 0),(19,Pt b 0),(20,Pt b 4),(21,I ((YT kn1 l t).town.clerk.now)),(22,.tuple #[(Zt (Jbm kn1 l t).1),I ((Jbm kn1 l t).2)]),(23,.tuple #[(Zt (Jbm kn1 l t).1),I ((Jbm kn1 l t).2)]),(24,(Zt (Jbm kn1 l t).1)),(25,I ((Jbm kn1 l t).2)),(26,Pt b6 (o3+kn1*6))] (JK [] [(0,0),(1,0),(2,0),(3,0),(4,2),(5,0),(6,14),(7,0),(8,0),(9,0),(10,0),(11,2),(12,0),(13,14),(16,0),(17,0),(18,0),(19,0),(20,0),(21,2),(23,0),(24,0),(25,0)] [14,15,22,26] [27] (Ke ?_ (Ke ?_ (Ke ?_ (Ke ?_ K4)))) (Ke ?_ K4)))
 refine Jr 14 63 (Pt b6 (o3+kn1*6)) [(60,Sl a12 (((YT kn1 l t).town.polls).length) c12),(62,I (kn1:Int))] (fun X=>?_)
 exact QI (b:=b6) (off:=o3) (len:=((YT kn1 l t).town.polls).length) (cap:=c12) (ik:=.i64) 63 143 6 kn1 ha3 (by (simp only [Q6];omega)) Jn
 refine Jr 15 64 (Zt (Jgp kn1 l t)) [(63,Pt b6 (o3+kn1*6))] (fun X=>?_)
 exact W5 (off:=o3) (p:=kn1*6) (cs:=(YQ (Jgp kn1 l t))) 64 143 2 0 (Zt (Jgp kn1 l t)) hre3 hc3 Jn
 refine Jr 22 71 (.tuple #[(Zt (Jbm kn1 l t).1),I ((Jbm kn1 l t).2)]) [(64,(Zt (Jgp kn1 l t))),(70,I ((YT kn1 l t).town.clerk.now))] (fun X=>?_)
 exact Jj 71 (.tuple #[(Zt (Jbm kn1 l t).1),I ((Jbm kn1 l t).2)]) (Jgm G3 (YQ (Jgp kn1 l t)) (Jgp kn1 l t) (⟨rfl,w44,w45,w46,w47,w48,w49⟩) ((YT kn1 l t).town.clerk.now)) Jn
 refine Jr 26 74 (Pt b6 (o3+kn1*6)) [(53,Sl a12 (((YT kn1 l t).town.polls).length) c12),(55,I (kn1:Int))] (fun X=>?_)
 exact QI (b:=b6) (off:=o3) (len:=((YT kn1 l t).town.polls).length) (cap:=c12) (ik:=.i64) 74 143 6 kn1 ha3 (by (simp only [Q6];omega)) Jn
 refine JD 27 [(72,(Zt (Jbm kn1 l t).1)),(74,Pt b6 (o3+kn1*6))] (fun X=>?_)
 refine YV (b:=b6) (off:=o3) 2 hr3 kn1 ((Jbm kn1 l t).1) ha3 (by (simp only [Q6];omega)) (Zt (Jbm kn1 l t).1) (YQ (Jbm kn1 l t).1) ⟨rfl,(Jb5 _ _).least,(Jb5 _ _).most,(Jb5 _ _).lost,(Jb5 _ _).gap,(Jb5 _ _).next,(Jb5 _ _).asked⟩ (fun r6 hr6=>?_)
 have e3:((YT kn1 l t).town.polls).length=(((YT kn1 l t).town.polls).set kn1 ((Jbm kn1 l t).1)).length:=(List.length_set ..).symm
 refine Kc [] (Km [0,1,2,3,4,5,6,7,8,9,10,11,12,13,14,15,16,17,18,19,20,21,22,23,24,26] [(25,0)] [] [] (List.forall_mem_nil _) (JkL (fr':=[]) (L':=([Sg b 0 [I ((Q6 (⟨(⟨t.town.clerk,t.town.owners.set kn1 ((Ju (Js t (kn1:Int)) l.heads l.reply).1),t.town.polls,t.town.net⟩:Wf),t.reach,t.fates,t.events⟩:JL) 2 (kn1:Int) ((Ju (Js t (kn1:Int)) l.heads l.reply).2.1) (((Ju (Js t (kn1:Int)) l.heads l.reply).1).head.epoch)).town.clerk.queue.most),Sl a8 (((Q6 (⟨(⟨t.town.clerk,t.town.owners.set kn1 ((Ju (Js t (kn1:Int)) l.heads l.reply).1),t.town.polls,t.town.net⟩:Wf),t.reach,t.fates,t.events⟩:JL) 2 (kn1:Int) ((Ju (Js t (kn1:Int)) l.heads l.reply).2.1) (((Ju (Js t (kn1:Int)) l.heads l.reply).1).head.epoch)).town.clerk.queue.wait).length) c8,I ((Q6 (⟨(⟨t.town.clerk,t.town.owners.set kn1 ((Ju (Js t (kn1:Int)) l.heads l.reply).1),t.town.polls,t.town.net⟩:Wf),t.reach,t.fates,t.events⟩:JL) 2 (kn1:Int) ((Ju (Js t (kn1:Int)) l.heads l.reply).2.1) (((Ju (Js t (kn1:Int)) l.heads l.reply).1).head.epoch)).town.clerk.batch),I ((Q6 (⟨(⟨t.town.clerk,t.town.owners.set kn1 ((Ju (Js t (kn1:Int)) l.heads l.reply).1),t.town.polls,t.town.net⟩:Wf),t.reach,t.fates,t.events⟩:JL) 2 (kn1:Int) ((Ju (Js t (kn1:Int)) l.heads l.reply).2.1) (((Ju (Js t (kn1:Int)) l.heads l.reply).1).head.epoch)).town.clerk.every),I ((Q6 (⟨(⟨t.town.clerk,t.town.owners.set kn1 ((Ju (Js t (kn1:Int)) l.heads l.reply).1),t.town.polls,t.town.net⟩:Wf),t.reach,t.fates,t.events⟩:JL) 2 (kn1:Int) ((Ju (Js t (kn1:Int)) l.heads l.reply).2.1) (((Ju (Js t (kn1:Int)) l.heads l.reply).1).head.epoch)).town.clerk.now),Sl a9 (((Q6 (⟨(⟨t.town.clerk,t.town.owners.set kn1 ((Ju (Js t (kn1:Int)) l.heads l.reply).1),t.town.polls,t.town.net⟩:Wf),t.reach,t.fates,t.events⟩:JL) 2 (kn1:Int) ((Ju (Js t (kn1:Int)) l.heads l.reply).2.1) (((Ju (Js t (kn1:Int)) l.heads l.reply).1).head.epoch)).town.clerk.heads).length) c9,Sl a10 (((Q6 (⟨(⟨t.town.clerk,t.town.owners.set kn1 ((Ju (Js t (kn1:Int)) l.heads l.reply).1),t.town.polls,t.town.net⟩:Wf),t.reach,t.fates,t.events⟩:JL) 2 (kn1:Int) ((Ju (Js t (kn1:Int)) l.heads l.reply).2.1) (((Ju (Js t (kn1:Int)) l.heads l.reply).1).head.epoch)).town.clerk.books).length) c10,Sl a11 (((Q6 (⟨(⟨t.town.clerk,t.town.owners.set kn1 ((Ju (Js t (kn1:Int)) l.heads l.reply).1),t.town.polls,t.town.net⟩:Wf),t.reach,t.fates,t.events⟩:JL) 2 (kn1:Int) ((Ju (Js t (kn1:Int)) l.heads l.reply).2.1) (((Ju (Js t (kn1:Int)) l.heads l.reply).1).head.epoch)).town.owners).length) c11,Sl a12 ((((Q6 (⟨(⟨t.town.clerk,t.town.owners.set kn1 ((Ju (Js t (kn1:Int)) l.heads l.reply).1),t.town.polls,t.town.net⟩:Wf),t.reach,t.fates,t.events⟩:JL) 2 (kn1:Int) ((Ju (Js t (kn1:Int)) l.heads l.reply).2.1) (((Ju (Js t (kn1:Int)) l.heads l.reply).1).head.epoch)).town.polls).set kn1 ((Q7 (QL (Q6 (⟨(⟨t.town.clerk,t.town.owners.set kn1 ((Ju (Js t (kn1:Int)) l.heads l.reply).1),t.town.polls,t.town.net⟩:Wf),t.reach,t.fates,t.events⟩:JL) 2 (kn1:Int) ((Ju (Js t (kn1:Int)) l.heads l.reply).2.1) (((Ju (Js t (kn1:Int)) l.heads l.reply).1).head.epoch)) (kn1:Int)) ((Q6 (⟨(⟨t.town.clerk,t.town.owners.set kn1 ((Ju (Js t (kn1:Int)) l.heads l.reply).1),t.town.polls,t.town.net⟩:Wf),t.reach,t.fates,t.events⟩:JL) 2 (kn1:Int) ((Ju (Js t (kn1:Int)) l.heads l.reply).2.1) (((Ju (Js t (kn1:Int)) l.heads l.reply).1).head.epoch)).town.clerk.now)).1)).length) c12,I ((Q6 (⟨(⟨t.town.clerk,t.town.owners.set kn1 ((Ju (Js t (kn1:Int)) l.heads l.reply).1),t.town.polls,t.town.net⟩:Wf),t.reach,t.fates,t.events⟩:JL) 2 (kn1:Int) ((Ju (Js t (kn1:Int)) l.heads l.reply).2.1) (((Ju (Js t (kn1:Int)) l.heads l.reply).1).head.epoch)).town.net.now),Sl a13 (((Q6 (⟨(⟨t.town.clerk,t.town.owners.set kn1 ((Ju (Js t (kn1:Int)) l.heads l.reply).1),t.town.polls,t.town.net⟩:Wf),t.reach,t.fates,t.events⟩:JL) 2 (kn1:Int) ((Ju (Js t (kn1:Int)) l.heads l.reply).2.1) (((Ju (Js t (kn1:Int)) l.heads l.reply).1).head.epoch)).town.net.way).length) c13,I ((Q6 (⟨(⟨t.town.clerk,t.town.owners.set kn1 ((Ju (Js t (kn1:Int)) l.heads l.reply).1),t.town.polls,t.town.net⟩:Wf),t.reach,t.fates,t.events⟩:JL) 2 (kn1:Int) ((Ju (Js t (kn1:Int)) l.heads l.reply).2.1) (((Ju (Js t (kn1:Int)) l.heads l.reply).1).head.epoch)).reach),Sl a14 (((Q6 (⟨(⟨t.town.clerk,t.town.owners.set kn1 ((Ju (Js t (kn1:Int)) l.heads l.reply).1),t.town.polls,t.town.net⟩:Wf),t.reach,t.fates,t.events⟩:JL) 2 (kn1:Int) ((Ju (Js t (kn1:Int)) l.heads l.reply).2.1) (((Ju (Js t (kn1:Int)) l.heads l.reply).1).head.epoch)).fates).length) c14,Sl a15 (((Q6 (⟨(⟨t.town.clerk,t.town.owners.set kn1 ((Ju (Js t (kn1:Int)) l.heads l.reply).1),t.town.polls,t.town.net⟩:Wf),t.reach,t.fates,t.events⟩:JL) 2 (kn1:Int) ((Ju (Js t (kn1:Int)) l.heads l.reply).2.1) (((Ju (Js t (kn1:Int)) l.heads l.reply).1).head.epoch)).events).length) c15]]::r2::r6::r4::r5::[Sg b3 0 [Sr (((Ju (Js t (kn1:Int)) l.heads l.reply).1).name),U (((Ju (Js t (kn1:Int)) l.heads l.reply).1).key),I (((Ju (Js t (kn1:Int)) l.heads l.reply).1).head.epoch),U (((Ju (Js t (kn1:Int)) l.heads l.reply).1).head.root),U (((Ju (Js t (kn1:Int)) l.heads l.reply).1).head.prev),I (((Ju (Js t (kn1:Int)) l.heads l.reply).1).head.at_),Sl a5 ((((Ju (Js t (kn1:Int)) l.heads l.reply).1).wanted).length) c5,I (((Ju (Js t (kn1:Int)) l.heads l.reply).1).had)]]::[Sg b1 0 [I (kn1:Int),I l.from_,I l.since,I l.due,Sl a1 l.heads.length c1,I l.reply.head.epoch,U l.reply.head.root,U l.reply.head.prev,I l.reply.head.at_,Sr l.reply.proof.name,Sl a2 l.reply.proof.entries.length c2,Sl a3 l.reply.proof.sides.length c3]]::Lr)) (by rfl) (by (simp only [Kp,KE,YQ,Wp,J6,QZ,Ku,Zt,Q9,e3];first | done | rfl)) (Ji 4 (Ji 4 (Ji 4 (Ji 4 (Ji 4 ?_)))))))
 have hf1:ZV t l=(⟨(⟨(YT kn1 l t).town.clerk,(YT kn1 l t).town.owners,((YT kn1 l t).town.polls).set kn1 ((Jbm kn1 l t).1),(YT kn1 l t).town.net⟩:Wf),(YT kn1 l t).reach,(YT kn1 l t).fates,(YT kn1 l t).events⟩:JL):=by
  (rw [Jlv ‹_›,if_pos (by first | omega | (simp only [YT,W0,Jbm,z6_3,Jgp] at *;omega))];rfl)
 refine ZC [] [] (KQ (Lr:=Lr) [[Sg b 0 (J6 (⟨(⟨(YT kn1 l t).town.clerk,(YT kn1 l t).town.owners,(((YT kn1 l t).town.polls).set kn1 ((Jbm kn1 l t).1)),(YT kn1 l t).town.net⟩:Wf),(YT kn1 l t).reach,(YT kn1 l t).fates,(YT kn1 l t).events⟩:JL) a8 c8 a9 c9 a10 c10 a11 c11 a12 c12 a13 c13 a14 c14 a15 c15)],r2,r6,r4,r5] (Jp.le_trans hle1 hl3) ?_)
 rw [hf1];try dsimp only
 exact ⟨a8,c8,a9,c9,a10,c10,a11,c11,a12,c12,a13,c13,a14,c14,a15,c15,r2,r6,r4,r5,rfl,w38,hs8,w39,w40,w41,hs9,hs10,hr2,hr6,w42,hs11,w43,hr4,hr5,rfl⟩
 refine Jo (Ji 4 (Ji 4 (Ji 4 (Ji 4 (Ji 4 ?_)))))
 have hf2:ZV t l=(YT kn1 l t):=by
  (rw [Jlv ‹_›,if_neg (by first | omega | (simp only [YT,W0,Jbm,z6_3,Jgp] at *;omega))];done)
 refine ZC [] [] (KQ (Lr:=Lr) [[Sg b 0 (J6 (YT kn1 l t) a8 c8 a9 c9 a10 c10 a11 c11 a12 c12 a13 c13 a14 c14 a15 c15)],r2,r3,r4,r5] (Jp.le_trans hle1 hl3) ?_)
 rw [hf2];try dsimp only
 exact ⟨a8,c8,a9,c9,a10,c10,a11,c11,a12,c12,a13,c13,a14,c14,a15,c15,r2,r3,r4,r5,rfl,w38,hs8,w39,w40,w41,hs9,hs10,hr2,hr3,w42,hs11,w43,hr4,hr5,rfl⟩
set_option maxRecDepth 20000 in
abbrev Jgq (kn1:Nat) (t:JL):=Wi (⟨(⟨t.town.clerk,t.town.owners,t.town.polls.set kn1 ((KG (QL t (kn1:Int)) t.town.clerk.now).1),t.town.net⟩:Wf),t.reach,t.fates,t.events⟩:JL) (⟨(-1),(kn1:Int),((Js t (kn1:Int)).head.epoch)+1,0,[],(⟨(⟨0,0,0,0⟩:JQ),(⟨[],[],[]⟩:Qy)⟩:QB)⟩:JS)
abbrev Z9 (kn1:Nat) (t:JL):=KG (QL t (kn1:Int)) t.town.clerk.now
abbrev Jje (kn1:Nat) (t:JL):=Zt (QL t (kn1:Int))
abbrev z7_3 (kn1:Nat) (t:JL):=WR (QL t (kn1:Int))
theorem Joz (G:Jp) (b:Nat) (t:JL) (a_1:Option Addr) (c_1:Nat) (a_5:Option Addr) (c_5:Nat) (a_6:Option Addr) (c_6:Nat) (a_7:Option Addr) (c_7:Nat) (a_8:Option Addr) (c_8:Nat) (a_10:Option Addr) (c_10:Nat) (a_12:Option Addr) (c_12:Nat) (a_13:Option Addr) (c_13:Nat) (r_7:List Kg) (r_8:List Kg) (r_12:List Kg) (r_13:List Kg) (h_0:rI t.town.clerk.queue.most) (h_1:RS Q3 G a_1 c_1 t.town.clerk.queue.wait) (h_2:rI t.town.clerk.batch) (h_3:rI t.town.clerk.every) (h_4:rI t.town.clerk.now) (h_5:RS KA G a_5 c_5 t.town.clerk.heads) (h_6:RS Qs G a_6 c_6 t.town.clerk.books) (h_7:J0 Q1 G a_7 c_7 t.town.owners r_7) (h_8:J0 Wy G a_8 c_8 t.town.polls r_8) (h_9:rI t.town.net.now) (h_10:RS Kh G a_10 c_10 t.town.net.way) (h_11:rI t.reach) (h_12:J0 Vk G a_12 c_12 t.fates r_12) (h_13:J0 Wn G a_13 c_13 t.events r_13) (k:Int) (hw_k:rI k) (hev:t.events.length≤1000000) (hto:0≤k∧k<t.town.owners.length) (hpl:t.town.polls.length=t.town.owners.length) (hep:∀ (i:Nat) o,t.town.owners[i]? = some o→o.head.epoch≤1000000):Jcf 114 #[Pt b 0,I k] G [[Sg b 0 [I t.town.clerk.queue.most,Sl a_1 t.town.clerk.queue.wait.length c_1,I t.town.clerk.batch,I t.town.clerk.every,I t.town.clerk.now,Sl a_5 t.town.clerk.heads.length c_5,Sl a_6 t.town.clerk.books.length c_6,Sl a_7 t.town.owners.length c_7,Sl a_8 t.town.polls.length c_8,I t.town.net.now,Sl a_10 t.town.net.way.length c_10,I t.reach,Sl a_12 t.fates.length c_12,Sl a_13 t.events.length c_13]],r_7,r_8,r_12,r_13] (fun u G' L'=>∃ (a_z1:Option Addr) (c_z1:Nat) (a_z5:Option Addr) (c_z5:Nat) (a_z6:Option Addr) (c_z6:Nat) (a_z7:Option Addr) (c_z7:Nat) (a_z8:Option Addr) (c_z8:Nat) (a_z10:Option Addr) (c_z10:Nat) (a_z12:Option Addr) (c_z12:Nat) (a_z13:Option Addr) (c_z13:Nat) (r_z7:List Kg) (r_z8:List Kg) (r_z12:List Kg) (r_z13:List Kg),u=.tuple #[]∧(rI ((Zw t k).town.clerk.queue.most))∧(RS Q3 G' a_z1 c_z1 ((Zw t k).town.clerk.queue.wait))∧(rI ((Zw t k).town.clerk.batch))∧(rI ((Zw t k).town.clerk.every))∧(rI ((Zw t k).town.clerk.now))∧(RS KA G' a_z5 c_z5 ((Zw t k).town.clerk.heads))∧(RS Qs G' a_z6 c_z6 ((Zw t k).town.clerk.books))∧(J0 Q1 G' a_z7 c_z7 ((Zw t k).town.owners) r_z7)∧(J0 Wy G' a_z8 c_z8 ((Zw t k).town.polls) r_z8)∧(rI ((Zw t k).town.net.now))∧(RS Kh G' a_z10 c_z10 ((Zw t k).town.net.way))∧(rI ((Zw t k).reach))∧(J0 Vk G' a_z12 c_z12 ((Zw t k).fates) r_z12)∧(J0 Wn G' a_z13 c_z13 ((Zw t k).events) r_z13)∧L'=[[Sg b 0 [I ((Zw t k).town.clerk.queue.most),Sl a_z1 (((Zw t k).town.clerk.queue.wait).length) c_z1,I ((Zw t k).town.clerk.batch),I ((Zw t k).town.clerk.every),I ((Zw t k).town.clerk.now),Sl a_z5 (((Zw t k).town.clerk.heads).length) c_z5,Sl a_z6 (((Zw t k).town.clerk.books).length) c_z6,Sl a_z7 (((Zw t k).town.owners).length) c_z7,Sl a_z8 (((Zw t k).town.polls).length) c_z8,I ((Zw t k).town.net.now),Sl a_z10 (((Zw t k).town.net.way).length) c_z10,I ((Zw t k).reach),Sl a_z12 (((Zw t k).fates).length) c_z12,Sl a_z13 (((Zw t k).events).length) c_z13]],r_z7,r_z8,r_z12,r_z13]):=by
 intro Lr
 refine JN Tryz.func114 84 [(0,Pt b 0),(1,I k)] rfl (fun w0 G0=>?_)
 show TC _ _ _ _ _ ([Sg b 0 (J6 t a_1 c_1 a_5 c_5 a_6 c_6 a_7 c_7 a_8 c_8 a_10 c_10 a_12 c_12 a_13 c_13)]::r_7::r_8::r_12::r_13::Lr)
 obtain ⟨kn1,hkn1⟩:∃ k_:Nat,k=(k_:Int):=⟨(k).toNat,by omega⟩
 have e1:k=(kn1:Int):=hkn1
 refine QX 1 (I (kn1:Int)) (congrArg I e1) (Je ?_)
 have hx1:(t.town.polls)[kn1]? = some (QL t (kn1:Int)):=JfO (by omega)
 obtain ⟨b1,o1,_,_,⟨rfl,w1,w2,w3,w4,w5,w6⟩,ha1,hre1,hc1⟩:=J0.ix h_8 hx1
 refine Ko [18,19] (Wm [(0,Pt b 0),(1,Pt b 0),(2,Pt b 0),(3,Pt b 8),(4,Sl a_8 t.town.polls.length c_8),(5,I (kn1:Int)),(6,Pt b1 (o1+kn1*6)),(7,(Jje kn1 t)),(8,Pt b 0),(9,Pt b 0),(10,Pt b 0),(11,Pt b 0),(12,Pt b 4),(13,I t.town.clerk.now),(14,.tuple #[(Zt (Z9 kn1 t).1),I ((Z9 kn1 t).2)]),(15,.tuple #[(Zt (Z9 kn1 t).1),I ((Z9 kn1 t).2)]),(16,(Zt (Z9 kn1 t).1)),(17,I ((Z9 kn1 t).2))] (JK [] [(0,0),(1,0),(2,0),(3,0),(4,2),(5,0),(8,0),(9,0),(10,0),(11,0),(12,0),(13,2),(15,0),(16,0),(17,0)] [6,7,14] [18] (Ke ?_ (Ke ?_ (Ke ?_ K4))) (Ke ?_ K4)))
 refine Jr 6 17 (Pt b1 (o1+kn1*6)) [(15,Sl a_8 t.town.polls.length c_8),(16,I (kn1:Int))] (fun X=>?_)
 exact QI (b:=b1) (off:=o1) (len:=t.town.polls.length) (cap:=c_8) (ik:=.i64) 17 143 6 kn1 ha1 J7 Jn
 refine Jr 7 18 (Jje kn1 t) [(17,Pt b1 (o1+kn1*6))] (fun X=>?_)
 exact W5 (off:=o1) (p:=kn1*6) (cs:=(YQ (QL t (kn1:Int)))) 18 143 2 0 (Jje kn1 t) hre1 hc1 Jn
 refine Jr 14 25 (.tuple #[(Zt (Z9 kn1 t).1),I ((Z9 kn1 t).2)]) [(18,(Jje kn1 t)),(24,I t.town.clerk.now)] (fun X=>?_)
 exact Jj 25 (.tuple #[(Zt (Z9 kn1 t).1),I ((Z9 kn1 t).2)]) (Jdp G (YQ (QL t (kn1:Int))) (QL t (kn1:Int)) (⟨rfl,w1,w2,w3,w4,w5,w6⟩) t.town.clerk.now) Jn
 refine JD 18 [] (fun X=>?_)
 refine Jv 4 #[I 0,I 0,I 0,I 0,I 0,I 0] 143 (fun b2=>JC [(18,Pt b2 0)] (JK [] [(0,0),(1,0),(2,0),(3,0),(4,4),(5,0),(8,0),(9,0),(10,0),(11,0),(12,0),(13,4),(15,0),(16,0),(17,0)] [6,7,14] [19] (Ke ?_ (Ke ?_ (Ke ?_ K4))) (Ke ?_ K4)))
 refine Jr 6 17 (Pt b1 (o1+kn1*6)) [(15,Sl a_8 t.town.polls.length c_8),(16,I (kn1:Int))] (fun X=>?_)
 exact QI (b:=b1) (off:=o1) (len:=t.town.polls.length) (cap:=c_8) (ik:=.i64) 17 143 6 kn1 ha1 J7 Jn
 refine Jr 7 18 (Jje kn1 t) [(17,Pt b1 (o1+kn1*6))] (fun X=>?_)
 exact W5 (off:=o1) (p:=kn1*6) (cs:=(YQ (QL t (kn1:Int)))) 18 143 3 0 (Jje kn1 t) hre1 hc1 Jn
 refine Jr 14 25 (.tuple #[(Zt (Z9 kn1 t).1),I ((Z9 kn1 t).2)]) [(18,(Jje kn1 t)),(24,I t.town.clerk.now)] (fun X=>?_)
 exact Jj 25 (.tuple #[(Zt (Z9 kn1 t).1),I ((Z9 kn1 t).2)]) (Jdp G (YQ (QL t (kn1:Int))) (QL t (kn1:Int)) (⟨rfl,w1,w2,w3,w4,w5,w6⟩) t.town.clerk.now) Jn
 refine JD 19 [(4,Pt b2 0),(26,(Zt (Z9 kn1 t).1))] (fun X=>?_)
 refine KL 0 ([Sg b2 0 (YQ (Z9 kn1 t).1)]::[Sg b 0 (J6 t a_1 c_1 a_5 c_5 a_6 c_6 a_7 c_7 a_8 c_8 a_10 c_10 a_12 c_12 a_13 c_13)]::r_7::r_8::r_12::r_13::Lr) (Kc [(20,I ((Z9 kn1 t).2))] (Km [0,1,2,3,4,5,6,7,8,9,10,11,12,13,14,15,16] [(17,0),(20,0)] [] [(0,Pt b 0),(1,I (kn1:Int)),(4,Pt b2 0),(5,I ((Z9 kn1 t).2))] (List.forall_mem_nil _) (Jb (Je (Jf [0,0] [(29,Bo (!decide ((Z9 kn1 t).2=0)))] (Jk (!decide ((Z9 kn1 t).2=0)) (fun h1=>?_) (fun h1=>?_)))))))
 refine Jl (Jh (Ji 5 (Ji 5 (Ji 5 (Ji 5 (Ji 5 ?_))))))
 have hf1:Zw t k=t:=by
  rw [show k=(kn1:Int) by assumption];exact tAsk0 ‹_›
 refine Jm [] [] (KQ (Lr:=Lr) [[Sg b 0 (J6 t a_1 c_1 a_5 c_5 a_6 c_6 a_7 c_7 a_8 c_8 a_10 c_10 a_12 c_12 a_13 c_13)],r_7,r_8,r_12,r_13] (Jp.le_refl _) ?_)
 rw [hf1];try dsimp only
 exact ⟨a_1,c_1,a_5,c_5,a_6,c_6,a_7,c_7,a_8,c_8,a_10,c_10,a_12,c_12,a_13,c_13,r_7,r_8,r_12,r_13,rfl,h_0,h_1,h_2,h_3,h_4,h_5,h_6,h_7,h_8,h_9,h_10,h_11,h_12,h_13,rfl⟩
 refine Jo (Jb (Je (Jc (Ja [0,0,0,0,4,0] [(35,Sl a_8 t.town.polls.length c_8),(36,I (kn1:Int))] (QI (b:=b1) (off:=o1) (len:=t.town.polls.length) (cap:=c_8) (ik:=.i64) 37 143 6 kn1 ha1 J7 (W5 (off:=o1) (p:=kn1*6) (cs:=(YQ (QL t (kn1:Int)))) 38 143 3 0 (Jje kn1 t) hre1 hc1 (Jj 39 (.tuple #[Bo ((z7_3 kn1 t).1),I ((z7_3 kn1 t).2)]) (Jco G (YQ (QL t (kn1:Int))) (QL t (kn1:Int)) (⟨rfl,w1,w2,w3,w4,w5,w6⟩)) (Ja [0,0,0,0,0] [(6,Bo ((z7_3 kn1 t).1))] (Jd (Jb (Je (Jc (Ja [2] [(43,(Zt (Z9 kn1 t).1))] (Jj 44 (.tuple #[Bo ((WR ((Z9 kn1 t).1)).1),I ((WR ((Z9 kn1 t).1)).2)]) (Jco G (YQ (Z9 kn1 t).1) ((Z9 kn1 t).1) (⟨rfl,(VO _ _).least,(VO _ _).most,(VO _ _).lost,(VO _ _).gap,(VO _ _).next,(VO _ _).asked⟩)) (Ja [0,0,0,0,0] [(8,Bo ((WR ((Z9 kn1 t).1)).1))] (Jd (Jb (Je (Ko [8] (Wm [(0,Pt b 0),(1,Pt b 0),(2,Pt b 0),(3,Pt b 8),(4,Sl a_8 t.town.polls.length c_8),(5,I (kn1:Int)),(6,(Zt (Z9 kn1 t).1)),(7,Pt b1 (o1+kn1*6))] ?_))))))))))))))))))))
 refine JK [] [(0,0),(1,0),(2,0),(3,0),(4,4),(5,0),(6,2)] [7] [8] (Ke ?_ K4) (Ke ?_ K4)
 refine Jr 7 54 (Pt b1 (o1+kn1*6)) [(51,Sl a_8 t.town.polls.length c_8),(52,I (kn1:Int))] (fun X=>?_)
 exact QI (b:=b1) (off:=o1) (len:=t.town.polls.length) (cap:=c_8) (ik:=.i64) 54 143 6 kn1 ha1 J7 Jn
 refine JD 8 [(53,(Zt (Z9 kn1 t).1)),(54,Pt b1 (o1+kn1*6))] (fun X=>?_)
 refine YV (b:=b1) (off:=o1) 3 h_8 kn1 ((Z9 kn1 t).1) ha1 J7 (Zt (Z9 kn1 t).1) (YQ (Z9 kn1 t).1) ⟨rfl,(VO _ _).least,(VO _ _).most,(VO _ _).lost,(VO _ _).gap,(VO _ _).next,(VO _ _).asked⟩ (fun r1 hr1=>?_)
 have e2:t.town.polls.length=(t.town.polls.set kn1 ((Z9 kn1 t).1)).length:=(List.length_set ..).symm
 refine Kc [] (Km [0,1,2,3,4,5,6,7] [] [] [(0,Pt b 0),(1,I (kn1:Int)),(6,Bo ((z7_3 kn1 t).1)),(8,Bo ((WR ((Z9 kn1 t).1)).1))] (List.forall_mem_nil _) (JkL (fr':=[(0,Pt b 0),(1,I (kn1:Int)),(6,Bo ((WR (QL t (kn1:Int))).1)),(8,Bo ((WR ((KG (QL t (kn1:Int)) t.town.clerk.now).1)).1))]) (L':=([Sg b2 0 [I (((KG (QL t (kn1:Int)) t.town.clerk.now).1).least),I (((KG (QL t (kn1:Int)) t.town.clerk.now).1).most),I (((KG (QL t (kn1:Int)) t.town.clerk.now).1).lost),I (((KG (QL t (kn1:Int)) t.town.clerk.now).1).gap),I (((KG (QL t (kn1:Int)) t.town.clerk.now).1).next),I (((KG (QL t (kn1:Int)) t.town.clerk.now).1).asked)]]::[Sg b 0 [I t.town.clerk.queue.most,Sl a_1 t.town.clerk.queue.wait.length c_1,I t.town.clerk.batch,I t.town.clerk.every,I t.town.clerk.now,Sl a_5 t.town.clerk.heads.length c_5,Sl a_6 t.town.clerk.books.length c_6,Sl a_7 t.town.owners.length c_7,Sl a_8 ((t.town.polls.set kn1 ((KG (QL t (kn1:Int)) t.town.clerk.now).1)).length) c_8,I t.town.net.now,Sl a_10 t.town.net.way.length c_10,I t.reach,Sl a_12 t.fates.length c_12,Sl a_13 t.events.length c_13]]::r_7::r1::r_12::r_13::Lr)) (by rfl) (by (simp only [KE,YQ,J6,Zt,e2];first | done | rfl)) (Jb (Je (Jc (Ja [0,0,0,0,0,0,4,0] [(55,Pt b 0),(56,I (kn1:Int)),(61,Sl a_7 t.town.owners.length c_7),(62,I (kn1:Int))] ?_))))))
 have hx2:(t.town.owners)[kn1]? = some (Js t (kn1:Int)):=YI (by omega)
 obtain ⟨b3,o2,_,_,⟨a1,c1,rfl,_,_,_,_,_,_,_,_⟩,ha2,hre2,hc2⟩:=J0.ix h_7 hx2
 refine QI (b:=b3) (off:=o2) (len:=t.town.owners.length) (cap:=c_7) (ik:=.i64) 63 76 8 kn1 ha2 J7 (Ja [0,0] [(65,Pt b3 (o2+kn1*8+2))] (W5 (off:=o2) (p:=kn1*8) (cs:=(KE (Js t (kn1:Int)) a1 c1)) 66 2 2 2 (I ((Js t (kn1:Int)).head.epoch)) hre2 hc2 (Ja [0,0] [(68,.agg #[I (-1),I (kn1:Int),I (IntKind.i64.wrap (((Js t (kn1:Int)).head.epoch)+1)),I 0,Sl none 0 0,I 0,U 0,U 0,I 0,Sr ([]),Sl none 0 0,Sl none 0 0])] ?_)))
 have e3:IntKind.i64.wrap (((Js t (kn1:Int)).head.epoch)+1)=((Js t (kn1:Int)).head.epoch)+1:=IntWalk.i64_in _ (by (have q_:=hep kn1 _ (YI (by omega));omega))
 refine KI 68 (.agg #[I (-1),I (kn1:Int),I (((Js t (kn1:Int)).head.epoch)+1),I 0,Sl none 0 0,I 0,U 0,U 0,I 0,Sr ([]),Sl none 0 0,Sl none 0 0]) (show (.agg #[I (-1),I (kn1:Int),I (IntKind.i64.wrap (((Js t (kn1:Int)).head.epoch)+1)),I 0,Sl none 0 0,I 0,U 0,U 0,I 0,Sr ([]),Sl none 0 0,Sl none 0 0]:Value)=.agg #[I (-1),I (kn1:Int),I (((Js t (kn1:Int)).head.epoch)+1),I 0,Sl none 0 0,I 0,U 0,U 0,I 0,Sr ([]),Sl none 0 0,Sl none 0 0] by simp only [e3]) ?_
 clear e3
 refine Jx 5 (Jx 5 (Jx 5 (Jx 5 (Jx 5 (Qn (Ls:=[[Sg b 0 (J6 (⟨(⟨t.town.clerk,t.town.owners,(t.town.polls.set kn1 ((Z9 kn1 t).1)),t.town.net⟩:Wf),t.reach,t.fates,t.events⟩:JL) a_1 c_1 a_5 c_5 a_6 c_6 a_7 c_7 a_8 c_8 a_10 c_10 a_12 c_12 a_13 c_13)],r_7,r1,r_12,r_13]) (Lr:=([Sg b2 0 (YQ (Z9 kn1 t).1)]::Lr)) 69 (JgV G b (⟨(⟨t.town.clerk,t.town.owners,t.town.polls.set kn1 ((Z9 kn1 t).1),t.town.net⟩:Wf),t.reach,t.fates,t.events⟩:JL) a_1 c_1 a_5 c_5 a_6 c_6 a_7 c_7 a_8 c_8 a_10 c_10 a_12 c_12 a_13 c_13 r_7 r1 r_12 r_13 ‹_› h_1 ‹_› ‹_› ‹_› h_5 h_6 h_7 hr1 ‹_› h_10 ‹_› h_12 h_13 [I (-1),I (kn1:Int),I (((Js t (kn1:Int)).head.epoch)+1),I 0,Sl none 0 0,I 0,U 0,U 0,I 0,Sr ([]),Sl none 0 0,Sl none 0 0] (⟨(-1),(kn1:Int),((Js t (kn1:Int)).head.epoch)+1,0,[],(⟨(⟨0,0,0,0⟩:JQ),(⟨[],[],[]⟩:Qy)⟩:QB)⟩:JS) (⟨none,0,none,0,none,0,rfl,(by (dsimp only;omega)),(by (dsimp only;omega)),(by (dsimp only;(have q_:=hep kn1 _ (YI J7);omega))),(by (dsimp only;omega)),(RS.nil' KA G),(by (dsimp only;omega)),(by (dsimp only;omega)),(by (dsimp only;omega)),(by (dsimp only;omega)),(Nat.le_of_ble_eq_true rfl),(RS.nil' QA G),(RS.nil' EU G)⟩)) (fun v G1 L1 hl1 hp=>?_))))))
 obtain ⟨a2,c2,a3,c3,a4,c4,a5,c5,a6,c6,a7,c7,a8,c8,a9,c9,r2,r3,r4,r5,rfl,w14,hs2,w15,w16,w17,hs3,hs4,hr2,hr3,w18,hs5,w19,hr4,hr5,rfl⟩:=hp
 refine Jd (Jb (Je (Jc (Ja [0,0] [(71,Bo ((WR ((Z9 kn1 t).1)).1))] (Kn ((WR ((Z9 kn1 t).1)).1) [71] [0,0,0] [1,1,0] (fun bb=>[(74,Bo (bb && (!((z7_3 kn1 t).1))))]) (Jd (Jb (Jk (((WR ((Z9 kn1 t).1)).1) && (!((z7_3 kn1 t).1))) (fun h2=>?_) (fun h2=>?_)))))))))
 refine Jc (Ja [0,0,0,0,0,0,0,2] [(75,Pt b 0),(76,I (kn1:Int)),(82,I ((Jgq kn1 t).town.clerk.now))] (Jx 4 (Jx 4 (Jx 4 (Jx 4 (Jx 4 (Qn (Ls:=[[Sg b 0 (J6 (Jgq kn1 t) a2 c2 a3 c3 a4 c4 a5 c5 a6 c6 a7 c7 a8 c8 a9 c9)],r2,r3,r4,r5]) (Lr:=([Sg b2 0 (YQ (Z9 kn1 t).1)]::Lr)) 83 (Jd6 G1 b (Jgq kn1 t) a2 c2 a3 c3 a4 c4 a5 c5 a6 c6 a7 c7 a8 c8 a9 c9 r2 r3 r4 r5 w14 hs2 w15 w16 w17 hs3 hs4 hr2 hr3 w18 hs5 w19 hr4 hr5 3 J7 (kn1:Int) J7 0 J7 ((Jgq kn1 t).town.clerk.now) w17 ‹_›) (fun v G2 L1 hl2 hp=>?_))))))))
 obtain ⟨a10,c10,a11,c11,a12,c12,a13,c13,a14,c14,a15,c15,a16,c16,a17,c17,r6,r7,r8,r9,rfl,w20,hs6,w21,w22,w23,hs7,hs8,hr6,hr7,w24,hs9,w25,hr8,hr9,rfl⟩:=hp
 refine Jd (Ji 4 (Ji 4 (Ji 4 (Ji 4 (Ji 4 ?_)))))
 have hf2:Zw t k=(Q6 (Jgq kn1 t) 3 (kn1:Int) 0 ((Jgq kn1 t).town.clerk.now)):=by
  rw [show k=(kn1:Int) by assumption];exact tAsk1 ‹_› ‹_›
 refine ZC [] [] (KQ (Lr:=Lr) [[Sg b 0 (J6 (Q6 (Jgq kn1 t) 3 (kn1:Int) 0 ((Jgq kn1 t).town.clerk.now)) a10 c10 a11 c11 a12 c12 a13 c13 a14 c14 a15 c15 a16 c16 a17 c17)],r6,r7,r8,r9] (Jp.le_trans hl1 hl2) ?_)
 rw [hf2];try dsimp only
 exact ⟨a10,c10,a11,c11,a12,c12,a13,c13,a14,c14,a15,c15,a16,c16,a17,c17,r6,r7,r8,r9,rfl,w20,hs6,w21,w22,w23,hs7,hs8,hr6,hr7,w24,hs9,w25,hr8,hr9,rfl⟩
 refine Jo (Ji 4 (Ji 4 (Ji 4 (Ji 4 (Ji 4 ?_)))))
 have hf3:Zw t k=(Jgq kn1 t):=by
  rw [show k=(kn1:Int) by assumption];exact tAsk2 ‹_› ‹_›
 refine ZC [] [] (KQ (Lr:=Lr) [[Sg b 0 (J6 (Jgq kn1 t) a2 c2 a3 c3 a4 c4 a5 c5 a6 c6 a7 c7 a8 c8 a9 c9)],r2,r3,r4,r5] hl1 ?_)
 rw [hf3];try dsimp only
 exact ⟨a2,c2,a3,c3,a4,c4,a5,c5,a6,c6,a7,c7,a8,c8,a9,c9,r2,r3,r4,r5,rfl,w14,hs2,w15,w16,w17,hs3,hs4,hr2,hr3,w18,hs5,w19,hr4,hr5,rfl⟩
structure Vu (t:JL):Prop where
 I:∃ s,ZB s t
 W:WM t
 polls:t.town.polls.length=t.town.owners.length
 len:t.town.owners.length≤4
 reach:1≤t.reach∧t.reach≤40
theorem Vu.epoch {t:JL} (h:Vu t) (i:Nat) (o:K2) (ho:t.town.owners[i]? = some o):o.head.epoch≤1000000:=by
 obtain ⟨s,h⟩:=h.I
 have:=Zb (K8.1 (h.own i o ho).1).2.1
 omega
theorem Vu.grew {t u:JL} {k:Nat} (h:Vu t) (g:Yg t u k) (hI:∃ s,ZB s u) (hW:WM u):Vu u :=
 ⟨hI,hW,by rw [g.polls,g.own];exact h.polls,by rw [g.own];exact h.len,by rw [g.reach];exact h.reach⟩
theorem Jpv {s:KC} {t:JL} (h:ZB s t) (h1:¬ (KT t.town.clerk).1.now=t.town.clerk.now):ZB s (Y7 t):=by
 obtain ⟨t0,tk⟩:=Jdn h.clerk
 have hnn:(KT t.town.clerk).1.now=t.town.clerk.now+1:=by
  rcases Jcl h.clerk with q | q
  · exact absurd q.1 h1
  · exact q.2
 have hc:=tk.ok.now
 have hn:=h.now
 have hr:=Jcq h.net (by omega)
 refine ⟨tk.ok,hr.1,?_,h.own,h.poll⟩
 show (Kl t.town.net).1.now=(KT t.town.clerk).1.now
 rw [hr.2];omega
theorem Zj {t:JL} (h:Vu t) (h1:¬ (KT t.town.clerk).1.now=t.town.clerk.now) {jt:JL} {i:Nat} (hJ:jt=Zg (Y7 t) ((Kl t.town.net).2.1.take i)) :
  Vu jt∧jt.events.length≤t.events.length+60∧jt.town.owners.length=t.town.owners.length:=by
 obtain ⟨s,hI⟩:=h.I
 subst hJ
 have hm:∀ x∈(Kl t.town.net).2.1.take i,x∈(Kl t.town.net).2.1:=fun x hx=>List.mem_of_mem_take hx
 have g:=Jd3 ((Kl t.town.net).2.1.take i) (Y7 t)
 have hl:((Kl t.town.net).2.1.take i).length≤60:=by have:=Jjb t.town.net;rw [List.length_take];omega
 have g2:Yg t (Zg (Y7 t) ((Kl t.town.net).2.1.take i)) 60:=(⟨g.ev,g.own,g.polls,g.reach⟩:Yg t _ _).mono hl
 exact ⟨h.grew g2 ⟨s,Jd5 _ (Jpv hI h1) (fun x hx=>h.W x (JfP (hm x hx)))⟩ (Jd4 _ (Jlr h.W)),g2.len.1,g2.own⟩
theorem JfQ {t:JL} (h:Vu t) {i:Nat} {x:JS} (hx:(Kl t.town.net).2.1[i]? = some x):x.to_<t.town.owners.length:=h.W x (JfP (List.mem_of_getElem? hx))
theorem Jd7 {t:JL} (h:Vu t) {kt:JL} {i:Nat} (hK:kt=JbL t i):Vu kt∧kt.events.length≤t.events.length+i∧kt.town.owners.length=t.town.owners.length:=by
 obtain ⟨s,hI⟩:=h.I
 subst hK
 have g:=Jkv t i
 exact ⟨h.grew g ⟨s,Jkz hI i⟩ (Jkw h.W i),g.len.1,g.own⟩
theorem JkA {t:JL} (h:(KT t.town.clerk).1.now=t.town.clerk.now):Wz t=t:=by unfold Wz;rw [if_pos h]
theorem JoA {t jt kt:JL} {i k:Nat} (h:¬ (KT t.town.clerk).1.now=t.town.clerk.now) (hJ:jt=Zg (Y7 t) ((Kl t.town.net).2.1.take i)) (hi:(Kl t.town.net).2.1.length≤i) (hK:kt=JbL jt k) (hk:k=jt.town.owners.length):Wz t=kt:=by
 unfold Wz
 rw [List.take_of_length_le hi] at hJ
 rw [if_neg h,hK,hk,hJ]
theorem do_H {t:JL} (h:Vu t) (d:Qc):Vu (YS t d)∧(YS t d).events.length≤t.events.length+64:=by
 obtain ⟨s,hI⟩:=h.I
 have g:=g_do h.len d
 exact ⟨h.grew g ⟨s,i_do hI h.W d⟩ (w_do h.W d),g.len.1⟩
set_option maxRecDepth 20000 in
abbrev VZ (t:JL):=KT t.town.clerk
set_option maxHeartbeats 1600000 in
theorem JmJ (G:Jp) (b:Nat) (t:JL) (a_1:Option Addr) (c_1:Nat) (a_5:Option Addr) (c_5:Nat) (a_6:Option Addr) (c_6:Nat) (a_7:Option Addr) (c_7:Nat) (a_8:Option Addr) (c_8:Nat) (a_10:Option Addr) (c_10:Nat) (a_12:Option Addr) (c_12:Nat) (a_13:Option Addr) (c_13:Nat) (r_7:List Kg) (r_8:List Kg) (r_12:List Kg) (r_13:List Kg) (h_0:rI t.town.clerk.queue.most) (h_1:RS Q3 G a_1 c_1 t.town.clerk.queue.wait) (h_2:rI t.town.clerk.batch) (h_3:rI t.town.clerk.every) (h_4:rI t.town.clerk.now) (h_5:RS KA G a_5 c_5 t.town.clerk.heads) (h_6:RS Qs G a_6 c_6 t.town.clerk.books) (h_7:J0 Q1 G a_7 c_7 t.town.owners r_7) (h_8:J0 Wy G a_8 c_8 t.town.polls r_8) (h_9:rI t.town.net.now) (h_10:RS Kh G a_10 c_10 t.town.net.way) (h_11:rI t.reach) (h_12:J0 Vk G a_12 c_12 t.fates r_12) (h_13:J0 Wn G a_13 c_13 t.events r_13)  (hH:Vu t) (hev:t.events.length≤900000):Jcf 64 #[Pt b 0] G [[Sg b 0 [I t.town.clerk.queue.most,Sl a_1 t.town.clerk.queue.wait.length c_1,I t.town.clerk.batch,I t.town.clerk.every,I t.town.clerk.now,Sl a_5 t.town.clerk.heads.length c_5,Sl a_6 t.town.clerk.books.length c_6,Sl a_7 t.town.owners.length c_7,Sl a_8 t.town.polls.length c_8,I t.town.net.now,Sl a_10 t.town.net.way.length c_10,I t.reach,Sl a_12 t.fates.length c_12,Sl a_13 t.events.length c_13]],r_7,r_8,r_12,r_13] (fun u G' L'=>∃ (a_z1:Option Addr) (c_z1:Nat) (a_z5:Option Addr) (c_z5:Nat) (a_z6:Option Addr) (c_z6:Nat) (a_z7:Option Addr) (c_z7:Nat) (a_z8:Option Addr) (c_z8:Nat) (a_z10:Option Addr) (c_z10:Nat) (a_z12:Option Addr) (c_z12:Nat) (a_z13:Option Addr) (c_z13:Nat) (r_z7:List Kg) (r_z8:List Kg) (r_z12:List Kg) (r_z13:List Kg),u=.tuple #[]∧(rI ((Wz t).town.clerk.queue.most))∧(RS Q3 G' a_z1 c_z1 ((Wz t).town.clerk.queue.wait))∧(rI ((Wz t).town.clerk.batch))∧(rI ((Wz t).town.clerk.every))∧(rI ((Wz t).town.clerk.now))∧(RS KA G' a_z5 c_z5 ((Wz t).town.clerk.heads))∧(RS Qs G' a_z6 c_z6 ((Wz t).town.clerk.books))∧(J0 Q1 G' a_z7 c_z7 ((Wz t).town.owners) r_z7)∧(J0 Wy G' a_z8 c_z8 ((Wz t).town.polls) r_z8)∧(rI ((Wz t).town.net.now))∧(RS Kh G' a_z10 c_z10 ((Wz t).town.net.way))∧(rI ((Wz t).reach))∧(J0 Vk G' a_z12 c_z12 ((Wz t).fates) r_z12)∧(J0 Wn G' a_z13 c_z13 ((Wz t).events) r_z13)∧L'=[[Sg b 0 [I ((Wz t).town.clerk.queue.most),Sl a_z1 (((Wz t).town.clerk.queue.wait).length) c_z1,I ((Wz t).town.clerk.batch),I ((Wz t).town.clerk.every),I ((Wz t).town.clerk.now),Sl a_z5 (((Wz t).town.clerk.heads).length) c_z5,Sl a_z6 (((Wz t).town.clerk.books).length) c_z6,Sl a_z7 (((Wz t).town.owners).length) c_z7,Sl a_z8 (((Wz t).town.polls).length) c_z8,I ((Wz t).town.net.now),Sl a_z10 (((Wz t).town.net.way).length) c_z10,I ((Wz t).reach),Sl a_z12 (((Wz t).fates).length) c_z12,Sl a_z13 (((Wz t).events).length) c_z13]],r_z7,r_z8,r_z12,r_z13]):=by
 intro Lr
 refine JN Tryz.func64 79 [(0,Pt b 0)] rfl (fun w0 G0=>?_)
 show TC _ _ _ _ _ ([Sg b 0 (J6 t a_1 c_1 a_5 c_5 a_6 c_6 a_7 c_7 a_8 c_8 a_10 c_10 a_12 c_12 a_13 c_13)]::r_7::r_8::r_12::r_13::Lr)
 refine Je (Jc (Ja [0,0,0,0,2] [(16,(Qz t.town.clerk a_1 c_1 a_5 c_5 a_6 c_6))] (JF 17 (Jgl G (KU t.town.clerk a_1 c_1 a_5 c_5 a_6 c_6) t.town.clerk (⟨a_1,c_1,a_5,c_5,a_6,c_6,rfl,h_0,h_1,h_2,h_3,h_4,h_5,h_6⟩)) (fun v G1 L1 hl1 hp=>?_))))
 obtain ⟨a1,c1,a2,c2,a3,c3,rfl,w1,hs1,w2,w3,w4,hs2,hs3,rfl⟩:=hp
 refine Ja [0,0,0,0] [(18,(Qz (VZ t).1 a1 c1 a2 c2 a3 c3)),(19,Bo ((VZ t).2.1)),(20,I ((VZ t).2.2))] (Jv 2 #[I 0,Sl none 0 0,I 0,I 0,I 0,Sl none 0 0,Sl none 0 0] 60 (fun b1=>JV [3,0,0] [] ([Sg b1 0 (KU (VZ t).1 a1 c1 a2 c2 a3 c3)]::[Sg b 0 (J6 t a_1 c_1 a_5 c_5 a_6 c_6 a_7 c_7 a_8 c_8 a_10 c_10 a_12 c_12 a_13 c_13)]::r_7::r_8::r_12::r_13::Lr) (Jd (Jb (Je (Je (Ko [] (Wm [(0,Pt b1 4),(1,I (((VZ t).1).now)),(2,Pt b 0),(3,Pt b 0),(4,Pt b 0),(5,Pt b 0),(6,Pt b 4),(7,I t.town.clerk.now),(8,Bo (decide (((VZ t).1).now=t.town.clerk.now)))] (Km [] [(0,0),(1,2),(2,0),(3,0),(4,0),(5,0),(6,0),(7,4),(8,0)] [] [(0,Pt b 0),(2,Pt b1 0),(29,Bo (decide (((VZ t).1).now=t.town.clerk.now)))] (List.forall_mem_nil _) (Jb (Jk (decide (((VZ t).1).now=t.town.clerk.now)) (fun h1=>?_) (fun h1=>?_))))))))))))
 refine Jl (Jh (Ji 5 (Ji 5 (Ji 5 (Ji 5 (Ji 5 ?_))))))
 have hf1:Wz t=t:=by
  exact JkA ‹_›
 refine Jm [] [] (KQ (Lr:=Lr) [[Sg b 0 (J6 t a_1 c_1 a_5 c_5 a_6 c_6 a_7 c_7 a_8 c_8 a_10 c_10 a_12 c_12 a_13 c_13)],r_7,r_8,r_12,r_13] hl1 ?_)
 rw [hf1];try dsimp only
 exact ⟨a_1,c_1,a_5,c_5,a_6,c_6,a_7,c_7,a_8,c_8,a_10,c_10,a_12,c_12,a_13,c_13,r_7,r_8,r_12,r_13,rfl,h_0,(h_1.mono hl1),h_2,h_3,h_4,(h_5.mono hl1),(h_6.mono hl1),(h_7.mono hl1),(h_8.mono hl1),h_9,(h_10.mono hl1),h_11,(h_12.mono hl1),(h_13.mono hl1),rfl⟩
 refine Jo (Jb (Qx [0,2,0,0,0,5] [] ([Sg b1 0 (KU (VZ t).1 a1 c1 a2 c2 a3 c3)]::[Sg b 0 (J6 (⟨(⟨(VZ t).1,t.town.owners,t.town.polls,t.town.net⟩:Wf),t.reach,t.fates,t.events⟩:JL) a1 c1 a2 c2 a3 c3 a_7 c_7 a_8 c_8 a_10 c_10 a_12 c_12 a_13 c_13)]::r_7::r_8::r_12::r_13::Lr) (Je (Jc (Ja [0,0,0,0,4] [(40,.agg #[I t.town.net.now,Sl a_10 t.town.net.way.length c_10])] (JF 41 (Ji8 G1 [I t.town.net.now,Sl a_10 t.town.net.way.length c_10] t.town.net (⟨a_10,c_10,rfl,h_9,(h_10.mono hl1)⟩)) (fun v G2 L1 hl2 hp=>?_)))))))
 obtain ⟨a4,c4,a5,c5,rfl,w5,hs4,hs5,rfl⟩:=hp
 refine Ja [0,0,0,0] [(42,.agg #[I (((Kl t.town.net).1).now),Sl a4 ((((Kl t.town.net).1).way).length) c4]),(43,Sl a5 (((Kl t.town.net).2.1).length) c5),(44,I ((Kl t.town.net).2.2))] (Jv 5 #[I 0,Sl none 0 0] 65 (fun b2=>JV [3,0,0] [(6,Sl a5 (((Kl t.town.net).2.1).length) c5)] ([Sg b2 0 [I (((Kl t.town.net).1).now),Sl a4 ((((Kl t.town.net).1).way).length) c4]]::[Sg b1 0 (KU (VZ t).1 a1 c1 a2 c2 a3 c3)]::[Sg b 0 (J6 (⟨(⟨(VZ t).1,t.town.owners,t.town.polls,t.town.net⟩:Wf),t.reach,t.fates,t.events⟩:JL) a1 c1 a2 c2 a3 c3 a_7 c_7 a_8 c_8 a_10 c_10 a_12 c_12 a_13 c_13)]::r_7::r_8::r_12::r_13::Lr) (Jd (Jb (Qx [0,2,0,0,0,7] [] ([Sg b2 0 [I (((Kl t.town.net).1).now),Sl a4 ((((Kl t.town.net).1).way).length) c4]]::[Sg b1 0 (KU (VZ t).1 a1 c1 a2 c2 a3 c3)]::[Sg b 0 (J6 (⟨(⟨(VZ t).1,t.town.owners,t.town.polls,(Kl t.town.net).1⟩:Wf),t.reach,t.fates,t.events⟩:JL) a1 c1 a2 c2 a3 c3 a_7 c_7 a_8 c_8 a4 c4 a_12 c_12 a_13 c_13)]::r_7::r_8::r_12::r_13::Lr) (Je (Jf [0,0,0] [(50,Sl a5 (((Kl t.town.net).2.1).length) c5),(51,I (((Kl t.town.net).2.1).length:Int)),(52,I 0)] (Jz ?_))))))))
 have hlm_hs5:((Kl t.town.net).2.1).length≤9223372036854775807:=Nat.le_trans (hs5).le (hs5).max
 refine Qh (σ:=Nat×JL×Option Addr×Nat×Option Addr×Nat×Option Addr×Nat×Option Addr×Nat×List Kg×Option Addr×Nat×List Kg×Option Addr×Nat×Option Addr×Nat×List Kg×Option Addr×Nat×List Kg×Jp) (fun q_=>(Jp.le G2 q_.2.2.2.2.2.2.2.2.2.2.2.2.2.2.2.2.2.2.2.2.2.2)∧(q_.1≤((Kl t.town.net).2.1).length)∧(RS Q3 q_.2.2.2.2.2.2.2.2.2.2.2.2.2.2.2.2.2.2.2.2.2.2 q_.2.2.1 q_.2.2.2.1 q_.2.1.town.clerk.queue.wait)∧(RS KA q_.2.2.2.2.2.2.2.2.2.2.2.2.2.2.2.2.2.2.2.2.2.2 q_.2.2.2.2.1 q_.2.2.2.2.2.1 q_.2.1.town.clerk.heads)∧(RS Qs q_.2.2.2.2.2.2.2.2.2.2.2.2.2.2.2.2.2.2.2.2.2.2 q_.2.2.2.2.2.2.1 q_.2.2.2.2.2.2.2.1 q_.2.1.town.clerk.books)∧(J0 Q1 q_.2.2.2.2.2.2.2.2.2.2.2.2.2.2.2.2.2.2.2.2.2.2 q_.2.2.2.2.2.2.2.2.1 q_.2.2.2.2.2.2.2.2.2.1 q_.2.1.town.owners q_.2.2.2.2.2.2.2.2.2.2.1)∧(J0 Wy q_.2.2.2.2.2.2.2.2.2.2.2.2.2.2.2.2.2.2.2.2.2.2 q_.2.2.2.2.2.2.2.2.2.2.2.1 q_.2.2.2.2.2.2.2.2.2.2.2.2.1 q_.2.1.town.polls q_.2.2.2.2.2.2.2.2.2.2.2.2.2.1)∧(RS Kh q_.2.2.2.2.2.2.2.2.2.2.2.2.2.2.2.2.2.2.2.2.2.2 q_.2.2.2.2.2.2.2.2.2.2.2.2.2.2.1 q_.2.2.2.2.2.2.2.2.2.2.2.2.2.2.2.1 q_.2.1.town.net.way)∧(J0 Vk q_.2.2.2.2.2.2.2.2.2.2.2.2.2.2.2.2.2.2.2.2.2.2 q_.2.2.2.2.2.2.2.2.2.2.2.2.2.2.2.2.1 q_.2.2.2.2.2.2.2.2.2.2.2.2.2.2.2.2.2.1 q_.2.1.fates q_.2.2.2.2.2.2.2.2.2.2.2.2.2.2.2.2.2.2.1)∧(J0 Wn q_.2.2.2.2.2.2.2.2.2.2.2.2.2.2.2.2.2.2.2.2.2.2 q_.2.2.2.2.2.2.2.2.2.2.2.2.2.2.2.2.2.2.2.1 q_.2.2.2.2.2.2.2.2.2.2.2.2.2.2.2.2.2.2.2.2.1 q_.2.1.events q_.2.2.2.2.2.2.2.2.2.2.2.2.2.2.2.2.2.2.2.2.2.1)∧(rI q_.2.1.town.clerk.queue.most)∧(rI q_.2.1.town.clerk.batch)∧(rI q_.2.1.town.clerk.every)∧(rI q_.2.1.town.clerk.now)∧(rI q_.2.1.town.net.now)∧(rI q_.2.1.reach)∧(q_.2.1=Zg (Y7 t) ((Kl t.town.net).2.1.take q_.1))) (fun q_=>[(0,Pt b 0),(50,Sl a5 (((Kl t.town.net).2.1).length) c5),(51,I (((Kl t.town.net).2.1).length:Int)),(52,I (q_.1:Int))]) (fun q_=>q_.2.2.2.2.2.2.2.2.2.2.2.2.2.2.2.2.2.2.2.2.2.2) (fun q_=>([Sg b2 0 [I (((Kl t.town.net).1).now),Sl a4 ((((Kl t.town.net).1).way).length) c4]]::[Sg b1 0 (KU (VZ t).1 a1 c1 a2 c2 a3 c3)]::[Sg b 0 (J6 q_.2.1 q_.2.2.1 q_.2.2.2.1 q_.2.2.2.2.1 q_.2.2.2.2.2.1 q_.2.2.2.2.2.2.1 q_.2.2.2.2.2.2.2.1 q_.2.2.2.2.2.2.2.2.1 q_.2.2.2.2.2.2.2.2.2.1 q_.2.2.2.2.2.2.2.2.2.2.2.1 q_.2.2.2.2.2.2.2.2.2.2.2.2.1 q_.2.2.2.2.2.2.2.2.2.2.2.2.2.2.1 q_.2.2.2.2.2.2.2.2.2.2.2.2.2.2.2.1 q_.2.2.2.2.2.2.2.2.2.2.2.2.2.2.2.2.1 q_.2.2.2.2.2.2.2.2.2.2.2.2.2.2.2.2.2.1 q_.2.2.2.2.2.2.2.2.2.2.2.2.2.2.2.2.2.2.2.1 q_.2.2.2.2.2.2.2.2.2.2.2.2.2.2.2.2.2.2.2.2.1)]::q_.2.2.2.2.2.2.2.2.2.2.1::q_.2.2.2.2.2.2.2.2.2.2.2.2.2.1::q_.2.2.2.2.2.2.2.2.2.2.2.2.2.2.2.2.2.2.1::q_.2.2.2.2.2.2.2.2.2.2.2.2.2.2.2.2.2.2.2.2.2.1::Lr)) (fun q_=>((Kl t.town.net).2.1).length-q_.1) (0,(⟨(⟨((VZ t).1),t.town.owners,t.town.polls,((Kl t.town.net).1)⟩:Wf),t.reach,t.fates,t.events⟩:JL),a1,c1,a2,c2,a3,c3,a_7,c_7,r_7,a_8,c_8,r_8,a4,c4,a_12,c_12,r_12,a_13,c_13,r_13,G2) ⟨(Jp.le_refl _),(by (try dsimp only);omega),(hs1.mono hl2),(hs2.mono hl2),(hs3.mono hl2),(h_7.mono (Jp.le_trans hl1 hl2)),(h_8.mono (Jp.le_trans hl1 hl2)),hs4,(h_12.mono (Jp.le_trans hl1 hl2)),(h_13.mono (Jp.le_trans hl1 hl2)),w1,w2,w3,w4,w5,h_11,(by (try dsimp only);rfl)⟩ (fun q_ hs=>?_)
 obtain ⟨i,jt,ajt0,cjt0,ajt1,cjt1,ajt2,cjt2,ajt3,cjt3,rjt7,ajt4,cjt4,rjt8,ajt5,cjt5,ajt6,cjt6,rjt12,ajt7,cjt7,rjt13,g⟩:=q_
 obtain ⟨hle,hi,hjt1,hjt5,hjt6,hjt7,hjt8,hjt10,hjt12,hjt13,hjt0,hjt2,hjt3,hjt4,hjt9,hjt11,hJ⟩:=hs
 dsimp only at hle hi hjt1 hjt5 hjt6 hjt7 hjt8 hjt10 hjt12 hjt13 hjt0 hjt2 hjt3 hjt4 hjt9 hjt11 hJ
 dsimp only
 refine Jf [0] [(53,Bo (decide ((i:Int)<(((Kl t.town.net).2.1).length:Int))))] (Je (Jk (decide ((i:Int)<(((Kl t.town.net).2.1).length:Int))) (fun h2=>?_) (fun h2=>?_)))
 refine Jo (Jb (Je (Jz (Je (Jc ?_)))))
 obtain ⟨b3,o1,rfl⟩:=RS.addr (hs5.mono hle) (k:=i) (by omega)
 obtain ⟨x1,hx1⟩:=We (l:=(Kl t.town.net).2.1) (k:=i) (by omega)
 obtain ⟨_,⟨a6,c6,a7,c7,a8,c8,rfl,w6,w7,w8,w9,hs6,w10,w11,w12,w13,w14,hs7,hs8⟩,hc1⟩:=RS.get (hs5.mono hle) hx1
 refine J3 (b:=b3) (off:=o1) (len:=((Kl t.town.net).2.1).length) (cap:=c5) (ik:=.i64) 54 51 12 i J7 (JW 55 51 (cs:=(Kp x1 a6 c6 a7 c7 a8 c8)) 0 (QZ x1 a6 c6 a7 c7 a8 c8) hc1 (Jv 9 #[I 0,I 0,I 0,I 0,Sl none 0 0,I 0,U 0,U 0,I 0,Sr ([]),Sl none 0 0,Sl none 0 0] 51 (fun b4=>JV [3] [] ([Sg b4 0 (Kp x1 a6 c6 a7 c7 a8 c8)]::[Sg b2 0 [I (((Kl t.town.net).1).now),Sl a4 ((((Kl t.town.net).1).way).length) c4]]::[Sg b1 0 (KU (VZ t).1 a1 c1 a2 c2 a3 c3)]::[Sg b 0 (J6 jt ajt0 cjt0 ajt1 cjt1 ajt2 cjt2 ajt3 cjt3 ajt4 cjt4 ajt5 cjt5 ajt6 cjt6 ajt7 cjt7)]::rjt7::rjt8::rjt12::rjt13::Lr) (Jd (Jb (Jf [0,2,0] [(58,Bo (decide (x1.to_<0)))] (Jk (decide (x1.to_<0)) (fun h3=>?_) (fun h3=>?_))))))))
 refine Jc (Ja [0,2] [(59,Pt b 0),(60,(QZ x1 a6 c6 a7 c7 a8 c8))] (Jx 7 (Jx 7 (Jx 7 (Jx 7 (Jx 7 (Qn (Ls:=[[Sg b 0 (J6 jt ajt0 cjt0 ajt1 cjt1 ajt2 cjt2 ajt3 cjt3 ajt4 cjt4 ajt5 cjt5 ajt6 cjt6 ajt7 cjt7)],rjt7,rjt8,rjt12,rjt13]) (Lr:=([Sg b4 0 (Kp x1 a6 c6 a7 c7 a8 c8)]::[Sg b2 0 [I (((Kl t.town.net).1).now),Sl a4 ((((Kl t.town.net).1).way).length) c4]]::[Sg b1 0 (KU (VZ t).1 a1 c1 a2 c2 a3 c3)]::Lr)) 61 (Jjd g b jt ajt0 cjt0 ajt1 cjt1 ajt2 cjt2 ajt3 cjt3 ajt4 cjt4 ajt5 cjt5 ajt6 cjt6 ajt7 cjt7 rjt7 rjt8 rjt12 rjt13 hjt0 hjt1 hjt2 hjt3 hjt4 hjt5 hjt6 hjt7 hjt8 hjt9 hjt10 hjt11 hjt12 hjt13 (Kp x1 a6 c6 a7 c7 a8 c8) x1 (⟨a6,c6,a7,c7,a8,c8,rfl,w6,w7,w8,w9,hs6,w10,w11,w12,w13,w14,hs7,hs8⟩) (by exact (Zj hH ‹_› hJ).1.reach)) (fun v G3 L1 hl3 hp=>?_))))))))
 obtain ⟨a9,c9,a10,c10,a11,c11,a12,c12,a13,c13,a14,c14,a15,c15,a16,c16,r1,r2,r3,r4,rfl,_,hs9,_,_,_,hs10,hs11,hr1,hr2,_,hs12,_,hr3,hr4,rfl⟩:=hp
 refine Jd (JM (Jb (Jc (Ja [0,0] [(52,I (IntKind.i64.wrap ((i:Int)+1)))] (Kw 52 ((i:Int)+1) J7 (Jd (Ji 4 (Ji 4 (Ji 4 (Ji 4 (Ji 4 (Ji 7 (Ji 7 ?_)))))))))))))
 exact QT ([Sg b2 0 [I (((Kl t.town.net).1).now),Sl a4 ((((Kl t.town.net).1).way).length) c4]]::[Sg b1 0 (KU (VZ t).1 a1 c1 a2 c2 a3 c3)]::[Sg b 0 (J6 (Qi jt x1) a9 c9 a10 c10 a11 c11 a12 c12 a13 c13 a14 c14 a15 c15 a16 c16)]::r1::r2::r3::r4::Lr) (Qr (i+1,(Qi jt x1),a9,c9,a10,c10,a11,c11,a12,c12,r1,a13,c13,r2,a14,c14,a15,c15,r3,a16,c16,r4,G3) ⟨(Jp.le_trans hle hl3),J7,hs9,hs10,hs11,hr1,hr2,hs12,hr3,hr4,‹_›,‹_›,‹_›,‹_›,‹_›,‹_›,(by (try dsimp only);rw [← Jcp hx1,← hJ];unfold Yw;rw [if_pos (by omega)])⟩ (by (try dsimp only);omega))
 refine Jc (Ja [0,2] [(62,Pt b 0),(63,(QZ x1 a6 c6 a7 c7 a8 c8))] (Jx 7 (Jx 7 (Jx 7 (Jx 7 (Jx 7 (Qn (Ls:=[[Sg b 0 (J6 jt ajt0 cjt0 ajt1 cjt1 ajt2 cjt2 ajt3 cjt3 ajt4 cjt4 ajt5 cjt5 ajt6 cjt6 ajt7 cjt7)],rjt7,rjt8,rjt12,rjt13]) (Lr:=([Sg b4 0 (Kp x1 a6 c6 a7 c7 a8 c8)]::[Sg b2 0 [I (((Kl t.town.net).1).now),Sl a4 ((((Kl t.town.net).1).way).length) c4]]::[Sg b1 0 (KU (VZ t).1 a1 c1 a2 c2 a3 c3)]::Lr)) 64 (Joy g b jt ajt0 cjt0 ajt1 cjt1 ajt2 cjt2 ajt3 cjt3 ajt4 cjt4 ajt5 cjt5 ajt6 cjt6 ajt7 cjt7 rjt7 rjt8 rjt12 rjt13 hjt0 hjt1 hjt2 hjt3 hjt4 hjt5 hjt6 hjt7 hjt8 hjt9 hjt10 hjt11 hjt12 hjt13 (Kp x1 a6 c6 a7 c7 a8 c8) x1 (⟨a6,c6,a7,c7,a8,c8,rfl,w6,w7,w8,w9,hs6,w10,w11,w12,w13,w14,hs7,hs8⟩) (by (have q_:=(Zj hH ‹_› hJ);have q2_:=JfQ hH ‹_›;omega)) (by (have q_:=(Zj hH ‹_› hJ);have q2_:=JfQ hH ‹_›;omega)) (by exact (Zj hH ‹_› hJ).1.polls)) (fun v G4 L1 hl4 hp=>?_))))))))
 obtain ⟨a17,c17,a18,c18,a19,c19,a20,c20,a21,c21,a22,c22,a23,c23,a24,c24,r5,r6,r7,r8,rfl,_,hs13,_,_,_,hs14,hs15,hr5,hr6,_,hs16,_,hr7,hr8,rfl⟩:=hp
 refine Jd (JM (Jb (Jc (Ja [0,0] [(52,I (IntKind.i64.wrap ((i:Int)+1)))] (Kw 52 ((i:Int)+1) J7 (Jd (Ji 4 (Ji 4 (Ji 4 (Ji 4 (Ji 4 (Ji 7 (Ji 7 ?_)))))))))))))
 exact QT ([Sg b2 0 [I (((Kl t.town.net).1).now),Sl a4 ((((Kl t.town.net).1).way).length) c4]]::[Sg b1 0 (KU (VZ t).1 a1 c1 a2 c2 a3 c3)]::[Sg b 0 (J6 (ZV jt x1) a17 c17 a18 c18 a19 c19 a20 c20 a21 c21 a22 c22 a23 c23 a24 c24)]::r5::r6::r7::r8::Lr) (Qr (i+1,(ZV jt x1),a17,c17,a18,c18,a19,c19,a20,c20,r5,a21,c21,r6,a22,c22,a23,c23,r7,a24,c24,r8,G4) ⟨(Jp.le_trans hle hl4),J7,hs13,hs14,hs15,hr5,hr6,hs16,hr7,hr8,‹_›,‹_›,‹_›,‹_›,‹_›,‹_›,(by (try dsimp only);rw [← Jcp hx1,← hJ];unfold Yw;rw [if_neg (by omega)])⟩ (by (try dsimp only);omega))
 refine KW (JZ (J8 (JR (Jb (Jf [0,0,0,0,6,0,0] [(71,I (jt.town.owners.length:Int)),(72,I 0)] (Jz ?_))))))
 refine Qh (σ:=Nat×JL×Option Addr×Nat×Option Addr×Nat×Option Addr×Nat×Option Addr×Nat×List Kg×Option Addr×Nat×List Kg×Option Addr×Nat×Option Addr×Nat×List Kg×Option Addr×Nat×List Kg×Jp) (fun q_=>(Jp.le g q_.2.2.2.2.2.2.2.2.2.2.2.2.2.2.2.2.2.2.2.2.2.2)∧(q_.1≤jt.town.owners.length)∧(RS Q3 q_.2.2.2.2.2.2.2.2.2.2.2.2.2.2.2.2.2.2.2.2.2.2 q_.2.2.1 q_.2.2.2.1 q_.2.1.town.clerk.queue.wait)∧(RS KA q_.2.2.2.2.2.2.2.2.2.2.2.2.2.2.2.2.2.2.2.2.2.2 q_.2.2.2.2.1 q_.2.2.2.2.2.1 q_.2.1.town.clerk.heads)∧(RS Qs q_.2.2.2.2.2.2.2.2.2.2.2.2.2.2.2.2.2.2.2.2.2.2 q_.2.2.2.2.2.2.1 q_.2.2.2.2.2.2.2.1 q_.2.1.town.clerk.books)∧(J0 Q1 q_.2.2.2.2.2.2.2.2.2.2.2.2.2.2.2.2.2.2.2.2.2.2 q_.2.2.2.2.2.2.2.2.1 q_.2.2.2.2.2.2.2.2.2.1 q_.2.1.town.owners q_.2.2.2.2.2.2.2.2.2.2.1)∧(J0 Wy q_.2.2.2.2.2.2.2.2.2.2.2.2.2.2.2.2.2.2.2.2.2.2 q_.2.2.2.2.2.2.2.2.2.2.2.1 q_.2.2.2.2.2.2.2.2.2.2.2.2.1 q_.2.1.town.polls q_.2.2.2.2.2.2.2.2.2.2.2.2.2.1)∧(RS Kh q_.2.2.2.2.2.2.2.2.2.2.2.2.2.2.2.2.2.2.2.2.2.2 q_.2.2.2.2.2.2.2.2.2.2.2.2.2.2.1 q_.2.2.2.2.2.2.2.2.2.2.2.2.2.2.2.1 q_.2.1.town.net.way)∧(J0 Vk q_.2.2.2.2.2.2.2.2.2.2.2.2.2.2.2.2.2.2.2.2.2.2 q_.2.2.2.2.2.2.2.2.2.2.2.2.2.2.2.2.1 q_.2.2.2.2.2.2.2.2.2.2.2.2.2.2.2.2.2.1 q_.2.1.fates q_.2.2.2.2.2.2.2.2.2.2.2.2.2.2.2.2.2.2.1)∧(J0 Wn q_.2.2.2.2.2.2.2.2.2.2.2.2.2.2.2.2.2.2.2.2.2.2 q_.2.2.2.2.2.2.2.2.2.2.2.2.2.2.2.2.2.2.2.1 q_.2.2.2.2.2.2.2.2.2.2.2.2.2.2.2.2.2.2.2.2.1 q_.2.1.events q_.2.2.2.2.2.2.2.2.2.2.2.2.2.2.2.2.2.2.2.2.2.1)∧(rI q_.2.1.town.clerk.queue.most)∧(rI q_.2.1.town.clerk.batch)∧(rI q_.2.1.town.clerk.every)∧(rI q_.2.1.town.clerk.now)∧(rI q_.2.1.town.net.now)∧(rI q_.2.1.reach)∧(q_.2.1=JbL jt q_.1)) (fun q_=>[(0,Pt b 0),(71,I (jt.town.owners.length:Int)),(72,I (q_.1:Int))]) (fun q_=>q_.2.2.2.2.2.2.2.2.2.2.2.2.2.2.2.2.2.2.2.2.2.2) (fun q_=>([Sg b2 0 [I (((Kl t.town.net).1).now),Sl a4 ((((Kl t.town.net).1).way).length) c4]]::[Sg b1 0 (KU (VZ t).1 a1 c1 a2 c2 a3 c3)]::[Sg b 0 (J6 q_.2.1 q_.2.2.1 q_.2.2.2.1 q_.2.2.2.2.1 q_.2.2.2.2.2.1 q_.2.2.2.2.2.2.1 q_.2.2.2.2.2.2.2.1 q_.2.2.2.2.2.2.2.2.1 q_.2.2.2.2.2.2.2.2.2.1 q_.2.2.2.2.2.2.2.2.2.2.2.1 q_.2.2.2.2.2.2.2.2.2.2.2.2.1 q_.2.2.2.2.2.2.2.2.2.2.2.2.2.2.1 q_.2.2.2.2.2.2.2.2.2.2.2.2.2.2.2.1 q_.2.2.2.2.2.2.2.2.2.2.2.2.2.2.2.2.1 q_.2.2.2.2.2.2.2.2.2.2.2.2.2.2.2.2.2.1 q_.2.2.2.2.2.2.2.2.2.2.2.2.2.2.2.2.2.2.2.1 q_.2.2.2.2.2.2.2.2.2.2.2.2.2.2.2.2.2.2.2.2.1)]::q_.2.2.2.2.2.2.2.2.2.2.1::q_.2.2.2.2.2.2.2.2.2.2.2.2.2.1::q_.2.2.2.2.2.2.2.2.2.2.2.2.2.2.2.2.2.2.1::q_.2.2.2.2.2.2.2.2.2.2.2.2.2.2.2.2.2.2.2.2.2.1::Lr)) (fun q_=>jt.town.owners.length-q_.1) (0,jt,ajt0,cjt0,ajt1,cjt1,ajt2,cjt2,ajt3,cjt3,rjt7,ajt4,cjt4,rjt8,ajt5,cjt5,ajt6,cjt6,rjt12,ajt7,cjt7,rjt13,g) ⟨(Jp.le_refl _),(by (try dsimp only);omega),hjt1,hjt5,hjt6,hjt7,hjt8,hjt10,hjt12,hjt13,hjt0,hjt2,hjt3,hjt4,hjt9,hjt11,(by (try dsimp only);rfl)⟩ (fun q_ hs=>?_)
 obtain ⟨k,kt,akt0,ckt0,akt1,ckt1,akt2,ckt2,akt3,ckt3,rkt7,akt4,ckt4,rkt8,akt5,ckt5,akt6,ckt6,rkt12,akt7,ckt7,rkt13,g1_⟩:=q_
 obtain ⟨hle1_,hi,hkt1,hkt5,hkt6,hkt7,hkt8,hkt10,hkt12,hkt13,hkt0,hkt2,hkt3,hkt4,hkt9,hkt11,hK⟩:=hs
 dsimp only at hle1_ hi hkt1 hkt5 hkt6 hkt7 hkt8 hkt10 hkt12 hkt13 hkt0 hkt2 hkt3 hkt4 hkt9 hkt11 hK
 dsimp only
 refine Jf [0] [(73,Bo (decide ((k:Int)<(jt.town.owners.length:Int))))] (Je (Jk (decide ((k:Int)<(jt.town.owners.length:Int))) (fun h4=>?_) (fun h4=>?_)))
 refine Jo (Jb (Je (Jz (Jf [0,0] [(10,I (k:Int))] (Jc (Ja [0,0] [(75,Pt b 0),(76,I (k:Int))] (Jx 6 (Jx 6 (Jx 6 (Jx 6 (Jx 6 (Qn (Ls:=[[Sg b 0 (J6 kt akt0 ckt0 akt1 ckt1 akt2 ckt2 akt3 ckt3 akt4 ckt4 akt5 ckt5 akt6 ckt6 akt7 ckt7)],rkt7,rkt8,rkt12,rkt13]) (Lr:=([Sg b2 0 [I (((Kl t.town.net).1).now),Sl a4 ((((Kl t.town.net).1).way).length) c4]]::[Sg b1 0 (KU (VZ t).1 a1 c1 a2 c2 a3 c3)]::Lr)) 77 (Joz g1_ b kt akt0 ckt0 akt1 ckt1 akt2 ckt2 akt3 ckt3 akt4 ckt4 akt5 ckt5 akt6 ckt6 akt7 ckt7 rkt7 rkt8 rkt12 rkt13 hkt0 hkt1 hkt2 hkt3 hkt4 hkt5 hkt6 hkt7 hkt8 hkt9 hkt10 hkt11 hkt12 hkt13 (k:Int) (by (have q_:=(Zj hH ‹_› hJ);have q2_:=(Jd7 (Zj hH ‹_› hJ).1 hK);have q3_:=hH.len;omega)) (by (have q_:=(Zj hH ‹_› hJ);have q2_:=(Jd7 (Zj hH ‹_› hJ).1 hK);have q3_:=hH.len;omega)) (by (have q_:=(Zj hH ‹_› hJ);have q2_:=(Jd7 (Zj hH ‹_› hJ).1 hK);have q3_:=hH.len;omega)) (by exact (Jd7 (Zj hH ‹_› hJ).1 hK).1.polls) (by exact (Jd7 (Zj hH ‹_› hJ).1 hK).1.epoch)) (fun v G5 L1 hl5 hp=>?_)))))))))))))
 obtain ⟨a25,c25,a26,c26,a27,c27,a28,c28,a29,c29,a30,c30,a31,c31,a32,c32,r9,r10,r11,r12,rfl,_,hs17,_,_,_,hs18,hs19,hr9,hr10,_,hs20,_,hr11,hr12,rfl⟩:=hp
 refine Jd (JM (Jb (Jc (Ja [0,0] [(72,I (IntKind.i64.wrap ((k:Int)+1)))] (Kw 72 ((k:Int)+1) (by (have q_:=(Zj hH ‹_› hJ);have q2_:=(Jd7 (Zj hH ‹_› hJ).1 hK);have q3_:=hH.len;omega)) (Jd (Ji 4 (Ji 4 (Ji 4 (Ji 4 (Ji 4 (Ji 6 (Ji 6 ?_)))))))))))))
 exact QT ([Sg b2 0 [I (((Kl t.town.net).1).now),Sl a4 ((((Kl t.town.net).1).way).length) c4]]::[Sg b1 0 (KU (VZ t).1 a1 c1 a2 c2 a3 c3)]::[Sg b 0 (J6 (Zw kt (k:Int)) a25 c25 a26 c26 a27 c27 a28 c28 a29 c29 a30 c30 a31 c31 a32 c32)]::r9::r10::r11::r12::Lr) (Qr (k+1,(Zw kt (k:Int)),a25,c25,a26,c26,a27,c27,a28,c28,r9,a29,c29,r10,a30,c30,a31,c31,r11,a32,c32,r12,G5) ⟨(Jp.le_trans hle1_ hl5),J7,hs17,hs18,hs19,hr9,hr10,hs20,hr11,hr12,‹_›,‹_›,‹_›,‹_›,‹_›,‹_›,(by (try dsimp only);rw [← Jar,← hK])⟩ (by (try dsimp only);omega))
 refine KW (JZ (J8 (JR (Ji 6 (Ji 6 (Ji 6 (Ji 6 (Ji 6 ?_))))))))
 have hf2:Wz t=kt:=by
  exact JoA ‹_› hJ J7 hK (by omega)
 refine ZC [] [] (KQ (Lr:=Lr) [[Sg b 0 (J6 kt akt0 ckt0 akt1 ckt1 akt2 ckt2 akt3 ckt3 akt4 ckt4 akt5 ckt5 akt6 ckt6 akt7 ckt7)],rkt7,rkt8,rkt12,rkt13] (Jp.le_trans (Jp.le_trans (Jp.le_trans hl1 hl2) hle) hle1_) ?_)
 rw [hf2];try dsimp only
 exact ⟨akt0,ckt0,akt1,ckt1,akt2,ckt2,akt3,ckt3,akt4,ckt4,akt5,ckt5,akt6,ckt6,akt7,ckt7,rkt7,rkt8,rkt12,rkt13,rfl,hkt0,hkt1,hkt2,hkt3,hkt4,hkt5,hkt6,hkt7,hkt8,hkt9,hkt10,hkt11,hkt12,hkt13,rfl⟩
theorem tDo1 {t:JL} {d:Qc} (h:d.kind=1):YS t d=Wg t d:=by unfold YS;rw [if_pos h]
theorem tDo2 {t:JL} {d:Qc} (h:d.kind=2):YS t d=⟨t.town,t.reach,t.fates++[d.fates],t.events⟩:=by unfold YS;rw [if_neg (by omega),if_pos h]
theorem tDo30 {t:JL} {d:Qc} (h:d.kind=3) (ho:W8 t d.who=false):YS t d=t:=by unfold YS;rw [if_neg (by omega),if_neg (by omega),if_pos h];unfold Jgn;rw [if_pos ho]
theorem tDo31 {t:JL} {d:Qc} (h:d.kind=3) (ho:W8 t d.who=true) (hs:(Kr t.town.net (Ji9 d.letter d.who) [1]).2=0):YS t d=⟨⟨t.town.clerk,t.town.owners,t.town.polls,(Kr t.town.net (Ji9 d.letter d.who) [1]).1⟩,t.reach,t.fates,t.events⟩:=by
 unfold YS;rw [if_neg (by omega),if_neg (by omega),if_pos h];unfold Jgn;rw [if_neg (by rw [ho];simp),if_pos hs]
theorem tDo32 {t:JL} {d:Qc} (h:d.kind=3) (ho:W8 t d.who=true) (hs:¬ (Kr t.town.net (Ji9 d.letter d.who) [1]).2=0):YS t d=t:=by
 unfold YS;rw [if_neg (by omega),if_neg (by omega),if_pos h];unfold Jgn;rw [if_neg (by rw [ho];simp),if_neg hs]
theorem tDo4 {t:JL} {d:Qc} (h:d.kind=4):YS t d=Wz t:=by unfold YS;rw [if_neg (by omega),if_neg (by omega),if_neg (by omega),if_pos h]
theorem tDo5 {t:JL} {d:Qc} (h1:¬ d.kind=1) (h2:¬ d.kind=2) (h3:¬ d.kind=3) (h4:¬ d.kind=4):YS t d=t:=by unfold YS;rw [if_neg h1,if_neg h2,if_neg h3,if_neg h4]
set_option maxRecDepth 20000 in
abbrev JbP (d:Qc):=(⟨d.who,d.letter.from_,d.letter.since,d.letter.due,d.letter.heads,d.letter.reply⟩:JS)
abbrev W4 (d:Qc) (t:JL):=Kr t.town.net (JbP d) ([1])
theorem Jpw (G:Jp) (b:Nat) (t:JL) (a_1:Option Addr) (c_1:Nat) (a_5:Option Addr) (c_5:Nat) (a_6:Option Addr) (c_6:Nat) (a_7:Option Addr) (c_7:Nat) (a_8:Option Addr) (c_8:Nat) (a_10:Option Addr) (c_10:Nat) (a_12:Option Addr) (c_12:Nat) (a_13:Option Addr) (c_13:Nat) (r_7:List Kg) (r_8:List Kg) (r_12:List Kg) (r_13:List Kg) (h_0:rI t.town.clerk.queue.most) (h_1:RS Q3 G a_1 c_1 t.town.clerk.queue.wait) (h_2:rI t.town.clerk.batch) (h_3:rI t.town.clerk.every) (h_4:rI t.town.clerk.now) (h_5:RS KA G a_5 c_5 t.town.clerk.heads) (h_6:RS Qs G a_6 c_6 t.town.clerk.books) (h_7:J0 Q1 G a_7 c_7 t.town.owners r_7) (h_8:J0 Wy G a_8 c_8 t.town.polls r_8) (h_9:rI t.town.net.now) (h_10:RS Kh G a_10 c_10 t.town.net.way) (h_11:rI t.reach) (h_12:J0 Vk G a_12 c_12 t.fates r_12) (h_13:J0 Wn G a_13 c_13 t.events r_13) (vs_d:List Value) (d:Qc) (h_d:WW.R G vs_d d) (hH:Vu t) (hev:t.events.length≤900000) (hfl:t.fates.length≤1000000):Jcf 35 #[Pt b 0,.agg vs_d.toArray] G [[Sg b 0 [I t.town.clerk.queue.most,Sl a_1 t.town.clerk.queue.wait.length c_1,I t.town.clerk.batch,I t.town.clerk.every,I t.town.clerk.now,Sl a_5 t.town.clerk.heads.length c_5,Sl a_6 t.town.clerk.books.length c_6,Sl a_7 t.town.owners.length c_7,Sl a_8 t.town.polls.length c_8,I t.town.net.now,Sl a_10 t.town.net.way.length c_10,I t.reach,Sl a_12 t.fates.length c_12,Sl a_13 t.events.length c_13]],r_7,r_8,r_12,r_13] (fun u G' L'=>∃ (a_z1:Option Addr) (c_z1:Nat) (a_z5:Option Addr) (c_z5:Nat) (a_z6:Option Addr) (c_z6:Nat) (a_z7:Option Addr) (c_z7:Nat) (a_z8:Option Addr) (c_z8:Nat) (a_z10:Option Addr) (c_z10:Nat) (a_z12:Option Addr) (c_z12:Nat) (a_z13:Option Addr) (c_z13:Nat) (r_z7:List Kg) (r_z8:List Kg) (r_z12:List Kg) (r_z13:List Kg),u=.tuple #[]∧(rI ((YS t d).town.clerk.queue.most))∧(RS Q3 G' a_z1 c_z1 ((YS t d).town.clerk.queue.wait))∧(rI ((YS t d).town.clerk.batch))∧(rI ((YS t d).town.clerk.every))∧(rI ((YS t d).town.clerk.now))∧(RS KA G' a_z5 c_z5 ((YS t d).town.clerk.heads))∧(RS Qs G' a_z6 c_z6 ((YS t d).town.clerk.books))∧(J0 Q1 G' a_z7 c_z7 ((YS t d).town.owners) r_z7)∧(J0 Wy G' a_z8 c_z8 ((YS t d).town.polls) r_z8)∧(rI ((YS t d).town.net.now))∧(RS Kh G' a_z10 c_z10 ((YS t d).town.net.way))∧(rI ((YS t d).reach))∧(J0 Vk G' a_z12 c_z12 ((YS t d).fates) r_z12)∧(J0 Wn G' a_z13 c_z13 ((YS t d).events) r_z13)∧L'=[[Sg b 0 [I ((YS t d).town.clerk.queue.most),Sl a_z1 (((YS t d).town.clerk.queue.wait).length) c_z1,I ((YS t d).town.clerk.batch),I ((YS t d).town.clerk.every),I ((YS t d).town.clerk.now),Sl a_z5 (((YS t d).town.clerk.heads).length) c_z5,Sl a_z6 (((YS t d).town.clerk.books).length) c_z6,Sl a_z7 (((YS t d).town.owners).length) c_z7,Sl a_z8 (((YS t d).town.polls).length) c_z8,I ((YS t d).town.net.now),Sl a_z10 (((YS t d).town.net.way).length) c_z10,I ((YS t d).reach),Sl a_z12 (((YS t d).fates).length) c_z12,Sl a_z13 (((YS t d).events).length) c_z13]],r_z7,r_z8,r_z12,r_z13]):=by
 obtain ⟨a1,c1,a2,c2,a3,c3,a4,c4,rfl,w1,w2,w3,hs1,w4,w5,w6,w7,hs2,w8,w9,w10,w11,w12,hs3,hs4⟩:=h_d
 intro Lr
 refine JN Tryz.func35 61 [(0,Pt b 0),(1,(Jfh d a1 c1 a2 c2 a3 c3 a4 c4))] rfl (fun w0 G0=>?_)
 show TC _ _ _ _ _ ([Sg b 0 (J6 t a_1 c_1 a_5 c_5 a_6 c_6 a_7 c_7 a_8 c_8 a_10 c_10 a_12 c_12 a_13 c_13)]::r_7::r_8::r_12::r_13::Lr)
 refine Je (Jc (Jv 3 #[I d.kind,I d.who,Sr d.value,Sl a1 d.fates.length c1,I d.letter.to_,I d.letter.from_,I d.letter.since,I d.letter.due,Sl a2 d.letter.heads.length c2,I d.letter.reply.head.epoch,U d.letter.reply.head.root,U d.letter.reply.head.prev,I d.letter.reply.head.at_,Sr d.letter.reply.proof.name,Sl a3 d.letter.reply.proof.entries.length c3,Sl a4 d.letter.reply.proof.sides.length c4] 53 (fun b1=>Jd (Jb (Jf [0,2] [(8,I d.kind)] (Jz (Jf [0,0] [(9,Bo (decide (d.kind=1)))] (Jk (decide (d.kind=1)) (fun h1=>?_) (fun h1=>?_)))))))))
 refine Jc (Ja [0,2] [(11,Pt b 0),(12,(Jfh d a1 c1 a2 c2 a3 c3 a4 c4))] (Jx 5 (Jx 5 (Jx 5 (Jx 5 (Jx 5 (Qn (Ls:=[[Sg b 0 (J6 t a_1 c_1 a_5 c_5 a_6 c_6 a_7 c_7 a_8 c_8 a_10 c_10 a_12 c_12 a_13 c_13)],r_7,r_8,r_12,r_13]) (Lr:=([Sg b1 0 (WT d a1 c1 a2 c2 a3 c3 a4 c4)]::Lr)) 13 (JmI G b t a_1 c_1 a_5 c_5 a_6 c_6 a_7 c_7 a_8 c_8 a_10 c_10 a_12 c_12 a_13 c_13 r_7 r_8 r_12 r_13 h_0 h_1 h_2 h_3 h_4 h_5 h_6 h_7 h_8 h_9 h_10 h_11 h_12 h_13 (WT d a1 c1 a2 c2 a3 c3 a4 c4) d (⟨a1,c1,a2,c2,a3,c3,a4,c4,rfl,w1,w2,w3,hs1,w4,w5,w6,w7,hs2,w8,w9,w10,w11,w12,hs3,hs4⟩) J7) (fun v G1 L1 hl1 hp=>?_))))))))
 obtain ⟨a5,c5,a6,c6,a7,c7,a8,c8,a9,c9,a10,c10,a11,c11,a12,c12,r1,r2,r3,r4,rfl,w13,hs5,w14,w15,w16,hs6,hs7,hr1,hr2,w17,hs8,w18,hr3,hr4,rfl⟩:=hp
 refine Jd (JM (Ji 4 (Ji 4 (Ji 4 (Ji 4 (Ji 4 ?_))))))
 have hf1:YS t d=(Wg t d):=by
  exact tDo1 ‹_›
 refine ZC [] [] (KQ (Lr:=Lr) [[Sg b 0 (J6 (Wg t d) a5 c5 a6 c6 a7 c7 a8 c8 a9 c9 a10 c10 a11 c11 a12 c12)],r1,r2,r3,r4] hl1 ?_)
 rw [hf1];try dsimp only
 exact ⟨a5,c5,a6,c6,a7,c7,a8,c8,a9,c9,a10,c10,a11,c11,a12,c12,r1,r2,r3,r4,rfl,w13,hs5,w14,w15,w16,hs6,hs7,hr1,hr2,w17,hs8,w18,hr3,hr4,rfl⟩
 refine Jf [0,0] [(14,Bo (decide (d.kind=2)))] (Jk (decide (d.kind=2)) (fun h2=>?_) (fun h2=>?_))
 refine Ko [7,8,9,12] (Wm [(0,Pt b 0),(1,Pt b 0),(2,Pt b 0),(3,Pt b 12),(4,Sl a_12 t.fates.length c_12),(5,Pt b1 3),(6,Sl a1 d.fates.length c1)] (JK [] [(0,0),(1,0),(2,0),(3,0),(4,4),(5,0),(6,2)] [] [7] (List.forall_mem_nil _) (Ke ?_ K4)))
 refine JD 7 [(22,Sl a1 d.fates.length c1)] (fun X=>?_)
 refine JF 23 (Jl8 G a1 c1 d.fates hs1) (fun v G2 L1 hl2 hp=>?_)
 obtain ⟨a13,c13,_,rfl,hr5,rfl⟩:=hp
 refine JC [(7,Sl a13 d.fates.length c13)] (JK [5,6] [(0,0),(1,0),(2,0),(3,0),(4,6)] [] [8] (List.forall_mem_nil _) (Ke ?_ K4))
 refine JD 8 [(23,Sl a13 d.fates.length c13)] (fun X=>?_)
 refine Kq 24 1 #[Sl a13 d.fates.length c13] 39 (fun b2=>JC [(8,Sl (At b2 0) 1 1)] (JK [5,6] [(0,0),(1,0),(2,0),(3,0),(4,8)] [] [9] (List.forall_mem_nil _) (Ke ?_ K4)))
 refine JD 9 [(20,Sl a_12 t.fates.length c_12),(24,Sl (At b2 0) 1 1)] (fun X=>?_)
 refine WJ (E:=EI) 1 hr5 (by exact (hs1).fit) (fun G3 hl3 hs9=>Qv (b:=b2) (cs:=[Sl a13 d.fates.length c13]) 25 39 6 0 (E:=Vk) d.fates (h_12.mono (Jp.le_trans hl2 hl3)) ⟨a13,c13,rfl,hs9⟩ (by (try simp only [Vk,List.length_append,List.length_cons,List.length_nil]);omega) (by (try simp only [Vk,List.length_append,List.length_cons,List.length_nil]);omega) (fun a14 c14 r6 hr6=>JC [(9,Sl a14 ((t.fates++[d.fates]).length) c14),(10,Pt b 0),(11,Pt b 12)] (JK [1,2,3,4,5,6] [(0,0),(10,0),(11,0)] [] [12] (List.forall_mem_nil _) (Ke ?_ K4))))
 refine JD 12 [(25,Sl a14 ((t.fates++[d.fates]).length) c14),(27,Pt b 12)] (fun X=>?_)
 refine KL 3 ([Sg b2 0 [Sl a13 d.fates.length c13]]::[]::[Sg b1 0 (WT d a1 c1 a2 c2 a3 c3 a4 c4)]::[Sg b 0 (J6 (⟨t.town,t.reach,(t.fates++[d.fates]),t.events⟩:JL) a_1 c_1 a_5 c_5 a_6 c_6 a_7 c_7 a_8 c_8 a_10 c_10 a14 c14 a_13 c_13)]::r_7::r_8::r6::r_13::Lr) (Kc [] (Km [0,1,2,3,4,5,6,10,11] [] [] [] (List.forall_mem_nil _) (JM (Ji 7 (Ji 7 (Ji 7 (Ji 7 (Ji 7 ?_))))))))
 have hf2:YS t d=(⟨t.town,t.reach,t.fates++[d.fates],t.events⟩:JL):=by
  exact tDo2 ‹_›
 refine ZC [] [] (KQ (Lr:=Lr) [[Sg b 0 (J6 (⟨t.town,t.reach,(t.fates++[d.fates]),t.events⟩:JL) a_1 c_1 a_5 c_5 a_6 c_6 a_7 c_7 a_8 c_8 a_10 c_10 a14 c14 a_13 c_13)],r_7,r_8,r6,r_13] (Jp.le_trans hl2 hl3) ?_)
 rw [hf2];try dsimp only
 exact ⟨a_1,c_1,a_5,c_5,a_6,c_6,a_7,c_7,a_8,c_8,a_10,c_10,a14,c14,a_13,c_13,r_7,r_8,r6,r_13,rfl,h_0,(h_1.mono (Jp.le_trans hl2 hl3)),h_2,h_3,h_4,(h_5.mono (Jp.le_trans hl2 hl3)),(h_6.mono (Jp.le_trans hl2 hl3)),(h_7.mono (Jp.le_trans hl2 hl3)),(h_8.mono (Jp.le_trans hl2 hl3)),h_9,(h_10.mono (Jp.le_trans hl2 hl3)),h_11,hr6,(h_13.mono (Jp.le_trans hl2 hl3)),rfl⟩
 refine Jf [0,0] [(28,Bo (decide (d.kind=3)))] (Jk (decide (d.kind=3)) (fun h3=>?_) (fun h3=>?_))
 refine Je (Jc (Ja [0,0,2] [(30,Pt b 0),(32,I d.who)] (Jx 5 (Jx 5 (Jx 5 (Jx 5 (Jx 5 (Qn (Ls:=[[Sg b 0 (J6 t a_1 c_1 a_5 c_5 a_6 c_6 a_7 c_7 a_8 c_8 a_10 c_10 a_12 c_12 a_13 c_13)],r_7,r_8,r_12,r_13]) (Lr:=([Sg b1 0 (WT d a1 c1 a2 c2 a3 c3 a4 c4)]::Lr)) 33 (JbO G b t a_1 c_1 a_5 c_5 a_6 c_6 a_7 c_7 a_8 c_8 a_10 c_10 a_12 c_12 a_13 c_13 r_7 r_8 r_12 r_13 h_0 h_1 h_2 h_3 h_4 h_5 h_6 h_7 h_8 h_9 h_10 h_11 h_12 h_13 d.who) (fun v G4 L1 hl4 hp=>?_)))))))))
 obtain ⟨a15,c15,a16,c16,a17,c17,a18,c18,a19,c19,a20,c20,a21,c21,a22,c22,r7,r8,r9,r10,rfl,w19,hs10,w20,w21,w22,hs11,hs12,hr7,hr8,w23,hs13,w24,hr9,hr10,rfl⟩:=hp
 refine Jd (Jb (Jk (W8 t d.who) (fun h4=>?_) (fun h4=>?_)))
 refine Je (Jc (Ja [0,12] [(35,(QZ d.letter a2 c2 a3 c3 a4 c4))] (Jv 4 #[I 0,I 0,I 0,I 0,Sl none 0 0,I 0,U 0,U 0,I 0,Sr ([]),Sl none 0 0,Sl none 0 0] 51 (fun b3=>JV [3] [] ([Sg b3 0 (Kp d.letter a2 c2 a3 c3 a4 c4)]::[Sg b 0 (J6 t a15 c15 a16 c16 a17 c17 a18 c18 a19 c19 a20 c20 a21 c21 a22 c22)]::r7::r8::r9::r10::[Sg b1 0 (WT d a1 c1 a2 c2 a3 c3 a4 c4)]::Lr) (Jd (Jb (Qx [0,14,0,3] [] ([Sg b3 0 (Kp (JbP d) a2 c2 a3 c3 a4 c4)]::[Sg b 0 (J6 t a15 c15 a16 c16 a17 c17 a18 c18 a19 c19 a20 c20 a21 c21 a22 c22)]::r7::r8::r9::r10::[Sg b1 0 (WT d a1 c1 a2 c2 a3 c3 a4 c4)]::Lr) ?_)))))))
 refine Yv (σ:=Nat×(Option Addr)×Nat×Jp) (fun q_=>(Jp.le G4 q_.2.2.2)∧(rI (((W4 d t).1).now))∧(RS Kh q_.2.2.2 q_.2.1 q_.2.2.1 (((W4 d t).1).way))) (fun q_=>[(0,Pt b 0),(5,Pt q_.1 0),(6,I ((W4 d t).2))]) (fun q_=>q_.2.2.2) (fun q_=>([Sg q_.1 0 [I (((W4 d t).1).now),Sl q_.2.1 ((((W4 d t).1).way).length) q_.2.2.1]]::[]::[Sg b3 0 (Kp (JbP d) a2 c2 a3 c3 a4 c4)]::[Sg b 0 (J6 t a15 c15 a16 c16 a17 c17 a18 c18 a19 c19 a20 c20 a21 c21 a22 c22)]::r7::r8::r9::r10::[Sg b1 0 (WT d a1 c1 a2 c2 a3 c3 a4 c4)]::Lr)) ?_ (fun q_ hs=>?_)
 refine Ko [6,7,11,12] (Wm [(0,Pt b 0),(1,Pt b 0),(2,Pt b 0),(3,Pt b 9),(4,.agg #[I t.town.net.now,Sl a20 t.town.net.way.length c20]),(5,(QZ (JbP d) a2 c2 a3 c3 a4 c4))] (JK [] [(0,0),(1,0),(2,0),(3,0),(4,4),(5,2)] [] [6,11] (List.forall_mem_nil _) (Ke ?_ (Ke ?_ K4))))
 refine JD 6 [] (fun X=>?_)
 refine Kq 46 1 #[I 1] 3 (fun b4=>JC [(6,Sl (At b4 0) 1 1)] (JK [] [(0,0),(1,0),(2,0),(3,0),(4,6),(5,4)] [] [7,11] (List.forall_mem_nil _) (Ke ?_ (Ke ?_ K4))))
 refine JD 7 [(44,.agg #[I t.town.net.now,Sl a20 t.town.net.way.length c20]),(45,(QZ (JbP d) a2 c2 a3 c3 a4 c4)),(46,Sl (At b4 0) 1 1)] (fun X=>?_)
 refine QV (b:=b4) (o:=0) (cs:=[I 1]) 0 (fun G5 hl5 hz1=>?_)
 have hs14:RS EI G5 (At b4 0) 1 [1]:=RS.lit [[I 1]] [1] ⟨⟨rfl,(by omega)⟩,trivial⟩ hz1 (Nat.le_of_ble_eq_true rfl) (Nat.le_of_ble_eq_true rfl)
 refine JF 47 (YH G5 [I t.town.net.now,Sl a20 t.town.net.way.length c20] t.town.net (⟨a20,c20,rfl,w23,(hs13.mono hl5)⟩) (Kp (JbP d) a2 c2 a3 c3 a4 c4) (JbP d) (⟨a2,c2,a3,c3,a4,c4,rfl,w2,w5,w6,w7,(hs2.mono (Jp.le_trans hl4 hl5)),w8,w9,w10,w11,w12,(hs3.mono (Jp.le_trans hl4 hl5)),(hs4.mono (Jp.le_trans hl4 hl5))⟩) (At b4 0) 1 ([1]) hs14) (fun v G6 L1 hl6 hp=>?_)
 obtain ⟨a23,c23,rfl,w25,hs15,rfl⟩:=hp
 refine JC [(7,.tuple #[.agg #[I (((W4 d t).1).now),Sl a23 ((((W4 d t).1).way).length) c23],I ((W4 d t).2)]),(8,.tuple #[.agg #[I (((W4 d t).1).now),Sl a23 ((((W4 d t).1).way).length) c23],I ((W4 d t).2)]),(9,.agg #[I (((W4 d t).1).now),Sl a23 ((((W4 d t).1).way).length) c23]),(10,I ((W4 d t).2))] (JK [0,1,2,3,4,5] [(8,0),(9,0),(10,0)] [] [11] (List.forall_mem_nil _) (Ke ?_ K4))
 refine JD 11 [] (fun X=>?_)
 refine Jv 5 #[I 0,Sl none 0 0] 65 (fun b5=>JC [(11,Pt b5 0)] (JK [0,1,2,3,4,5] [(8,0),(9,0),(10,0)] [] [12] (List.forall_mem_nil _) (Ke ?_ K4)))
 refine JD 12 [(5,Pt b5 0),(48,.agg #[I (((W4 d t).1).now),Sl a23 ((((W4 d t).1).way).length) c23])] (fun X=>?_)
 exact KL 0 ([Sg b5 0 [I (((W4 d t).1).now),Sl a23 ((((W4 d t).1).way).length) c23]]::[]::[Sg b3 0 (Kp (JbP d) a2 c2 a3 c3 a4 c4)]::[Sg b 0 (J6 t a15 c15 a16 c16 a17 c17 a18 c18 a19 c19 a20 c20 a21 c21 a22 c22)]::r7::r8::r9::r10::[Sg b1 0 (WT d a1 c1 a2 c2 a3 c3 a4 c4)]::Lr) (Kc [(13,I ((W4 d t).2))] (Km [0,1,2,3,4,5,8,9] [(10,0),(13,0)] [] [(0,Pt b 0),(5,Pt b5 0),(6,I ((W4 d t).2))] (List.forall_mem_nil _) (Wb (b5,a23,c23,G6) ⟨(Jp.le_trans hl5 hl6),w25,hs15⟩)))
 refine JD 11 [] (fun X=>?_)
 refine Jv 5 #[I 0,Sl none 0 0] 65 (fun b6=>JC [(11,Pt b6 0)] (JK [] [(0,0),(1,0),(2,0),(3,0),(4,8),(5,6)] [] [7] (List.forall_mem_nil _) (Ke ?_ K4)))
 refine JD 7 [(44,.agg #[I t.town.net.now,Sl a20 t.town.net.way.length c20]),(45,(QZ (JbP d) a2 c2 a3 c3 a4 c4)),(46,Sl (At b4 0) 1 1)] (fun X=>?_)
 refine QV (b:=b4) (o:=0) (cs:=[I 1]) 1 (fun G7 hl7 hz2=>?_)
 have hs16:RS EI G7 (At b4 0) 1 [1]:=RS.lit [[I 1]] [1] ⟨⟨rfl,(by omega)⟩,trivial⟩ hz2 (Nat.le_of_ble_eq_true rfl) (Nat.le_of_ble_eq_true rfl)
 refine JF 47 (YH G7 [I t.town.net.now,Sl a20 t.town.net.way.length c20] t.town.net (⟨a20,c20,rfl,w23,(hs13.mono hl7)⟩) (Kp (JbP d) a2 c2 a3 c3 a4 c4) (JbP d) (⟨a2,c2,a3,c3,a4,c4,rfl,w2,w5,w6,w7,(hs2.mono (Jp.le_trans hl4 hl7)),w8,w9,w10,w11,w12,(hs3.mono (Jp.le_trans hl4 hl7)),(hs4.mono (Jp.le_trans hl4 hl7))⟩) (At b4 0) 1 ([1]) hs16) (fun v G8 L1 hl8 hp=>?_)
 obtain ⟨a24,c24,rfl,w26,hs17,rfl⟩:=hp
 refine JC [(7,.tuple #[.agg #[I (((W4 d t).1).now),Sl a24 ((((W4 d t).1).way).length) c24],I ((W4 d t).2)]),(8,.tuple #[.agg #[I (((W4 d t).1).now),Sl a24 ((((W4 d t).1).way).length) c24],I ((W4 d t).2)]),(9,.agg #[I (((W4 d t).1).now),Sl a24 ((((W4 d t).1).way).length) c24]),(10,I ((W4 d t).2))] (JK [0,1,2,3,4,5] [(8,0),(9,0),(10,0)] [] [12] (List.forall_mem_nil _) (Ke ?_ K4))
 refine JD 12 [(5,Pt b6 0),(48,.agg #[I (((W4 d t).1).now),Sl a24 ((((W4 d t).1).way).length) c24])] (fun X=>?_)
 exact KL 0 ([Sg b6 0 [I (((W4 d t).1).now),Sl a24 ((((W4 d t).1).way).length) c24]]::[]::[Sg b3 0 (Kp (JbP d) a2 c2 a3 c3 a4 c4)]::[Sg b 0 (J6 t a15 c15 a16 c16 a17 c17 a18 c18 a19 c19 a20 c20 a21 c21 a22 c22)]::r7::r8::r9::r10::[Sg b1 0 (WT d a1 c1 a2 c2 a3 c3 a4 c4)]::Lr) (Kc [(13,I ((W4 d t).2))] (Km [0,1,2,3,4,5,8,9] [(10,0),(13,0)] [] [(0,Pt b 0),(5,Pt b6 0),(6,I ((W4 d t).2))] (List.forall_mem_nil _) (Wb (b6,a24,c24,G8) ⟨(Jp.le_trans hl7 hl8),w26,hs17⟩)))
 refine JD 11 [] (fun X=>?_)
 refine Jv 5 #[I 0,Sl none 0 0] 65 (fun b7=>JC [(11,Pt b7 0)] (JK [] [(0,0),(1,0),(2,0),(3,0),(4,6),(5,4)] [] [6] (List.forall_mem_nil _) (Ke ?_ K4)))
 refine JD 6 [] (fun X=>?_)
 refine Kq 46 1 #[I 1] 3 (fun b8=>JC [(6,Sl (At b8 0) 1 1)] (JK [] [(0,0),(1,0),(2,0),(3,0),(4,8),(5,6)] [] [7] (List.forall_mem_nil _) (Ke ?_ K4)))
 refine JD 7 [(44,.agg #[I t.town.net.now,Sl a20 t.town.net.way.length c20]),(45,(QZ (JbP d) a2 c2 a3 c3 a4 c4)),(46,Sl (At b8 0) 1 1)] (fun X=>?_)
 refine QV (b:=b8) (o:=0) (cs:=[I 1]) 0 (fun G9 hl9 hz3=>?_)
 have hs18:RS EI G9 (At b8 0) 1 [1]:=RS.lit [[I 1]] [1] ⟨⟨rfl,(by omega)⟩,trivial⟩ hz3 (Nat.le_of_ble_eq_true rfl) (Nat.le_of_ble_eq_true rfl)
 refine JF 47 (YH G9 [I t.town.net.now,Sl a20 t.town.net.way.length c20] t.town.net (⟨a20,c20,rfl,w23,(hs13.mono hl9)⟩) (Kp (JbP d) a2 c2 a3 c3 a4 c4) (JbP d) (⟨a2,c2,a3,c3,a4,c4,rfl,w2,w5,w6,w7,(hs2.mono (Jp.le_trans hl4 hl9)),w8,w9,w10,w11,w12,(hs3.mono (Jp.le_trans hl4 hl9)),(hs4.mono (Jp.le_trans hl4 hl9))⟩) (At b8 0) 1 ([1]) hs18) (fun v G10 L1 hl10 hp=>?_)
 obtain ⟨a25,c25,rfl,w27,hs19,rfl⟩:=hp
 refine JC [(7,.tuple #[.agg #[I (((W4 d t).1).now),Sl a25 ((((W4 d t).1).way).length) c25],I ((W4 d t).2)]),(8,.tuple #[.agg #[I (((W4 d t).1).now),Sl a25 ((((W4 d t).1).way).length) c25],I ((W4 d t).2)]),(9,.agg #[I (((W4 d t).1).now),Sl a25 ((((W4 d t).1).way).length) c25]),(10,I ((W4 d t).2))] (JK [0,1,2,3,4,5] [(8,0),(9,0),(10,0)] [] [12] (List.forall_mem_nil _) (Ke ?_ K4))
 refine JD 12 [(5,Pt b7 0),(48,.agg #[I (((W4 d t).1).now),Sl a25 ((((W4 d t).1).way).length) c25])] (fun X=>?_)
 refine KL 1 ([]::[Sg b7 0 [I (((W4 d t).1).now),Sl a25 ((((W4 d t).1).way).length) c25]]::[Sg b3 0 (Kp (JbP d) a2 c2 a3 c3 a4 c4)]::[Sg b 0 (J6 t a15 c15 a16 c16 a17 c17 a18 c18 a19 c19 a20 c20 a21 c21 a22 c22)]::r7::r8::r9::r10::[Sg b1 0 (WT d a1 c1 a2 c2 a3 c3 a4 c4)]::Lr) (Kc [(13,I ((W4 d t).2))] (Km [0,1,2,3,4,5,8,9] [(10,0),(13,0)] [] [(0,Pt b 0),(5,Pt b7 0),(6,I ((W4 d t).2))] (List.forall_mem_nil _) (Ji 8 (Ji 8 (Ji 8 (Ji 8 (Ji 8 (Ji 8 (Ji 8 (Ji 7 ?_))))))))))
 exact Ji 8 (Wb (b7,a25,c25,G10) ⟨(Jp.le_trans hl9 hl10),w27,hs19⟩)
 obtain ⟨b5,a23,c23,G6⟩:=q_
 obtain ⟨hle1,hj1,hj2⟩:=hs
 dsimp only at hle1 hj1 hj2
 dsimp only
 refine Jf [0,0] [(51,Bo (decide ((W4 d t).2=0)))] (Jk (decide ((W4 d t).2=0)) (fun h5=>?_) (fun h5=>?_))
 refine Jc (JV [0,2,0,0,0,9] [] ([Sg b5 0 [I (((W4 d t).1).now),Sl a23 ((((W4 d t).1).way).length) c23]]::[]::[Sg b3 0 (Kp (JbP d) a2 c2 a3 c3 a4 c4)]::[Sg b 0 (J6 (⟨(⟨t.town.clerk,t.town.owners,t.town.polls,(W4 d t).1⟩:Wf),t.reach,t.fates,t.events⟩:JL) a15 c15 a16 c16 a17 c17 a18 c18 a19 c19 a23 c23 a21 c21 a22 c22)]::r7::r8::r9::r10::[Sg b1 0 (WT d a1 c1 a2 c2 a3 c3 a4 c4)]::Lr) (Jd (JM (Ji 7 (Ji 7 (Ji 7 (Ji 7 (Ji 7 ?_))))))))
 have hf3:YS t d=(⟨(⟨t.town.clerk,t.town.owners,t.town.polls,((W4 d t).1)⟩:Wf),t.reach,t.fates,t.events⟩:JL):=by
  exact tDo31 ‹_› ‹_› ‹_›
 refine ZC [] [] (KQ (Lr:=Lr) [[Sg b 0 (J6 (⟨(⟨t.town.clerk,t.town.owners,t.town.polls,(W4 d t).1⟩:Wf),t.reach,t.fates,t.events⟩:JL) a15 c15 a16 c16 a17 c17 a18 c18 a19 c19 a23 c23 a21 c21 a22 c22)],r7,r8,r9,r10] (Jp.le_trans hl4 hle1) ?_)
 rw [hf3];try dsimp only
 exact ⟨a15,c15,a16,c16,a17,c17,a18,c18,a19,c19,a23,c23,a21,c21,a22,c22,r7,r8,r9,r10,rfl,w19,(hs10.mono hle1),w20,w21,w22,(hs11.mono hle1),(hs12.mono hle1),(hr7.mono hle1),(hr8.mono hle1),hj1,hj2,w24,(hr9.mono hle1),(hr10.mono hle1),rfl⟩
 refine Jo (JM (Ji 7 (Ji 7 (Ji 7 (Ji 7 (Ji 7 ?_))))))
 have hf4:YS t d=t:=by
  exact tDo32 ‹_› ‹_› ‹_›
 refine ZC [] [] (KQ (Lr:=Lr) [[Sg b 0 (J6 t a15 c15 a16 c16 a17 c17 a18 c18 a19 c19 a20 c20 a21 c21 a22 c22)],r7,r8,r9,r10] (Jp.le_trans hl4 hle1) ?_)
 rw [hf4];try dsimp only
 exact ⟨a15,c15,a16,c16,a17,c17,a18,c18,a19,c19,a20,c20,a21,c21,a22,c22,r7,r8,r9,r10,rfl,w19,(hs10.mono hle1),w20,w21,w22,(hs11.mono hle1),(hs12.mono hle1),(hr7.mono hle1),(hr8.mono hle1),w23,(hs13.mono hle1),w24,(hr9.mono hle1),(hr10.mono hle1),rfl⟩
 refine Jo (JM (Ji 4 (Ji 4 (Ji 4 (Ji 4 (Ji 4 ?_))))))
 have hf5:YS t d=t:=by
  exact tDo30 ‹_› ‹_›
 refine ZC [] [] (KQ (Lr:=Lr) [[Sg b 0 (J6 t a15 c15 a16 c16 a17 c17 a18 c18 a19 c19 a20 c20 a21 c21 a22 c22)],r7,r8,r9,r10] hl4 ?_)
 rw [hf5];try dsimp only
 exact ⟨a15,c15,a16,c16,a17,c17,a18,c18,a19,c19,a20,c20,a21,c21,a22,c22,r7,r8,r9,r10,rfl,w19,hs10,w20,w21,w22,hs11,hs12,hr7,hr8,w23,hs13,w24,hr9,hr10,rfl⟩
 refine Jf [0,0] [(57,Bo (decide (d.kind=4)))] (Jk (decide (d.kind=4)) (fun h6=>?_) (fun h6=>?_))
 refine Jc (Ja [0] [(59,Pt b 0)] (Jx 5 (Jx 5 (Jx 5 (Jx 5 (Jx 5 (Qn (Ls:=[[Sg b 0 (J6 t a_1 c_1 a_5 c_5 a_6 c_6 a_7 c_7 a_8 c_8 a_10 c_10 a_12 c_12 a_13 c_13)],r_7,r_8,r_12,r_13]) (Lr:=([Sg b1 0 (WT d a1 c1 a2 c2 a3 c3 a4 c4)]::Lr)) 60 (JmJ G b t a_1 c_1 a_5 c_5 a_6 c_6 a_7 c_7 a_8 c_8 a_10 c_10 a_12 c_12 a_13 c_13 r_7 r_8 r_12 r_13 h_0 h_1 h_2 h_3 h_4 h_5 h_6 h_7 h_8 h_9 h_10 h_11 h_12 h_13 ‹_› ‹_›) (fun v G11 L1 hl11 hp=>?_))))))))
 obtain ⟨a26,c26,a27,c27,a28,c28,a29,c29,a30,c30,a31,c31,a32,c32,a33,c33,r11,r12,r13,r14,rfl,w28,hs20,w29,w30,w31,hs21,hs22,hr11,hr12,w32,hs23,w33,hr13,hr14,rfl⟩:=hp
 refine Jd (JM (Ji 4 (Ji 4 (Ji 4 (Ji 4 (Ji 4 ?_))))))
 have hf6:YS t d=(Wz t):=by
  exact tDo4 ‹_›
 refine ZC [] [] (KQ (Lr:=Lr) [[Sg b 0 (J6 (Wz t) a26 c26 a27 c27 a28 c28 a29 c29 a30 c30 a31 c31 a32 c32 a33 c33)],r11,r12,r13,r14] hl11 ?_)
 rw [hf6];try dsimp only
 exact ⟨a26,c26,a27,c27,a28,c28,a29,c29,a30,c30,a31,c31,a32,c32,a33,c33,r11,r12,r13,r14,rfl,w28,hs20,w29,w30,w31,hs21,hs22,hr11,hr12,w32,hs23,w33,hr13,hr14,rfl⟩
 refine Jo (JM (Ji 5 (Ji 5 (Ji 5 (Ji 5 (Ji 5 ?_))))))
 have hf7:YS t d=t:=by
  exact tDo5 ‹_› ‹_› ‹_› ‹_›
 refine ZC [] [] (KQ (Lr:=Lr) [[Sg b 0 (J6 t a_1 c_1 a_5 c_5 a_6 c_6 a_7 c_7 a_8 c_8 a_10 c_10 a_12 c_12 a_13 c_13)],r_7,r_8,r_12,r_13] (Jp.le_refl _) ?_)
 rw [hf7];try dsimp only
 exact ⟨a_1,c_1,a_5,c_5,a_6,c_6,a_7,c_7,a_8,c_8,a_10,c_10,a_12,c_12,a_13,c_13,r_7,r_8,r_12,r_13,rfl,h_0,h_1,h_2,h_3,h_4,h_5,h_6,h_7,h_8,h_9,h_10,h_11,h_12,h_13,rfl⟩
end Go.Proofs.YteaampgpgokjmaaGreatDoor
namespace Go.Tx
open Go.RowKit Go.Proofs Go.Shelf
section
variable {C:Cx} {Q:Exit→Act→World→Prop} {fr:List (Nat×Value)} {G:Jp} {L:List (List Kg)} {ops:Array Oper} {rest:List Oper} {o:Oper}
theorem JfR {x y:Code} (h:TC C y Q fr G L):TC C (.cond (.const (.bool false)) x y) Q fr G L :=
 fun a w ha hw=>wp_cond_false (by simp [Act.eval]) (h a w ha hw)
theorem JfS (d t e n sz:Nat) {z:Value} {lo co:Operand} {bytes:Nat} (h63:n≤9223372036854775807) (hby:n*bytes≤281474976710656)
  (hi:(C.P.info? e).map (fun i=>(i.zero,i.size,i.bytes))=some (some z,sz,bytes))
  (h:∀ b F,F.length=n*sz→Kt C ops Q rest ((d,Sl (At b 0) n n)::fr) G ([Sg b 0 F]::L))
  (hb:base C.n ops fr o d=true:=by as_aux_lemma=>kernel_rfl)
  (hop:o.op=.makeSlice t lo co:=by rfl) (ht:C.P.underlying t=some (.slice e):=by as_aux_lemma=>kernel_rfl)
  (hlo:WV fr lo=I (n:Int):=by as_aux_lemma=>kernel_rfl) (hco:WV fr co=I (n:Int):=by as_aux_lemma=>kernel_rfl):Kt C ops Q (o::rest) fr G L:=by
 refine QG d hb (fun w hw=>?_)
 obtain ⟨inf,hinf,hz,hsz,hbs⟩:=info_parts hi
 have hbn:(inf.bytes:Int)*(n:Int)≤281474976710656:=by
  have h2:(inf.bytes:Int)*n=((n*bytes:Nat):Int):=by rw [Int.natCast_mul,Int.mul_comm,hbs]
  omega
 have hm:=run_make (P:=C.P) w t e inf z ht hinf hz .i64 .i64 n n (by omega) (Int.le_refl _) hbn (by omega)
 simp only [Int.toNat_natCast,hsz] at hm
 refine ⟨_,_,G,_,?_,hw.alloc (madeCells z.cells (n*sz)) e,h w.heap.size _ (by simp [size_madeCells])⟩
 unfold execOp
 simp only [hop,hlo,hco,Sem.run_bind,hm,Result.andThen_ok,Sem.run_pure]
end
theorem Je0 (k:Nat) (cs:List Value):(List.replicate k cs).flatten.length=k*cs.length:=by simp
theorem JoB {k m:Nat} {cs:List Value} (h:m≤k):(List.replicate k cs).flatten.take (m*cs.length)=(List.replicate m cs).flatten:=by
 obtain ⟨j,rfl⟩:=Nat.exists_eq_add_of_le h
 rw [← List.replicate_append_replicate,List.flatten_append,List.take_append_of_le_length (by rw [Je0];exact Nat.le_refl _),List.take_of_length_le (by rw [Je0];exact Nat.le_refl _)]
theorem ZY (a b:Nat):Nat.min a b≤a∧Nat.min a b≤b∧(1≤a→1≤b→1≤Nat.min a b):=by
 show min a b≤a∧min a b≤b∧(1≤a→1≤b→1≤min a b)
 omega
structure JcN (cs:List Value) (n k:Nat) (F:List Value):Prop where
 le:k≤n
 pos:n=0∨1≤k
 len:F.length=n*cs.length
 eq:F.take (k*cs.length)=(List.replicate k cs).flatten
theorem JcN.x {cs F:List Value} {n k m:Nat} (h:JcN cs n k F) (hm:m≤k):F.take (m*cs.length)=(List.replicate m cs).flatten:=by
 rw [← JoB hm,← h.eq,List.take_take,Nat.min_eq_left (Nat.mul_le_mul_right _ hm)]
theorem JcN.xlen {cs F:List Value} {n k m:Nat} (h:JcN cs n k F) (hm:m≤k):(F.take (m*cs.length)).length=m*cs.length:=by rw [h.x hm,Je0]
theorem JcN.one {cs F:List Value} {n k m:Nat} (h:JcN cs n k F) (hm:m≤k) (h1:∀ u∈cs,u.oneCell'=true):∀ u∈F.take (m*cs.length),u.oneCell'=true:=by
 rw [h.x hm]
 intro u hu
 obtain ⟨l,hl,hu⟩:=List.mem_flatten.1 hu
 rw [(List.mem_replicate.1 hl).2] at hu
 exact h1 u hu
theorem JeA {F X:List Value} {p:Nat} (hp:p≤F.length):(QO F p X).take (p+X.length)=F.take p++X:=by
 unfold QO
 rw [← List.append_assoc,List.take_append_of_le_length (by simp;omega),List.take_of_length_le (by simp;omega)]
theorem JcN.next {cs F:List Value} {n k m:Nat} (h:JcN cs n k F) (hm:m≤k) (hmn:k+m≤n):JcN cs n (k+m) (QO F (k*cs.length) (F.take (m*cs.length))):=by
 have hkl:k*cs.length+m*cs.length≤n*cs.length:=by rw [← Nat.add_mul];exact Nat.mul_le_mul_right _ hmn
 have hx:=h.xlen hm
 refine ⟨hmn,?_,?_,?_⟩
 ·
  rcases h.pos with q | q
  · exact .inl q
  · exact .inr (by omega)
 · rw [ZP (by rw [hx,h.len];exact hkl)];exact h.len
 ·
  have:=JeA (F:=F) (X:=F.take (m*cs.length)) (p:=k*cs.length) (by rw [h.len];omega)
  rw [hx,← Nat.add_mul] at this
  rw [this,h.eq,h.x hm,← List.flatten_append,List.replicate_append_replicate]
def JfT (cs:List Value) (n:Nat):List Value:=(List.replicate (Nat.min 1 n) cs).flatten
theorem JbQ (cs:List Value) (n:Nat):(JfT cs n).length=Nat.min 1 n*cs.length:=Je0 _ _
theorem Jjf {cs:List Value} {n:Nat} {u:Value} (h:u∈JfT cs n):u∈cs:=by
 obtain ⟨l,hl,hu⟩:=List.mem_flatten.1 h
 rw [(List.mem_replicate.1 hl).2] at hu;exact hu
theorem JoC {cs:List Value} {n j:Nat} {v:Value} (h:(JfT cs n)[j]? = some v):cs[j]? = some v:=by
 unfold JfT at h
 have h2:=(Nat.min_def (m:=n) (n:=1))
 by_cases e:1≤n
 ·
  rw [show Nat.min 1 n=1 from Nat.min_eq_left e] at h
  simpa using h
 ·
  rw [show Nat.min 1 n=0 from by show min 1 n=0;omega] at h
  simp at h
theorem JcN.start {cs F:List Value} {n:Nat} (hF:F.length=n*cs.length):JcN cs n (Nat.min 1 n) (QO F 0 (JfT cs n)):=by
 have hl:=JbQ cs n
 have hle:Nat.min 1 n≤n:=Nat.min_le_right 1 n
 have hk:Nat.min 1 n*cs.length≤n*cs.length:=Nat.mul_le_mul_right _ hle
 refine ⟨hle,?_,?_,?_⟩
 ·
  by_cases e:n=0
  · exact .inl e
  · exact .inr (by show 1≤min 1 n;omega)
 · rw [ZP (by rw [hl,hF];omega)];exact hF
 ·
  have:=JeA (F:=F) (X:=JfT cs n) (p:=0) (Nat.zero_le _)
  rw [hl] at this
  simp only [Nat.zero_add,List.take_zero,List.nil_append] at this
  rw [this];rfl
theorem JcN.row {α:Type} {E:YJ α} {G:Jp} {cs F:List Value} {n k b:Nat} {x:α} (h:JcN cs n k F) (hk:n≤k) (hR:E.R G cs x) (h63:n≤9223372036854775807):J0 E G (At b 0) n (List.replicate n x) [Sg b 0 F]:=by
 have hkn:k=n:=Nat.le_antisymm h.le hk
 subst hkn
 have hF:F=(List.replicate k cs).flatten:=by rw [← h.eq,List.take_of_length_le (by rw [h.len];exact Nat.le_refl _)]
 have hsz:=E.len hR
 refine ⟨⟨List.replicate k cs,by simp,fun i y hy=>?_,?_⟩⟩
 ·
  have hi:=(List.getElem?_eq_some_iff.1 hy).1
  simp only [List.length_replicate] at hi
  rw [List.getElem?_replicate,if_pos hi] at hy
  cases hy
  exact ⟨cs,by rw [List.getElem?_replicate,if_pos hi],hR⟩
 ·
  rw [List.length_replicate,← hF]
  exact Row.lit (by rw [h.len,hsz]) h63
theorem Jlw {G:Jp} {L:List (List Kg)} {b o n:Nat} {cs:List Value} (h:∀ j v,cs[j]? = some v→G b (o+j)=some v):Jni G L b o (JfT cs n):=.inl fun j v hv=>h j v (JoC hv)
theorem Jlx {G:Jp} {L:List (List Kg)} {b:Nat} {F:List Value} {m:Nat} (k:Nat) (hL:L[k]? = some [Sg b 0 F]):Jni G L b 0 (F.take m):=.inr ⟨k,0,F,0,hL,rfl,fun j v hv=>by
 rw [Nat.zero_add]
 have hj:=(List.getElem?_eq_some_iff.1 hv).1
 simp only [List.length_take] at hj
 rw [List.getElem?_take] at hv
 split at hv
 · exact hv
 · cases hv⟩
end Go.Tx
namespace Go.Proofs.YteaampgpgokjmaaGreatDoor
open Go.Tx
open Go.Proofs
theorem Jjg (y:Int) (hy:0≤y∧y<9223372036854775808) (G:Jp):Vi Tryz.prog 33 #[U 1,U y] G [] (fun u G' L'=>u=.tuple #[U 0,U y]):=by
 refine JN Tryz.func33 30 [(0,U 1),(1,U y)] rfl (fun w0 G0=>?_)
 exact Jf [0,0] [] (Je (JfR (Jo (Jb (Je (Jc (Ja [0,0] [(23,U 1),(24,U y)] (Jj 25 (.tuple #[U (1*y / 18446744073709551616),U (1*y % 18446744073709551616)]) (JgL 1 y J7 J7 G) (Ja [0,0,0,0,0] [(8,U (1*y / 18446744073709551616)),(9,U (1*y % 18446744073709551616))] (Jd (Jb (Jf [0,0,0,0] [(4,U (1*y / 18446744073709551616)),(5,U (1*y % 18446744073709551616))] (Jl (Jm [0,0] [U (1*y / 18446744073709551616),U (1*y % 18446744073709551616)] (Jw (Jp.le_refl _) (congr (congrArg (fun a b=>Value.tuple #[U a,U b]) J7) J7))))))))))))))))
theorem Jjh (G:Jp) (a_l:Option Addr) (c_l:Nat) (p:Wa) (h_l:RS Wy G a_l c_l [p]) (n:Nat) (hn:n≤1000):Vi Tryz.prog 59 #[Sl a_l 1 c_l,I (n:Int)] G [] (fun u G' L'=>∃ a' c' r,u=Sl a' (List.replicate n p).length c'∧J0 Wy G' a' c' (List.replicate n p) r∧L'=[r]):=by
 obtain ⟨bx,ox,rfl⟩:=RS.addr h_l (k:=0) (by simp)
 obtain ⟨csx,h_p,hcx⟩:=RS.get h_l (k:=0) (x:=p) rfl
 have h1x:=Wy.one h_p
 obtain ⟨rfl,_,_,_,_,_,_⟩:=id h_p
 rw [Nat.zero_mul,Nat.add_zero] at hcx
 refine JN Tryz.func59 48 [(0,Sl (At bx ox) 1 c_l),(1,I (n:Int))] rfl (fun w0 G0=>?_)
 refine Jf [0] [] (Je (Jf [0,0] [(10,Bo (decide ((n:Int)<0)))] (Jk (decide ((n:Int)<0)) (fun h1=>?_) (fun h1=>?_))))
 exfalso;omega
 refine Jo (Jb (Je (Jc (Ja [0,0,0,0,0] [(15,U (IntKind.u64.wrap (1:Int))),(17,U (IntKind.u64.wrap (n:Int)))] (JaN 17 (n:Int) J7 (Jj 18 (.tuple #[U 0,U (n:Int)]) (Jjg (n:Int) J7 G) (Ja [0,0,0,0,0] [(5,U 0),(6,U (n:Int))] (Jd (Jb (Je (Jf [0,0,0,0,0,0] [(26,Bo (decide ((n:Int) > 9223372036854775807)))] (Jk (decide ((n:Int) > 9223372036854775807)) (fun h2=>?_) (fun h2=>?_)))))))))))))
 exfalso;omega
 refine Jo (Jb (Je (Jc (Ja [0,0] [(29,I (IntKind.i64.wrap (n:Int)))] (Kw 29 (n:Int) J7 (JfS (z:=(.agg #[I 0,I 0,I 0,I 0,I 0,I 0])) (bytes:=48) 30 62 143 n 6 J7 J7 (by kernel_rfl) (fun bz Fz hFz=>Ja [0] [(7,Sl (At bz 0) n n)] (Jd (Jb (Je (Jc (Ja [0,0] [(31,Sl (At bz 0) n n),(32,Sl (At bx ox) 1 c_l)] (VF (b:=bz) (off:=0) (p:=0) (nd:=n) (cd:=n) (bs:=bx) (os:=ox) (ns:=1) (cs:=c_l) (F:=Fz) 33 0 6 (JfT [I p.least,I p.most,I p.lost,I p.gap,I p.next,I p.asked] n) (JbQ _ _) (by rw [JbQ,hFz,Nat.zero_add];exact Nat.mul_le_mul_right _ (Nat.min_le_right 1 n)) (fun u hu=>h1x u (Jjf hu)) (Jlw hcx) (Ja [0] [(8,I ((Nat.min 1 n:Nat):Int))] (Jd (Jb (Je (Jz ?_))))))))))))))))))
 refine Qh (σ:=Nat×List Value) (fun q_=>(JcN [I p.least,I p.most,I p.lost,I p.gap,I p.next,I p.asked] n q_.1 q_.2)) (fun q_=>[(7,Sl (At bz 0) n n),(8,I (q_.1:Int))]) (fun q_=>G) (fun q_=>[[Sg bz 0 q_.2]]) (fun q_=>n-q_.1) ((Nat.min 1 n),(QO Fz 0 (JfT [I p.least,I p.most,I p.lost,I p.gap,I p.next,I p.asked] n))) (.start hFz) (fun q_ hs=>?_)
 obtain ⟨k,F⟩:=q_
 have hI:=hs
 dsimp only at hI
 dsimp only
 refine Je (Jf [0,0,0,0] [(37,Bo (decide ((k:Int)<(n:Int))))] (Jk (decide ((k:Int)<(n:Int))) (fun h3=>?_) (fun h3=>?_)))
 refine Jo (Jb (Jz (Ko [7] (Wm [(0,I (k:Int)),(1,Sl (At bz 0) n n),(2,I (k:Int)),(3,Sl (At bz (0+k*6)) (n-k) (n-k)),(4,Sl (At bz 0) n n),(5,I (k:Int)),(6,Sl (At bz 0) k n)] (JK [] [(0,0),(1,0),(2,0),(4,0),(5,0)] [3,6] [7] (Ke ?_ (Ke ?_ K4)) (Ke ?_ K4))))))
 refine Jr 3 41 (Sl (At bz (0+k*6)) (n-k) (n-k)) [(39,Sl (At bz 0) n n),(40,I (k:Int))] (fun X=>?_)
 exact Vj (b:=bz) (off:=0) (len:=n) (cap:=n) 41 6 (some (I (k:Int))) none k n (.inr ⟨_,rfl⟩) (.inl ⟨rfl,rfl⟩) J7 J7 J7 Jn
 refine Jr 6 44 (Sl (At bz 0) k n) [(42,Sl (At bz 0) n n),(43,I (k:Int))] (fun X=>?_)
 exact JbW (b:=bz) (off:=0) (len:=n) (cap:=n) 44 6 (some (I (k:Int))) k (.inr ⟨_,rfl⟩) J7 Jn
 refine JD 7 [(41,Sl (At bz (0+k*6)) (n-k) (n-k)),(44,Sl (At bz 0) k n)] (fun X=>?_)
 refine VF (b:=bz) (off:=0) (p:=k*6) (nd:=n-k) (cd:=n-k) (bs:=bz) (os:=0) (ns:=k) (cs:=n) (F:=F) 45 0 6 (F.take (Nat.min k (n-k)*6)) (hI.xlen (ZY _ _).1) (by have q_:(F.take (Nat.min k (n-k)*6)).length=Nat.min k (n-k)*6:=hI.xlen (ZY _ _).1;have q1_:F.length=n*6:=hI.len;have q2_:=ZY k (n-k);omega) (hI.one (ZY _ _).1 h1x) (Jlx 0 rfl) ?_
 have e1:IntKind.i64.wrap ((k:Int)+((Nat.min k (n-k):Nat):Int))=((k+Nat.min k (n-k):Nat):Int):=(IntWalk.i64_in _ (by (have q_:=ZY k (n-k);have q2_:=hI.le;omega))).trans (show (k:Int)+((Nat.min k (n-k):Nat):Int)=((k+Nat.min k (n-k):Nat):Int) from (Int.natCast_add _ _).symm)
 refine JC [(7,I ((Nat.min k (n-k):Nat):Int)),(8,I ((k+Nat.min k (n-k):Nat):Int)),(9,I ((k+Nat.min k (n-k):Nat):Int))] (Km [1,2,3,4,5,6] [(0,0),(9,0)] [8] [(7,Sl (At bz 0) n n),(8,I ((k+Nat.min k (n-k):Nat):Int))] (Ke ?_ K4) ?_)
 refine Jr 8 46 (I ((k+Nat.min k (n-k):Nat):Int)) [(38,I (k:Int)),(45,I ((Nat.min k (n-k):Nat):Int))] (fun X=>?_)
 exact K5 46 (I (IntKind.i64.wrap ((k:Int)+((Nat.min k (n-k):Nat):Int)))) (I ((k+Nat.min k (n-k):Nat):Int)) (by simp only [e1]) Jn
 exact JM (Qr (k+Nat.min k (n-k),(QO F (k*6) (F.take (Nat.min k (n-k)*6)))) (hI.next (ZY _ _).1 (by (try dsimp only);have q_:=ZY k (n-k);have q2_:=hI.le;omega)) (by (try dsimp only);have q_:=hI.pos;have q2_:=ZY k (n-k);omega))
 refine KW (JZ (J8 (JR (Jb (Jf [0,0] [(4,Sl (At bz 0) n n)] (Jl ?_))))))
 have hrw:=hI.row (E:=Wy) (G:=G) (x:=p) (b:=bz) (by omega) h_p (by omega)
 refine Jcx 4 (Sl (At bz 0) ((List.replicate n p).length) n) (show (Sl (At bz 0) n n:Value)=Sl (At bz 0) ((List.replicate n p).length) n by simp only [List.length_replicate]) (Ji 0 ?_)
 have hf1:List.replicate n p=(List.replicate n p):=by
  rfl
 refine Jm [0] [Sl (At bz 0) ((List.replicate n p).length) n] (Jy [[Sg bz 0 F]] (Jp.le_refl _) ?_)
 rw [hf1]
 try dsimp only
 exact ⟨(At bz 0),n,([Sg bz 0 F]),rfl,hrw,rfl⟩
def Jly (s:KC):JQ:=WO (J4 s.most s.batch s.every).1.heads
def JbR (s:KC) (i:Nat):JL:=⟨⟨(J4 s.most s.batch s.every).1,(ZN s (Jly s)).take i,[],⟨0,[]⟩⟩,s.reach,[],[]⟩
theorem Jgr {s:KC} {h:JQ} {i:Nat} {n:List UInt8} {k:Int} (hn:s.names[i]? = some n) (hk:s.keys[i]? = some k):(ZN s h).take i++[(Kf n k h).1]=(ZN s h).take (i+1):=by
 have:(ZN s h)[i]? = some (Kf n k h).1:=by
  have hz:(s.names.zip s.keys)[i]? = some (n,k):=List.getElem?_zip_eq_some.2 ⟨hn,hk⟩
  unfold ZN
  rw [List.getElem?_map,hz];rfl
 rw [List.take_add_one,this];rfl
theorem Jji {s:KC} {bt:JL} {i:Nat} {n:List UInt8} {k:Int} {x:JQ} (hB:bt=JbR s i) (hn:s.names[i]? = some n) (hk:s.keys[i]? = some k) (hx:(J4 s.most s.batch s.every).1.heads[0]? = some x) :
  (⟨⟨bt.town.clerk,bt.town.owners++[(Kf n k x).1],bt.town.polls,bt.town.net⟩,bt.reach,bt.fates,bt.events⟩:JL)=JbR s (i+1):=by
 subst hB
 have e:=WP hx
 subst e
 unfold JbR
 simp only
 congr 2
 exact Jgr hn hk
theorem JoD {s:KC} {i:Nat} {n:List UInt8} (hN:nmE (s.names.take i) (s.names.drop i)=nmE [] s.names) (hn:s.names[i]? = some n) (h1:KN n=true) (h2:((s.names.take i).any fun x=>decide (n=x))=false):nmE (s.names.take (i+1)) (s.names.drop (i+1))=nmE [] s.names:=by
 have hl:=(List.getElem?_eq_some_iff.1 hn)
 rw [← hN,List.drop_eq_getElem_cons hl.1,hl.2]
 show _=if _ then _ else _
 rw [if_neg (by rw [h1,h2];simp),List.take_add_one,hn];rfl
theorem Jlz {s:KC} {i:Nat} {n:List UInt8} (hN:nmE (s.names.take i) (s.names.drop i)=nmE [] s.names) (hn:s.names[i]? = some n) (h:KN n=false∨((s.names.take i).any fun x=>decide (n=x))=true):nmE [] s.names=3:=by
 have hl:=(List.getElem?_eq_some_iff.1 hn)
 rw [← hN,List.drop_eq_getElem_cons hl.1,hl.2]
 show (if _ then _ else _)=_
 rw [if_pos h]
theorem JhR {s:KC} (h:¬ (J4 s.most s.batch s.every).2=0):QM s=(J4 s.most s.batch s.every).2∧¬ (J4 s.most s.batch s.every).2=0:=⟨by unfold QM;rw [if_pos h],h⟩
theorem Jjj {s:KC} (h:(J4 s.most s.batch s.every).2=0) (h1:s.names.length > 4):QM s=2∧¬ (2:Int)=0:=⟨by unfold QM;rw [if_neg (by omega),if_pos h1],by decide⟩
theorem Jjk {s:KC} (h:(J4 s.most s.batch s.every).2=0) (h1:¬ s.names.length > 4) (h2:¬ s.keys.length=s.names.length):QM s=3∧¬ (3:Int)=0:=⟨by unfold QM;rw [if_neg (by omega),if_neg h1,if_pos h2],by decide⟩
theorem JeB {s:KC} (h:(J4 s.most s.batch s.every).2=0) (h1:¬ s.names.length > 4) (h2:s.keys.length=s.names.length) (h3:nmE [] s.names=3):QM s=3∧¬ (3:Int)=0:=⟨by unfold QM;rw [if_neg (by omega),if_neg h1,if_neg (by omega),if_pos (by omega),h3],by decide⟩
theorem JfU {s:KC} {i:Nat} (hN:nmE (s.names.take i) (s.names.drop i)=nmE [] s.names) (hi:s.names.length≤i):nmE [] s.names=0:=by rw [← hN,List.drop_of_length_le hi];unfold nmE;rfl
theorem Jjl {s:KC} (h:(J4 s.most s.batch s.every).2=0) (h1:¬ s.names.length > 4) (h2:s.keys.length=s.names.length) (h3:nmE [] s.names=0) (h4:¬ (KM s.least s.top s.lost).2=0):QM s=(KM s.least s.top s.lost).2∧¬ (KM s.least s.top s.lost).2=0:=⟨by unfold QM;rw [if_neg (by omega),if_neg h1,if_neg (by omega),if_neg (by omega),if_pos h4],h4⟩
theorem JhS {s:KC} (h:(J4 s.most s.batch s.every).2=0) (h1:¬ s.names.length > 4) (h2:s.keys.length=s.names.length) (h3:nmE [] s.names=0) (h4:(KM s.least s.top s.lost).2=0) (h5:s.reach<1∨s.reach > 40):QM s=4∧¬ (4:Int)=0:=⟨by unfold QM;rw [if_neg (by omega),if_neg h1,if_neg (by omega),if_neg (by omega),if_neg (by omega),if_pos h5],by decide⟩
theorem JmK {s:KC} (h:(J4 s.most s.batch s.every).2=0) (h1:¬ s.names.length > 4) (h2:s.keys.length=s.names.length) (h3:nmE [] s.names=0) (h4:(KM s.least s.top s.lost).2=0) (h5:¬ (s.reach<1∨s.reach > 40)):QM s=0:=by unfold QM;rw [if_neg (by omega),if_neg h1,if_neg (by omega),if_neg (by omega),if_neg (by omega),if_neg h5]
theorem JmL {s:KC} {bt:JL} {i:Nat} (hB:bt=JbR s i) (hi:s.names.length≤i):QH s=(⟨⟨bt.town.clerk,bt.town.owners,List.replicate bt.town.owners.length (KM s.least s.top s.lost).1,bt.town.net⟩,bt.reach,bt.fates,bt.events⟩:JL):=by
 subst hB
 have hl:(ZN s (Jly s)).length≤i:=by unfold ZN;rw [List.length_map,List.length_zip];omega
 unfold JbR QH Jly
 unfold Jly at hl
 simp only
 rw [List.take_of_length_le hl]
theorem JhT {s:KC} (h:(J4 s.most s.batch s.every).2=0):(J4 s.most s.batch s.every).1.heads.length=1:=(JbM h).2.2.2.2
theorem JcO {s:KC} {bt:JL} {i:Nat} (hB:bt=JbR s i):bt.town.owners.length≤s.names.length:=by
 subst hB
 unfold JbR ZN
 simp only [List.length_take,List.length_map,List.length_zip];omega
theorem JgX (a b c:Int):JgW (KM a b c).1:=by
 by_cases h:(KM a b c).2=0
 ·
  obtain ⟨q1,q2⟩:=JfN h
  rw [q2];exact .ok q1
 · rw [Ji4 h];exact JhP
set_option maxRecDepth 20000 in
set_option maxHeartbeats 1600000 in
theorem JmM (G:Jp) (vs_s:List Value) (s:KC) (h_s:JjT.R G vs_s s):Vi Tryz.prog 34 #[.agg vs_s.toArray] G [] (fun u G' L'=>(¬ QM s=0∧u=.tuple #[.pointer none,I (QM s)]∧L'=[])∨(QM s=0∧∃ (b:Nat) (a_1:Option Addr) (c_1:Nat) (a_5:Option Addr) (c_5:Nat) (a_6:Option Addr) (c_6:Nat) (a_7:Option Addr) (c_7:Nat) (a_8:Option Addr) (c_8:Nat) (a_10:Option Addr) (c_10:Nat) (a_12:Option Addr) (c_12:Nat) (a_13:Option Addr) (c_13:Nat) (r_7:List Kg) (r_8:List Kg) (r_12:List Kg) (r_13:List Kg),u=.tuple #[Pt b 0,I 0]∧(rI ((QH s).town.clerk.queue.most))∧(RS Q3 G' a_1 c_1 ((QH s).town.clerk.queue.wait))∧(rI ((QH s).town.clerk.batch))∧(rI ((QH s).town.clerk.every))∧(rI ((QH s).town.clerk.now))∧(RS KA G' a_5 c_5 ((QH s).town.clerk.heads))∧(RS Qs G' a_6 c_6 ((QH s).town.clerk.books))∧(J0 Q1 G' a_7 c_7 ((QH s).town.owners) r_7)∧(J0 Wy G' a_8 c_8 ((QH s).town.polls) r_8)∧(rI ((QH s).town.net.now))∧(RS Kh G' a_10 c_10 ((QH s).town.net.way))∧(rI ((QH s).reach))∧(J0 Vk G' a_12 c_12 ((QH s).fates) r_12)∧(J0 Wn G' a_13 c_13 ((QH s).events) r_13)∧L'=[[Sg b 0 [I ((QH s).town.clerk.queue.most),Sl a_1 (((QH s).town.clerk.queue.wait).length) c_1,I ((QH s).town.clerk.batch),I ((QH s).town.clerk.every),I ((QH s).town.clerk.now),Sl a_5 (((QH s).town.clerk.heads).length) c_5,Sl a_6 (((QH s).town.clerk.books).length) c_6,Sl a_7 (((QH s).town.owners).length) c_7,Sl a_8 (((QH s).town.polls).length) c_8,I ((QH s).town.net.now),Sl a_10 (((QH s).town.net.way).length) c_10,I ((QH s).reach),Sl a_12 (((QH s).fates).length) c_12,Sl a_13 (((QH s).events).length) c_13]],r_7,r_8,r_12,r_13])):=by
 obtain ⟨a1,c1,a2,c2,rfl,hs1,hs2,w1,w2,w3,w4,w5,w6,w7⟩:=h_s
 refine JN Tryz.func34 130 [(0,(Jag s a1 c1 a2 c2))] rfl (fun w0 G0=>?_)
 refine Je (Jc (Jv 1 #[Sl a1 s.names.length c1,Sl a2 s.keys.length c2,I s.most,I s.batch,I s.every,I s.least,I s.top,I s.lost,I s.reach] 72 (fun b1=>Ja [0,0] [] (Jd (Jb (Je (Jc (Ja [0,2,0,2,0,2] [(14,I s.most),(16,I s.batch),(18,I s.every)] (JF 19 (JhJ G s.most w1 s.batch w2 s.every w3) (fun v G1 L1 hl1 hp=>?_))))))))))
 obtain ⟨a3,c3,a4,c4,a5,c5,rfl,w8,hs3,w9,w10,w11,hs4,hs5,rfl⟩:=hp
 refine Ja [0,0,0] [(20,(Qz (J4 s.most s.batch s.every).1 a3 c3 a4 c4 a5 c5)),(21,I ((J4 s.most s.batch s.every).2))] (Jv 4 #[I 0,Sl none 0 0,I 0,I 0,I 0,Sl none 0 0,Sl none 0 0] 60 (fun b2=>JV [3,0] [(5,I ((J4 s.most s.batch s.every).2))] [[Sg b2 0 (KU (J4 s.most s.batch s.every).1 a3 c3 a4 c4 a5 c5)],[Sg b1 0 (W6 s a1 c1 a2 c2)]] (Jd (Jb (Je (Jf [0,0] [(23,Bo (!decide ((J4 s.most s.batch s.every).2=0)))] (Jk (!decide ((J4 s.most s.batch s.every).2=0)) (fun h1=>?_) (fun h1=>?_))))))))
 refine Jf [0,0,0] [(2,.pointer none),(3,I ((J4 s.most s.batch s.every).2))] (Jl (Jh ?_))
 have hf1:QM s=(J4 s.most s.batch s.every).2∧¬ ((J4 s.most s.batch s.every).2)=0:=by
  exact JhR ‹_›
 refine Jm [0,0] [.pointer none,I ((J4 s.most s.batch s.every).2)] (Jy [] hl1 ?_)
 rw [← hf1.1];exact .inl ⟨by rw [hf1.1];exact hf1.2,rfl,rfl⟩
 refine Jo (Jb (Je (Jz (Jf [0,4,0,0,0] [(25,Bo (decide ((s.names.length:Int) > 4)))] (Jk (decide ((s.names.length:Int) > 4)) (fun h2=>?_) (fun h2=>?_))))))
 refine Jf [0,0] [(2,.pointer none),(3,I 2)] (Jl (Jt (Jh ?_)))
 have hf2:QM s=2∧¬ (2:Int)=0:=by
  exact Jjj ‹_› (by omega)
 refine Jm [0,0] [.pointer none,I 2] (Jy [] hl1 ?_)
 rw [← hf2.1];exact .inl ⟨by rw [hf2.1];exact hf2.2,rfl,rfl⟩
 refine Jf [0,4,0,0,4,0,0,0] [(30,Bo (!decide ((s.keys.length:Int)=(s.names.length:Int))))] (Jk (!decide ((s.keys.length:Int)=(s.names.length:Int))) (fun h3=>?_) (fun h3=>?_))
 refine Jf [0,0] [(2,.pointer none),(3,I 3)] (Jl (Jt (Jh ?_)))
 have hf3:QM s=3∧¬ (3:Int)=0:=by
  exact Jjk ‹_› J7 (by omega)
 refine Jm [0,0] [.pointer none,I 3] (Jy [] hl1 ?_)
 rw [← hf3.1];exact .inl ⟨by rw [hf3.1];exact hf3.2,rfl,rfl⟩
 refine Jo (JM (Jb (Je (Jc (Ja [0,4,0] [(40,.agg #[I 0,Sl none 0 0,I 0,I 0,I 0,Sl none 0 0,Sl none 0 0,Sl none 0 0,Sl none 0 0,I 0,Sl none 0 0,I s.reach,Sl none 0 0,Sl none 0 0])] (Jv 41 #[I 0,Sl none 0 0,I 0,I 0,I 0,Sl none 0 0,Sl none 0 0,Sl none 0 0,Sl none 0 0,I 0,Sl none 0 0,I s.reach,Sl none 0 0,Sl none 0 0] 107 (fun b3=>Ja [0] [(6,Pt b3 0)] (Jd (Jb (Qx [0,4,0,0,0,3] [] [[Sg b3 0 [I (((J4 s.most s.batch s.every).1).queue.most),Sl a3 ((((J4 s.most s.batch s.every).1).queue.wait).length) c3,I (((J4 s.most s.batch s.every).1).batch),I (((J4 s.most s.batch s.every).1).every),I (((J4 s.most s.batch s.every).1).now),Sl a4 ((((J4 s.most s.batch s.every).1).heads).length) c4,Sl a5 ((((J4 s.most s.batch s.every).1).books).length) c5,Sl none 0 0,Sl none 0 0,I 0,Sl none 0 0,I s.reach,Sl none 0 0,Sl none 0 0]],[Sg b2 0 (KU (J4 s.most s.batch s.every).1 a3 c3 a4 c4 a5 c5)],[Sg b1 0 (W6 s a1 c1 a2 c2)]] (Je (Jf [0,6,0,0] [(48,Sl a1 s.names.length c1),(49,I (s.names.length:Int)),(50,I 0)] (Jz (Yh (Yh (Yh (Yh ?_)))))))))))))))))
 have hlm_hs1:s.names.length≤9223372036854775807:=Nat.le_trans (hs1).le (hs1).max
 refine Qh (σ:=Nat×JL×Option Addr×Nat×Option Addr×Nat×Option Addr×Nat×Option Addr×Nat×List Kg×Option Addr×Nat×List Kg×Option Addr×Nat×Option Addr×Nat×List Kg×Option Addr×Nat×List Kg×Jp) (fun q_=>(Jp.le G1 q_.2.2.2.2.2.2.2.2.2.2.2.2.2.2.2.2.2.2.2.2.2.2)∧(q_.1≤s.names.length)∧(RS Q3 q_.2.2.2.2.2.2.2.2.2.2.2.2.2.2.2.2.2.2.2.2.2.2 q_.2.2.1 q_.2.2.2.1 q_.2.1.town.clerk.queue.wait)∧(RS KA q_.2.2.2.2.2.2.2.2.2.2.2.2.2.2.2.2.2.2.2.2.2.2 q_.2.2.2.2.1 q_.2.2.2.2.2.1 q_.2.1.town.clerk.heads)∧(RS Qs q_.2.2.2.2.2.2.2.2.2.2.2.2.2.2.2.2.2.2.2.2.2.2 q_.2.2.2.2.2.2.1 q_.2.2.2.2.2.2.2.1 q_.2.1.town.clerk.books)∧(J0 Q1 q_.2.2.2.2.2.2.2.2.2.2.2.2.2.2.2.2.2.2.2.2.2.2 q_.2.2.2.2.2.2.2.2.1 q_.2.2.2.2.2.2.2.2.2.1 q_.2.1.town.owners q_.2.2.2.2.2.2.2.2.2.2.1)∧(J0 Wy q_.2.2.2.2.2.2.2.2.2.2.2.2.2.2.2.2.2.2.2.2.2.2 q_.2.2.2.2.2.2.2.2.2.2.2.1 q_.2.2.2.2.2.2.2.2.2.2.2.2.1 q_.2.1.town.polls q_.2.2.2.2.2.2.2.2.2.2.2.2.2.1)∧(RS Kh q_.2.2.2.2.2.2.2.2.2.2.2.2.2.2.2.2.2.2.2.2.2.2 q_.2.2.2.2.2.2.2.2.2.2.2.2.2.2.1 q_.2.2.2.2.2.2.2.2.2.2.2.2.2.2.2.1 q_.2.1.town.net.way)∧(J0 Vk q_.2.2.2.2.2.2.2.2.2.2.2.2.2.2.2.2.2.2.2.2.2.2 q_.2.2.2.2.2.2.2.2.2.2.2.2.2.2.2.2.1 q_.2.2.2.2.2.2.2.2.2.2.2.2.2.2.2.2.2.1 q_.2.1.fates q_.2.2.2.2.2.2.2.2.2.2.2.2.2.2.2.2.2.2.1)∧(J0 Wn q_.2.2.2.2.2.2.2.2.2.2.2.2.2.2.2.2.2.2.2.2.2.2 q_.2.2.2.2.2.2.2.2.2.2.2.2.2.2.2.2.2.2.2.1 q_.2.2.2.2.2.2.2.2.2.2.2.2.2.2.2.2.2.2.2.2.1 q_.2.1.events q_.2.2.2.2.2.2.2.2.2.2.2.2.2.2.2.2.2.2.2.2.2.1)∧(rI q_.2.1.town.clerk.queue.most)∧(rI q_.2.1.town.clerk.batch)∧(rI q_.2.1.town.clerk.every)∧(rI q_.2.1.town.clerk.now)∧(rI q_.2.1.town.net.now)∧(rI q_.2.1.reach)∧(q_.2.1=JbR s q_.1)∧(nmE (s.names.take q_.1) (s.names.drop q_.1)=nmE [] s.names)) (fun q_=>[(1,Pt b1 0),(4,Pt b2 0),(6,Pt b3 0),(48,Sl a1 s.names.length c1),(49,I (s.names.length:Int)),(50,I (q_.1:Int))]) (fun q_=>q_.2.2.2.2.2.2.2.2.2.2.2.2.2.2.2.2.2.2.2.2.2.2) (fun q_=>[q_.2.2.2.2.2.2.2.2.2.2.2.2.2.2.2.2.2.2.2.2.2.1,q_.2.2.2.2.2.2.2.2.2.2.2.2.2.2.2.2.2.2.1,q_.2.2.2.2.2.2.2.2.2.2.2.2.2.1,q_.2.2.2.2.2.2.2.2.2.2.1,[Sg b3 0 (J6 q_.2.1 q_.2.2.1 q_.2.2.2.1 q_.2.2.2.2.1 q_.2.2.2.2.2.1 q_.2.2.2.2.2.2.1 q_.2.2.2.2.2.2.2.1 q_.2.2.2.2.2.2.2.2.1 q_.2.2.2.2.2.2.2.2.2.1 q_.2.2.2.2.2.2.2.2.2.2.2.1 q_.2.2.2.2.2.2.2.2.2.2.2.2.1 q_.2.2.2.2.2.2.2.2.2.2.2.2.2.2.1 q_.2.2.2.2.2.2.2.2.2.2.2.2.2.2.2.1 q_.2.2.2.2.2.2.2.2.2.2.2.2.2.2.2.2.1 q_.2.2.2.2.2.2.2.2.2.2.2.2.2.2.2.2.2.1 q_.2.2.2.2.2.2.2.2.2.2.2.2.2.2.2.2.2.2.2.1 q_.2.2.2.2.2.2.2.2.2.2.2.2.2.2.2.2.2.2.2.2.1)],[Sg b2 0 (KU (J4 s.most s.batch s.every).1 a3 c3 a4 c4 a5 c5)],[Sg b1 0 (W6 s a1 c1 a2 c2)]]) (fun q_=>s.names.length-q_.1) (0,(⟨(⟨((J4 s.most s.batch s.every).1),([]:List K2),([]:List Wa),(⟨0,[]⟩:YR)⟩:Wf),s.reach,([]:List (List Int)),([]:List Jae)⟩:JL),a3,c3,a4,c4,a5,c5,none,0,[],none,0,[],none,0,none,0,[],none,0,[],G1) ⟨(Jp.le_refl _),(by (try dsimp only);exact Nat.zero_le _),hs3,hs4,hs5,(J0.none Q1 _),(J0.none Wy _),(RS.nil' Kh G1),(J0.none Vk _),(J0.none Wn _),w8,w9,w10,w11,(by (try dsimp only);omega),w7,(by (try dsimp only);rfl),rfl⟩ (fun q_ hs=>?_)
 obtain ⟨i,bt,abt0,cbt0,abt1,cbt1,abt2,cbt2,abt3,cbt3,rbt7,abt4,cbt4,rbt8,abt5,cbt5,abt6,cbt6,rbt12,abt7,cbt7,rbt13,g⟩:=q_
 obtain ⟨hle,hi,hbt1,hbt5,hbt6,hbt7,hbt8,hbt10,hbt12,hbt13,hbt0,hbt2,hbt3,hbt4,hbt9,hbt11,hB,hN⟩:=hs
 dsimp only at hle hi hbt1 hbt5 hbt6 hbt7 hbt8 hbt10 hbt12 hbt13 hbt0 hbt2 hbt3 hbt4 hbt9 hbt11 hB hN
 dsimp only
 refine Jf [0] [(51,Bo (decide ((i:Int)<(s.names.length:Int))))] (Je (Jk (decide ((i:Int)<(s.names.length:Int))) (fun h4=>?_) (fun h4=>?_)))
 refine Jo (Jb (Je (Jz (Je (Jc (Ja [0] [(52,I (i:Int))] ?_))))))
 obtain ⟨b4,o1,rfl⟩:=RS.addr (hs1.mono (Jp.le_trans hl1 hle)) (k:=i) (by omega)
 obtain ⟨x1,hx1⟩:=We (l:=s.names) (k:=i) (by omega)
 obtain ⟨_,⟨rfl,w12⟩,hc1⟩:=RS.get (hs1.mono (Jp.le_trans hl1 hle)) hx1
 refine J3 (b:=b4) (off:=o1) (len:=s.names.length) (cap:=c1) (ik:=.i64) 53 9 1 i J7 (JW 54 9 (cs:=[Sr x1]) 0 (Sr x1) hc1 (Ja [0,0] [(7,I (i:Int)),(8,Sr x1)] (Jd (Jb (Je (Je (Jc (Ja [0] [(55,Sr x1)] (Jj 56 (Bo (KN x1)) (ZJ g x1) (Ja [0,0] [(58,Bo (!(KN x1)))] (Qu [58] (!(KN x1)) (fun h5=>?_) (fun h5=>?_))))))))))))
 refine Ja [1,1,1,1,1,1,0] [(65,Bo true)] (Jd (Jb (JU (Jf [0,0] [(2,.pointer none),(3,I 3)] (Jl (Jh (Jt (Jh (QS (Jt (Jh ?_)))))))))))
 have hf4:QM s=3∧¬ (3:Int)=0:=by
  exact JeB ‹_› J7 J7 (Jlz hN ‹_› (.inl ‹_›))
 refine Jm [0,0] [.pointer none,I 3] (Jy [] (Jp.le_trans hl1 hle) ?_)
 rw [← hf4.1];exact .inl ⟨by rw [hf4.1];exact hf4.2,rfl,rfl⟩
 refine Ja [0,14,0] [(60,Sl (At b4 o1) s.names.length c1),(61,I (i:Int))] ?_
 obtain ⟨a6,c6,ea1,ec1,en1,eh1,hs6⟩:=RS.reslXT (hs1.mono (Jp.le_trans hl1 hle)) i (by omega)
 refine WD (a:=At b4 o1) (len:=s.names.length) (cap:=c1) 62 1 none (some (I (i:Int))) 0 i (.inl ⟨rfl,rfl⟩) (.inr ⟨_,rfl⟩) (by exact Nat.zero_le _) ea1 ec1 en1 eh1 (Ja [0] [(63,Sr x1)] (Jj 64 (Bo ((s.names.take i).any (fun x=>decide (x1=x)))) (Jk7 g a6 c6 (s.names.take i) hs6 x1) (Ja [0] [(65,Bo ((s.names.take i).any (fun x=>decide (x1=x))))] (Jd (Jb (Jk ((s.names.take i).any (fun x=>decide (x1=x))) (fun h6=>?_) (fun h6=>?_)))))))
 refine Jf [0,0] [(2,.pointer none),(3,I 3)] (Jl (Jh (Jt (Jh (QS (Jt (Jh ?_)))))))
 have hf5:QM s=3∧¬ (3:Int)=0:=by
  exact JeB ‹_› J7 J7 (Jlz hN ‹_› (.inr ‹_›))
 refine Jm [0,0] [.pointer none,I 3] (Jy [] (Jp.le_trans hl1 hle) ?_)
 rw [← hf5.1];exact .inl ⟨by rw [hf5.1];exact hf5.2,rfl,rfl⟩
 refine Jo (Jb ?_)
 obtain ⟨b5,o2,rfl⟩:=RS.addr (hs2.mono (Jp.le_trans hl1 hle)) (k:=i) (by omega)
 obtain ⟨x2,hx2⟩:=We (l:=s.keys) (k:=i) (by omega)
 obtain ⟨_,⟨rfl,w13⟩,hc2⟩:=RS.get (hs2.mono (Jp.le_trans hl1 hle)) hx2
 obtain ⟨b6,o3,rfl⟩:=RS.addr (hs4.mono hle) (k:=0) (by (have q_:=JhT ‹_›;omega))
 obtain ⟨x3,hx3⟩:=We (l:=((J4 s.most s.batch s.every).1).heads) (k:=0) (by (have q_:=JhT ‹_›;omega))
 obtain ⟨_,⟨rfl,w14,w15,w16,w17⟩,hc3⟩:=RS.get (hs4.mono hle) hx3
 refine Yv (σ:=Nat×(Option Addr)×Nat×Jp) (fun q_=>(Jp.le g q_.2.2.2)∧((((Kf x1 x2 x3).1).name).length≤140737488351232)∧(rU (((Kf x1 x2 x3).1).key))∧(rI (((Kf x1 x2 x3).1).head.epoch))∧(rU (((Kf x1 x2 x3).1).head.root))∧(rU (((Kf x1 x2 x3).1).head.prev))∧(rI (((Kf x1 x2 x3).1).head.at_))∧(RS ES q_.2.2.2 q_.2.1 q_.2.2.1 (((Kf x1 x2 x3).1).wanted))∧(rI (((Kf x1 x2 x3).1).had))∧(RS Q3 q_.2.2.2 abt0 cbt0 bt.town.clerk.queue.wait)∧(rI bt.town.clerk.batch)∧(rI bt.town.clerk.every)∧(rI bt.town.clerk.now)∧(RS KA q_.2.2.2 abt1 cbt1 bt.town.clerk.heads)∧(RS Qs q_.2.2.2 abt2 cbt2 bt.town.clerk.books)∧(J0 Q1 q_.2.2.2 abt3 cbt3 bt.town.owners rbt7)∧(J0 Wy q_.2.2.2 abt4 cbt4 bt.town.polls rbt8)∧(rI bt.town.net.now)∧(RS Kh q_.2.2.2 abt5 cbt5 bt.town.net.way)∧(rI bt.reach)∧(J0 Vk q_.2.2.2 abt6 cbt6 bt.fates rbt12)∧(J0 Wn q_.2.2.2 abt7 cbt7 bt.events rbt13)) (fun q_=>[(1,Pt b1 0),(4,Pt b2 0),(6,Pt b3 0),(9,Pt q_.1 0),(48,Sl (At b4 o1) s.names.length c1),(49,I (s.names.length:Int)),(50,I (i:Int))]) (fun q_=>q_.2.2.2) (fun q_=>[[Sg q_.1 0 (KE (Kf x1 x2 x3).1 q_.2.1 q_.2.2.1)],rbt13,rbt12,rbt8,rbt7,[Sg b3 0 (J6 bt abt0 cbt0 abt1 cbt1 abt2 cbt2 abt3 cbt3 abt4 cbt4 abt5 cbt5 abt6 cbt6 abt7 cbt7)],[Sg b2 0 (KU (J4 s.most s.batch s.every).1 a3 c3 (At b6 o3) c4 a5 c5)],[Sg b1 0 (W6 s (At b4 o1) c1 (At b5 o2) c2)]]) ?_ (fun q_ hs=>?_)
 refine Ko [10,14,15] (Wm [(0,Sr x1),(1,Pt b1 1),(2,Sl (At b5 o2) s.keys.length c2),(3,I (i:Int)),(4,Pt b5 (o2+i*1)),(5,U x2),(6,Pt b2 5),(7,Sl (At b6 o3) ((((J4 s.most s.batch s.every).1).heads).length) c4),(8,Pt b6 (o3+0*4)),(9,.agg #[I x3.epoch,U x3.root,U x3.prev,I x3.at_])] (JK [] [(0,0),(1,0),(2,14),(3,0),(6,0),(7,12)] [4,5,8,9] [10,14] (Ke ?_ (Ke ?_ (Ke ?_ (Ke ?_ K4)))) (Ke ?_ (Ke ?_ K4))))
 refine Jr 4 71 (Pt b5 (o2+i*1)) [(69,Sl (At b5 o2) s.keys.length c2),(70,I (i:Int))] (fun X=>?_)
 exact J3 (b:=b5) (off:=o2) (len:=s.keys.length) (cap:=c2) (ik:=.i64) 71 41 1 i J7 Jn
 refine Jr 5 72 (U x2) [(71,Pt b5 (o2+i*1))] (fun X=>?_)
 exact JW 72 41 (cs:=[U x2]) 0 (U x2) hc2 Jn
 refine Jr 8 75 (Pt b6 (o3+0*4)) [(74,Sl (At b6 o3) ((((J4 s.most s.batch s.every).1).heads).length) c4)] (fun X=>?_)
 exact J3 (b:=b6) (off:=o3) (len:=(((J4 s.most s.batch s.every).1).heads).length) (cap:=c4) (ik:=.i64) 75 43 4 0 (by (have q_:=JhT ‹_›;omega)) Jn
 refine Jr 9 76 (.agg #[I x3.epoch,U x3.root,U x3.prev,I x3.at_]) [(75,Pt b6 (o3+0*4))] (fun X=>?_)
 exact JW 76 43 (cs:=[I x3.epoch,U x3.root,U x3.prev,I x3.at_]) 0 (.agg #[I x3.epoch,U x3.root,U x3.prev,I x3.at_]) hc3 Jn
 refine JD 10 [(67,Sr x1),(72,U x2),(76,.agg #[I x3.epoch,U x3.root,U x3.prev,I x3.at_])] (fun X=>?_)
 refine JF 77 (Jdh g x1 w12 x2 w13 [I x3.epoch,U x3.root,U x3.prev,I x3.at_] x3 (⟨rfl,w14,w15,w16,w17⟩)) (fun v G2 L1 hl2 hp=>?_)
 obtain ⟨a7,c7,rfl,w18,w19,w20,w21,w22,w23,hs7,w24,rfl⟩:=hp
 refine JC [(10,.tuple #[(Ku (Kf x1 x2 x3).1 a7 c7),I ((Kf x1 x2 x3).2)]),(11,.tuple #[(Ku (Kf x1 x2 x3).1 a7 c7),I ((Kf x1 x2 x3).2)]),(12,(Ku (Kf x1 x2 x3).1 a7 c7)),(13,I ((Kf x1 x2 x3).2))] (JK [0,1,2,3,4,5,6,7,8,9] [(11,0),(12,0),(13,0)] [] [14] (List.forall_mem_nil _) (Ke ?_ K4))
 refine JD 14 [] (fun X=>?_)
 refine Jv 9 #[Sr ([]),U 0,I 0,U 0,U 0,I 0,Sl none 0 0,I 0] 76 (fun b7=>JC [(14,Pt b7 0)] (JK [0,1,2,3,4,5,6,7,8,9] [(11,0),(12,0),(13,0)] [] [15] (List.forall_mem_nil _) (Ke ?_ K4)))
 refine JD 15 [(9,Pt b7 0),(78,(Ku (Kf x1 x2 x3).1 a7 c7))] (fun X=>?_)
 exact KL 0 [[Sg b7 0 (KE (Kf x1 x2 x3).1 a7 c7)],rbt13,rbt12,rbt8,rbt7,[Sg b3 0 (J6 bt abt0 cbt0 abt1 cbt1 abt2 cbt2 abt3 cbt3 abt4 cbt4 abt5 cbt5 abt6 cbt6 abt7 cbt7)],[Sg b2 0 (KU (J4 s.most s.batch s.every).1 a3 c3 (At b6 o3) c4 a5 c5)],[Sg b1 0 (W6 s (At b4 o1) c1 (At b5 o2) c2)]] (Kc [(16,I ((Kf x1 x2 x3).2))] (Km [0,1,2,3,4,5,6,7,8,9,11,12] [(13,0),(16,0)] [] [(1,Pt b1 0),(4,Pt b2 0),(6,Pt b3 0),(9,Pt b7 0),(48,Sl (At b4 o1) s.names.length c1),(49,I (s.names.length:Int)),(50,I (i:Int))] (List.forall_mem_nil _) (Wb (b7,a7,c7,G2) ⟨hl2,w18,w19,w20,w21,w22,w23,hs7,w24,(hbt1.mono hl2),hbt2,hbt3,hbt4,(hbt5.mono hl2),(hbt6.mono hl2),(hbt7.mono hl2),(hbt8.mono hl2),hbt9,(hbt10.mono hl2),hbt11,(hbt12.mono hl2),(hbt13.mono hl2)⟩)))
 refine JD 14 [] (fun X=>?_)
 refine Jv 9 #[Sr ([]),U 0,I 0,U 0,U 0,I 0,Sl none 0 0,I 0] 76 (fun b8=>JC [(14,Pt b8 0)] (JK [] [(0,0),(1,0),(2,16),(3,0),(6,0),(7,14)] [4,5,8,9] [10] (Ke ?_ (Ke ?_ (Ke ?_ (Ke ?_ K4)))) (Ke ?_ K4)))
 refine Jr 4 71 (Pt b5 (o2+i*1)) [(69,Sl (At b5 o2) s.keys.length c2),(70,I (i:Int))] (fun X=>?_)
 exact J3 (b:=b5) (off:=o2) (len:=s.keys.length) (cap:=c2) (ik:=.i64) 71 41 1 i J7 Jn
 refine Jr 5 72 (U x2) [(71,Pt b5 (o2+i*1))] (fun X=>?_)
 exact JW 72 41 (cs:=[U x2]) 0 (U x2) hc2 Jn
 refine Jr 8 75 (Pt b6 (o3+0*4)) [(74,Sl (At b6 o3) ((((J4 s.most s.batch s.every).1).heads).length) c4)] (fun X=>?_)
 exact J3 (b:=b6) (off:=o3) (len:=(((J4 s.most s.batch s.every).1).heads).length) (cap:=c4) (ik:=.i64) 75 43 4 0 (by (have q_:=JhT ‹_›;omega)) Jn
 refine Jr 9 76 (.agg #[I x3.epoch,U x3.root,U x3.prev,I x3.at_]) [(75,Pt b6 (o3+0*4))] (fun X=>?_)
 exact JW 76 43 (cs:=[I x3.epoch,U x3.root,U x3.prev,I x3.at_]) 0 (.agg #[I x3.epoch,U x3.root,U x3.prev,I x3.at_]) hc3 Jn
 refine JD 10 [(67,Sr x1),(72,U x2),(76,.agg #[I x3.epoch,U x3.root,U x3.prev,I x3.at_])] (fun X=>?_)
 refine JF 77 (Jdh g x1 w12 x2 w13 [I x3.epoch,U x3.root,U x3.prev,I x3.at_] x3 (⟨rfl,w14,w15,w16,w17⟩)) (fun v G3 L1 hl3 hp=>?_)
 obtain ⟨a8,c8,rfl,w25,w26,w27,w28,w29,w30,hs8,w31,rfl⟩:=hp
 refine JC [(10,.tuple #[(Ku (Kf x1 x2 x3).1 a8 c8),I ((Kf x1 x2 x3).2)]),(11,.tuple #[(Ku (Kf x1 x2 x3).1 a8 c8),I ((Kf x1 x2 x3).2)]),(12,(Ku (Kf x1 x2 x3).1 a8 c8)),(13,I ((Kf x1 x2 x3).2))] (JK [0,1,2,3,4,5,6,7,8,9] [(11,0),(12,0),(13,0)] [] [15] (List.forall_mem_nil _) (Ke ?_ K4))
 refine JD 15 [(9,Pt b8 0),(78,(Ku (Kf x1 x2 x3).1 a8 c8))] (fun X=>?_)
 exact KL 0 [[Sg b8 0 (KE (Kf x1 x2 x3).1 a8 c8)],rbt13,rbt12,rbt8,rbt7,[Sg b3 0 (J6 bt abt0 cbt0 abt1 cbt1 abt2 cbt2 abt3 cbt3 abt4 cbt4 abt5 cbt5 abt6 cbt6 abt7 cbt7)],[Sg b2 0 (KU (J4 s.most s.batch s.every).1 a3 c3 (At b6 o3) c4 a5 c5)],[Sg b1 0 (W6 s (At b4 o1) c1 (At b5 o2) c2)]] (Kc [(16,I ((Kf x1 x2 x3).2))] (Km [0,1,2,3,4,5,6,7,8,9,11,12] [(13,0),(16,0)] [] [(1,Pt b1 0),(4,Pt b2 0),(6,Pt b3 0),(9,Pt b8 0),(48,Sl (At b4 o1) s.names.length c1),(49,I (s.names.length:Int)),(50,I (i:Int))] (List.forall_mem_nil _) (Wb (b8,a8,c8,G3) ⟨hl3,w25,w26,w27,w28,w29,w30,hs8,w31,(hbt1.mono hl3),hbt2,hbt3,hbt4,(hbt5.mono hl3),(hbt6.mono hl3),(hbt7.mono hl3),(hbt8.mono hl3),hbt9,(hbt10.mono hl3),hbt11,(hbt12.mono hl3),(hbt13.mono hl3)⟩)))
 obtain ⟨b7,a7,c7,G2⟩:=q_
 obtain ⟨hle1,hj1,hj2,hj3,hj4,hj5,hj6,hj7,hj8,hj9,hj10,hj11,hj12,hj13,hj14,hj15,hj16,hj17,hj18,hj19,hj20,hj21⟩:=hs
 dsimp only at hle1 hj1 hj2 hj3 hj4 hj5 hj6 hj7 hj8 hj9 hj10 hj11 hj12 hj13 hj14 hj15 hj16 hj17 hj18 hj19 hj20 hj21
 dsimp only
 refine Ko [7,8,12] (Wm [(0,Pt b3 0),(1,Pt b3 0),(2,Pt b3 0),(3,Pt b3 0),(4,Pt b3 7),(5,Sl abt3 bt.town.owners.length cbt3),(6,(Ku (Kf x1 x2 x3).1 a7 c7))] (JK [] [(0,0),(1,0),(2,0),(3,0),(4,0),(5,12),(6,2)] [] [7] (List.forall_mem_nil _) (Ke ?_ K4)))
 refine JD 7 [(86,(Ku (Kf x1 x2 x3).1 a7 c7))] (fun X=>?_)
 refine Kq 87 1 #[Sr (((Kf x1 x2 x3).1).name),U (((Kf x1 x2 x3).1).key),I (((Kf x1 x2 x3).1).head.epoch),U (((Kf x1 x2 x3).1).head.root),U (((Kf x1 x2 x3).1).head.prev),I (((Kf x1 x2 x3).1).head.at_),Sl a7 ((((Kf x1 x2 x3).1).wanted).length) c7,I (((Kf x1 x2 x3).1).had)] 76 (fun b9=>JC [(7,Sl (At b9 0) 1 1)] (JK [6] [(0,0),(1,0),(2,0),(3,0),(4,0),(5,14)] [] [8] (List.forall_mem_nil _) (Ke ?_ K4)))
 refine JD 8 [(85,Sl abt3 bt.town.owners.length cbt3),(87,Sl (At b9 0) 1 1)] (fun X=>?_)
 refine Qv (b:=b9) (cs:=(KE (Kf x1 x2 x3).1 a7 c7)) 88 76 5 0 (E:=Q1) ((Kf x1 x2 x3).1) hj15 ⟨a7,c7,rfl,hj1,hj2,hj3,hj4,hj5,hj6,hj7,hj8⟩ (by (try simp only [Q1,List.length_append,List.length_cons,List.length_nil]);(have q_:=JcO hB);omega) (by (try simp only [Q1,List.length_append,List.length_cons,List.length_nil]);(have q_:=JcO hB);omega) (fun a9 c9 r1 hr1=>JC [(8,Sl a9 ((bt.town.owners++[((Kf x1 x2 x3).1)]).length) c9),(9,Pt b3 0),(10,Pt b3 0),(11,Pt b3 7)] (JK [1,2,3,4,5,6] [(0,0),(9,0),(10,0),(11,0)] [] [12] (List.forall_mem_nil _) (Ke ?_ K4)))
 refine JD 12 [(88,Sl a9 ((bt.town.owners++[((Kf x1 x2 x3).1)]).length) c9),(91,Pt b3 7)] (fun X=>?_)
 refine KL 6 [[Sg b9 0 (KE (Kf x1 x2 x3).1 a7 c7)],[Sg b7 0 (KE (Kf x1 x2 x3).1 a7 c7)],rbt13,rbt12,rbt8,r1,[Sg b3 0 (J6 (⟨(⟨bt.town.clerk,(bt.town.owners++[((Kf x1 x2 x3).1)]),bt.town.polls,bt.town.net⟩:Wf),bt.reach,bt.fates,bt.events⟩:JL) abt0 cbt0 abt1 cbt1 abt2 cbt2 a9 c9 abt4 cbt4 abt5 cbt5 abt6 cbt6 abt7 cbt7)],[Sg b2 0 (KU (J4 s.most s.batch s.every).1 a3 c3 (At b6 o3) c4 a5 c5)],[Sg b1 0 (W6 s (At b4 o1) c1 (At b5 o2) c2)]] (Kc [] (Km [0,1,2,3,4,5,6,9,10,11] [] [] [(1,Pt b1 0),(4,Pt b2 0),(6,Pt b3 0),(48,Sl (At b4 o1) s.names.length c1),(49,I (s.names.length:Int)),(50,I (i:Int))] (List.forall_mem_nil _) (JM (Jb (Jc (Ja [0,0] [(50,I (IntKind.i64.wrap ((i:Int)+1)))] (Kw 50 ((i:Int)+1) J7 (Jd (Ji 8 (Ji 8 (Ji 8 (Ji 8 ?_))))))))))))
 refine Ji 8 (Ji 8 (Ji 8 ?_))
 exact QT [rbt13,rbt12,rbt8,r1,[Sg b3 0 (J6 (⟨(⟨bt.town.clerk,(bt.town.owners++[((Kf x1 x2 x3).1)]),bt.town.polls,bt.town.net⟩:Wf),bt.reach,bt.fates,bt.events⟩:JL) abt0 cbt0 abt1 cbt1 abt2 cbt2 a9 c9 abt4 cbt4 abt5 cbt5 abt6 cbt6 abt7 cbt7)],[Sg b2 0 (KU (J4 s.most s.batch s.every).1 a3 c3 (At b6 o3) c4 a5 c5)],[Sg b1 0 (W6 s (At b4 o1) c1 (At b5 o2) c2)]] (Qr (i+1,(⟨(⟨bt.town.clerk,bt.town.owners++[((Kf x1 x2 x3).1)],bt.town.polls,bt.town.net⟩:Wf),bt.reach,bt.fates,bt.events⟩:JL),abt0,cbt0,abt1,cbt1,abt2,cbt2,a9,c9,r1,abt4,cbt4,rbt8,abt5,cbt5,abt6,cbt6,rbt12,abt7,cbt7,rbt13,G2) ⟨(Jp.le_trans hle hle1),J7,hj9,hj13,hj14,hr1,hj16,hj18,hj20,hj21,‹_›,‹_›,‹_›,‹_›,‹_›,‹_›,(by (try dsimp only);exact Jji hB ‹_› ‹_› ‹_›),(by (try dsimp only);exact JoD hN ‹_› ‹_› ‹_›)⟩ (by (try dsimp only);omega))
 refine KW (JZ (J8 (JR (Jb (Je (Jc (Ja [0,14,0,14,0,14] [(95,I s.least),(97,I s.top),(99,I s.lost)] (Jj 100 (.tuple #[(Zt (KM s.least s.top s.lost).1),I ((KM s.least s.top s.lost).2)]) (Ji6 g s.least w4 s.top w5 s.lost w6) (Ja [0,0,0] [(101,(Zt (KM s.least s.top s.lost).1)),(102,I ((KM s.least s.top s.lost).2))] (Jv 11 #[I 0,I 0,I 0,I 0,I 0,I 0] 143 (fun b10=>JV [3,0] [(5,I ((KM s.least s.top s.lost).2))] [[Sg b10 0 (YQ (KM s.least s.top s.lost).1)],rbt13,rbt12,rbt8,rbt7,[Sg b3 0 (J6 bt abt0 cbt0 abt1 cbt1 abt2 cbt2 abt3 cbt3 abt4 cbt4 abt5 cbt5 abt6 cbt6 abt7 cbt7)],[Sg b2 0 (KU (J4 s.most s.batch s.every).1 a3 c3 a4 c4 a5 c5)],[Sg b1 0 (W6 s a1 c1 a2 c2)]] (Jd (Jb (Je (Jz (Jf [0,0,0] [(103,Bo (!decide ((KM s.least s.top s.lost).2=0)))] (Jk (!decide ((KM s.least s.top s.lost).2=0)) (fun h7=>?_) (fun h7=>?_))))))))))))))))))
 refine Jf [0,0,0] [(2,.pointer none),(3,I ((KM s.least s.top s.lost).2))] (Jl (Jt (Jh ?_)))
 have hf6:QM s=(KM s.least s.top s.lost).2∧¬ ((KM s.least s.top s.lost).2)=0:=by
  exact Jjl ‹_› J7 J7 (JfU hN J7) ‹_›
 refine Jm [0,0] [.pointer none,I ((KM s.least s.top s.lost).2)] (Jy [] (Jp.le_trans hl1 hle) ?_)
 rw [← hf6.1];exact .inl ⟨by rw [hf6.1];exact hf6.2,rfl,rfl⟩
 refine Je (Jc (Ja [0,16,0,0] [(111,Bo (decide (s.reach<1)))] (Kn (decide (s.reach<1)) [111] [1,1,1,0] [0,16,0,0] (fun bb=>[(115,Bo (bb || (decide (s.reach > 40))))]) (Ja [0] [(107,Bo ((decide (s.reach<1)) || (decide (s.reach > 40))))] (Jd (Jb (Jk ((decide (s.reach<1)) || (decide (s.reach > 40))) (fun h8=>?_) (fun h8=>?_))))))))
 refine Jf [0,0] [(2,.pointer none),(3,I 4)] (Jl (Jt (Jh ?_)))
 have hf7:QM s=4∧¬ (4:Int)=0:=by
  exact JhS ‹_› J7 J7 (JfU hN J7) ‹_› (by omega)
 refine Jm [0,0] [.pointer none,I 4] (Jy [] (Jp.le_trans hl1 hle) ?_)
 rw [← hf7.1];exact .inl ⟨by rw [hf7.1];exact hf7.2,rfl,rfl⟩
 refine Jo (JM (Jb (Je (Ko [2,9,13] (Wm [(0,Pt b3 0),(1,(Zt (KM s.least s.top s.lost).1)),(3,Pt b3 0),(4,Pt b3 0),(5,Pt b3 0),(6,Pt b3 7),(7,Sl abt3 bt.town.owners.length cbt3),(8,I (bt.town.owners.length:Int))] (JK [] [(0,0),(1,2),(3,0),(4,0),(5,0),(6,0),(7,12),(8,0)] [] [2] (List.forall_mem_nil _) (Ke ?_ K4)))))))
 refine JD 2 [(117,(Zt (KM s.least s.top s.lost).1))] (fun X=>?_)
 refine Kq 118 1 #[I (((KM s.least s.top s.lost).1).least),I (((KM s.least s.top s.lost).1).most),I (((KM s.least s.top s.lost).1).lost),I (((KM s.least s.top s.lost).1).gap),I (((KM s.least s.top s.lost).1).next),I (((KM s.least s.top s.lost).1).asked)] 143 (fun b11=>JC [(2,Sl (At b11 0) 1 1)] (JK [1] [(0,0),(3,0),(4,0),(5,0),(6,0),(7,14),(8,0)] [] [9] (List.forall_mem_nil _) (Ke ?_ K4)))
 refine JD 9 [(118,Sl (At b11 0) 1 1),(124,I (bt.town.owners.length:Int))] (fun X=>?_)
 refine QV (b:=b11) (o:=0) (cs:=(YQ (KM s.least s.top s.lost).1)) 0 (fun G4 hl4 hz1=>?_)
 have hs9:RS Wy G4 (At b11 0) 1 [((KM s.least s.top s.lost).1)]:=RS.lit [(YQ (KM s.least s.top s.lost).1)] [((KM s.least s.top s.lost).1)] ⟨⟨rfl,(JgX _ _ _).least,(JgX _ _ _).most,(JgX _ _ _).lost,(JgX _ _ _).gap,(JgX _ _ _).next,(JgX _ _ _).asked⟩,trivial⟩ hz1 (Nat.le_of_ble_eq_true rfl) (Nat.le_of_ble_eq_true rfl)
 refine JF 125 (Jjh G4 (At b11 0) 1 ((KM s.least s.top s.lost).1) hs9 bt.town.owners.length (by (have q_:=JcO hB;omega))) (fun v G5 L1 hl5 hp=>?_)
 obtain ⟨a10,c10,r2,rfl,hr2,rfl⟩:=hp
 refine JC [(9,Sl a10 ((List.replicate bt.town.owners.length ((KM s.least s.top s.lost).1)).length) c10),(10,Pt b3 0),(11,Pt b3 0),(12,Pt b3 8)] (JK [1,3,4,5,6,7,8] [(0,0),(10,0),(11,0),(12,0)] [] [13] (List.forall_mem_nil _) (Ke ?_ K4))
 refine JD 13 [(125,Sl a10 ((List.replicate bt.town.owners.length ((KM s.least s.top s.lost).1)).length) c10),(128,Pt b3 8)] (fun X=>?_)
 refine KL 7 [r2,[],[Sg b10 0 (YQ (KM s.least s.top s.lost).1)],rbt13,rbt12,rbt8,rbt7,[Sg b3 0 (J6 (⟨(⟨bt.town.clerk,bt.town.owners,(List.replicate bt.town.owners.length ((KM s.least s.top s.lost).1)),bt.town.net⟩:Wf),bt.reach,bt.fates,bt.events⟩:JL) abt0 cbt0 abt1 cbt1 abt2 cbt2 abt3 cbt3 a10 c10 abt5 cbt5 abt6 cbt6 abt7 cbt7)],[Sg b2 0 (KU (J4 s.most s.batch s.every).1 a3 c3 a4 c4 a5 c5)],[Sg b1 0 (W6 s a1 c1 a2 c2)]] (Kc [] (Km [0,1,3,4,5,6,7,8,10,11,12] [] [] [(6,Pt b3 0)] (List.forall_mem_nil _) (Jb (Jf [0,0,0] [(2,Pt b3 0),(3,I 0)] (Jl (Ji 3 (Ji 4 (Ji 2 (Ji 6 (Ji 7 ?_))))))))))
 have hok:=JmK ‹_› (by omega) (by omega) (JfU hN (by omega)) ‹_› (by omega)
 have hbt:=JmL hB (by omega)
 refine Jm [0,0] [Pt b3 0,I 0] (Jy [[Sg b3 0 (J6 (⟨(⟨bt.town.clerk,bt.town.owners,(List.replicate bt.town.owners.length ((KM s.least s.top s.lost).1)),bt.town.net⟩:Wf),bt.reach,bt.fates,bt.events⟩:JL) abt0 cbt0 abt1 cbt1 abt2 cbt2 abt3 cbt3 a10 c10 abt5 cbt5 abt6 cbt6 abt7 cbt7)],rbt7,r2,rbt12,rbt13] (Jp.le_trans (Jp.le_trans (Jp.le_trans hl1 hle) hl4) hl5) ?_)
 rw [hbt];refine .inr ⟨hok,?_⟩;try dsimp only
 exact ⟨b3,abt0,cbt0,abt1,cbt1,abt2,cbt2,abt3,cbt3,a10,c10,abt5,cbt5,abt6,cbt6,abt7,cbt7,rbt7,r2,rbt12,rbt13,rfl,hbt0,(hbt1.mono (Jp.le_trans hl4 hl5)),hbt2,hbt3,hbt4,(hbt5.mono (Jp.le_trans hl4 hl5)),(hbt6.mono (Jp.le_trans hl4 hl5)),(hbt7.mono (Jp.le_trans hl4 hl5)),hr2,hbt9,(hbt10.mono (Jp.le_trans hl4 hl5)),hbt11,(hbt12.mono (Jp.le_trans hl4 hl5)),(hbt13.mono (Jp.le_trans hl4 hl5)),rfl⟩
structure Ext (c d:KP):Prop where
 ok:Zh c
 ok2:Zh d
 heads:∃ m,d.heads=c.heads++m
 books:∃ m,d.books=c.books++m
theorem Ext.trans {c d e:KP} (h:Ext c d) (h2:Ext d e):Ext c e:=by
 obtain ⟨m,e1⟩:=h.heads;obtain ⟨n,e2⟩:=h2.heads
 obtain ⟨p,e3⟩:=h.books;obtain ⟨q,e4⟩:=h2.books
 exact ⟨h.ok,h2.ok2,⟨m++n,by rw [e2,e1,List.append_assoc]⟩,⟨p++q,by rw [e4,e3,List.append_assoc]⟩⟩
structure Fwd (t u:JL):Prop where
 ext:Ext t.town.clerk u.town.clerk
 own:∀ (i:Nat) o,u.town.owners[i]? = some o→∃ p,t.town.owners[i]? = some p∧p.name=o.name∧p.head.epoch≤o.head.epoch
theorem Fwd.trans {t u v:JL} (h:Fwd t u) (h2:Fwd u v):Fwd t v:=by
 refine ⟨h.ext.trans h2.ext,fun i o ho=>?_⟩
 obtain ⟨p,hp,e1,l1⟩:=h2.own i o ho
 obtain ⟨q,hq,e2,l2⟩:=h.own i p hp
 exact ⟨q,hq,e2.trans e1,by omega⟩
theorem Jpx {s:KC} (h:QM s=0):Vu (QH s):=by
 obtain ⟨b1,b2,b3,b4⟩:=JbN h
 obtain ⟨e1,e2,e3,e4,e5,e6,e7⟩:=V3 h
 exact ⟨⟨s,b1⟩,b2,by rw [b3,b4],by rw [b3];exact e1,e6,e7⟩
theorem f_do (t:JL) (d:Qc):(YS t d).fates.length≤t.fates.length+1:=by
 have hs:∀ (t:JL) l,(Wi t l).fates.length≤t.fates.length:=fun t l=>by simp [Wi]
 have hl:∀ (l:List JS) (t:JL),(Zg t l).fates.length≤t.fates.length:=by
  intro l
  induction l with
  | nil=>intro t;exact Nat.le_refl _
  | cons x l ih =>
   intro t
   refine Nat.le_trans (ih (Yw t x)) ?_
   unfold Yw
   split
   ·
    unfold Qi
    split
    · exact Nat.le_refl _
    · exact hs _ _
   · exact Nat.le_refl _
 have ha:∀ n (t:JL),(JbL t n).fates.length≤t.fates.length:=by
  intro n t
  induction n with
  | zero=>exact Nat.le_refl _
  | succ n ih =>
   rw [← Jar]
   refine Nat.le_trans ?_ ih
   have hq:∀ u k,(JaZ u k).fates.length≤u.fates.length:=fun u k=>by unfold JaZ;exact hs _ _
   unfold Zw
   split
   · exact Nat.le_refl _
   split
   · exact hq _ _
   · exact hq _ _
 have ht:(Wz t).fates.length≤t.fates.length:=by
  unfold Wz
  split
  · exact Nat.le_refl _
  · exact Nat.le_trans (ha _ _) (hl _ _)
 unfold YS
 split
 · unfold Wg;(repeat' split) <;> simp
 split
 · simp
 split
 · unfold Jgn;split <;> simp
 split
 · omega
 · omega
theorem JgY {s:KC} (h:QM s=0) {jt:JL} {l:List Qc} {i:Nat} (hJ:jt=Jbl (QH s) (l.take i)):Vu jt∧jt.events.length≤64*i∧jt.fates.length≤i:=by
 subst hJ
 have key:∀ (m:List Qc) (t:JL),Vu t→Vu (Jbl t m)∧(Jbl t m).events.length≤t.events.length+64*m.length∧(Jbl t m).fates.length≤t.fates.length+m.length:=by
  intro m
  induction m with
  | nil=>intro t h;exact ⟨h,by simp [Jbl],by simp [Jbl]⟩
  | cons d m ih =>
   intro t h
   obtain ⟨q1,q2⟩:=do_H h d
   obtain ⟨r1,r2,r3⟩:=ih (YS t d) q1
   have:=f_do t d
   refine ⟨r1,?_,?_⟩
   · show (Jbl (YS t d) m).events.length≤_;simp only [List.length_cons];omega
   · show (Jbl (YS t d) m).fates.length≤_;simp only [List.length_cons];omega
 obtain ⟨k1,k2,k3⟩:=key (l.take i) (QH s) (Jpx h)
 have e1:(QH s).events.length=0:=rfl
 have e2:(QH s).fates.length=0:=rfl
 have e3:(l.take i).length≤i:=by rw [List.length_take];omega
 exact ⟨k1,by omega,by omega⟩
theorem Jjm {s:KC} {l:List Qc} (h:¬ QM s=0):JB s l=(Jls,[],QM s):=by
 have e:Jbs s l=QM s:=by unfold Jbs;rw [if_pos h]
 unfold JB;rw [e,if_pos h]
theorem JkB {s:KC} {l:List Qc} (h:QM s=0) (hl:l.length > 200):JB s l=(Jls,[],2):=by
 have e:Jbs s l=2:=by unfold Jbs;rw [if_neg (by omega),if_pos hl]
 unfold JB;rw [e,if_pos (by decide)]
theorem JoE {s:KC} {l:List Qc} {jt:JL} {i:Nat} (h:QM s=0) (hl:¬ l.length > 200) (hJ:jt=Jbl (QH s) (l.take i)) (hi:l.length≤i):JB s l=(⟨jt.town.clerk,jt.town.owners,jt.town.polls,jt.town.net⟩,jt.events,0):=by
 rw [List.take_of_length_le hi] at hJ
 subst hJ
 have e:Jbs s l=0:=by unfold Jbs;rw [if_neg (by omega),if_neg hl]
 unfold JB;rw [e,if_neg (by decide)]
set_option maxHeartbeats 1600000 in
theorem Jd8 (G:Jp) (vs_s:List Value) (s:KC) (h_s:JjT.R G vs_s s) (a_l:Option Addr) (c_l:Nat) (l:List Qc) (r_l:List Kg) (h_l:J0 WW G a_l c_l l r_l) :Jcf 20 #[.agg vs_s.toArray,Sl a_l l.length c_l] G [r_l] (fun u G' L'=>∃ (a1:Option Addr) (c2:Nat) (a3:Option Addr) (c4:Nat) (a5:Option Addr) (c6:Nat) (a7:Option Addr) (c8:Nat) (a9:Option Addr) (c10:Nat) (a11:Option Addr) (c12:Nat) (a13:Option Addr) (c14:Nat),u=.tuple #[.agg #[I (((JB s l).1).clerk.queue.most),Sl a1 ((((JB s l).1).clerk.queue.wait).length) c2,I (((JB s l).1).clerk.batch),I (((JB s l).1).clerk.every),I (((JB s l).1).clerk.now),Sl a3 ((((JB s l).1).clerk.heads).length) c4,Sl a5 ((((JB s l).1).clerk.books).length) c6,Sl a7 ((((JB s l).1).owners).length) c8,Sl a9 ((((JB s l).1).polls).length) c10,I (((JB s l).1).net.now),Sl a11 ((((JB s l).1).net.way).length) c12],Sl a13 (((JB s l).2.1).length) c14,I ((JB s l).2.2)]∧(rI (((JB s l).1).clerk.queue.most))∧(RS Q3 G' a1 c2 (((JB s l).1).clerk.queue.wait))∧(rI (((JB s l).1).clerk.batch))∧(rI (((JB s l).1).clerk.every))∧(rI (((JB s l).1).clerk.now))∧(RS KA G' a3 c4 (((JB s l).1).clerk.heads))∧(RS Qs G' a5 c6 (((JB s l).1).clerk.books))∧(RS Q1 G' a7 c8 (((JB s l).1).owners))∧(RS Wy G' a9 c10 (((JB s l).1).polls))∧(rI (((JB s l).1).net.now))∧(RS Kh G' a11 c12 (((JB s l).1).net.way))∧(RS Wn G' a13 c14 ((JB s l).2.1))∧L'=[r_l]):=by
 obtain ⟨a1,c1,a2,c2,rfl,hs1,hs2,w1,w2,w3,w4,w5,w6,w7⟩:=h_s
 intro Lr
 refine JN Tryz.func20 45 [(0,(Jag s a1 c1 a2 c2)),(1,Sl a_l l.length c_l)] rfl (fun w0 G0=>?_)
 show TC _ _ _ _ _ (r_l::Lr)
 refine Je (Jc (Jv 2 #[Sl a1 s.names.length c1,Sl a2 s.keys.length c2,I s.most,I s.batch,I s.every,I s.least,I s.top,I s.lost,I s.reach] 72 (fun b1=>Jv 4 #[I 0,Sl none 0 0,I 0,I 0,I 0,Sl none 0 0,Sl none 0 0,Sl none 0 0,Sl none 0 0,I 0,Sl none 0 0] 67 (fun b2=>Ja [0,0] [] (Jd (Jb (Je (Jc (Ja [4] [(12,(Jag s a1 c1 a2 c2))] (JF 13 (JmM G (W6 s a1 c1 a2 c2) s (⟨a1,c1,a2,c2,rfl,hs1,hs2,w1,w2,w3,w4,w5,w6,w7⟩)) (fun v G1 L1 hl1 hp=>?_)))))))))))
 rcases hp with ⟨hbe,rfl,rfl⟩ | ⟨hbe,b3,a3,c3,a4,c4,a5,c5,a6,c6,a7,c7,a8,c8,a9,c9,a10,c10,r1,r2,r3,r4,rfl,w8,hs3,w9,w10,w11,hs4,hs5,hr1,hr2,w12,hs6,w13,hr3,hr4,rfl⟩
 refine Ja [0,0,0,0,0] [(7,.pointer none),(8,I (QM s))] (Jd (Jb (Je (Je (Jc (Ja [0,0,0] [(18,Bo (decide (QM s=0)))] (Kn (decide (QM s=0)) [18] [0,0,0,0] [1,1,1,0] (fun bb=>[(22,Bo (bb && (decide ((l.length:Int) > 200))))]) (Jd (Jb (Jk ((decide (QM s=0)) && (decide ((l.length:Int) > 200))) (fun h1=>?_) (fun h1=>?_)))))))))))
 refine Jc (Ja [0] [(8,I 2)] (Jd (Jb (Je (Jf [0,0] [(24,Bo true)] (JU (Jf [0,0,3,0,0] [(5,Sl none 0 0),(6,I 2)] (Jl (Jh ?_)))))))))
 have hf1:JB s l=((⟨(⟨(⟨0,[]⟩:Q0),0,0,0,[],[]⟩:KP),[],[],(⟨0,[]⟩:YR)⟩:Wf),[],2):=by
  (exfalso;omega)
 refine Jm [0,0,0] [.agg #[I 0,Sl none 0 0,I 0,I 0,I 0,Sl none 0 0,Sl none 0 0,Sl none 0 0,Sl none 0 0,I 0,Sl none 0 0],Sl none 0 0,I 2] (KQ (Lr:=Lr) [r_l] hl1 ?_)
 rw [hf1]
 try dsimp only
 exact ⟨none,0,none,0,none,0,none,0,none,0,none,0,none,0,rfl,J7,(RS.nil' Q3 G1),J7,J7,J7,(RS.nil' KA G1),(RS.nil' Qs G1),(RS.nil' Q1 G1),(RS.nil' Wy G1),J7,(RS.nil' Kh G1),(RS.nil' Wn G1),rfl⟩
 refine Jo (Jb (Je (Jf [0,0] [(24,Bo (!decide (QM s=0)))] (Jk (!decide (QM s=0)) (fun h2=>?_) (fun h2=>?_)))))
 refine Jf [0,0,3,0,0] [(5,Sl none 0 0),(6,I (QM s))] (Jl (Jh ?_))
 have hf2:JB s l=((⟨(⟨(⟨0,[]⟩:Q0),0,0,0,[],[]⟩:KP),[],[],(⟨0,[]⟩:YR)⟩:Wf),[],QM s):=by
  (rw [Jjm ‹_›];rfl)
 refine Jm [0,0,0] [.agg #[I 0,Sl none 0 0,I 0,I 0,I 0,Sl none 0 0,Sl none 0 0,Sl none 0 0,Sl none 0 0,I 0,Sl none 0 0],Sl none 0 0,I (QM s)] (KQ (Lr:=Lr) [r_l] hl1 ?_)
 rw [hf2]
 try dsimp only
 exact ⟨none,0,none,0,none,0,none,0,none,0,none,0,none,0,rfl,J7,(RS.nil' Q3 G1),J7,J7,J7,(RS.nil' KA G1),(RS.nil' Qs G1),(RS.nil' Q1 G1),(RS.nil' Wy G1),J7,(RS.nil' Kh G1),(RS.nil' Wn G1),rfl⟩
 refine Jo (Jb (Je ?_))
 exfalso;omega
 refine Ja [0,0,0,0,0] [(7,Pt b3 0),(8,I 0)] (Jd (Jb (Je (Jf [0,0,0,0,0,0,0] [(22,Bo (decide ((l.length:Int) > 200)))] (Jk (decide ((l.length:Int) > 200)) (fun h3=>?_) (fun h3=>?_))))))
 refine Jc (Ja [0] [(8,I 2)] (Jd (Jb (Je (Jf [0,0] [(24,Bo true)] (JU (Jf [0,0,13,0,0] [(5,Sl none 0 0),(6,I 2)] (Jl (Jh ?_)))))))))
 have hf3:JB s l=((⟨(⟨(⟨0,[]⟩:Q0),0,0,0,[],[]⟩:KP),[],[],(⟨0,[]⟩:YR)⟩:Wf),[],2):=by
  (rw [JkB ‹_› (by omega)];rfl)
 refine Jm [5,0,0] [.agg #[I 0,Sl none 0 0,I 0,I 0,I 0,Sl none 0 0,Sl none 0 0,Sl none 0 0,Sl none 0 0,I 0,Sl none 0 0],Sl none 0 0,I 2] (KQ (Lr:=Lr) [r_l] hl1 ?_)
 rw [hf3]
 try dsimp only
 exact ⟨none,0,none,0,none,0,none,0,none,0,none,0,none,0,rfl,‹_›,(RS.nil' Q3 G1),‹_›,‹_›,‹_›,(RS.nil' KA G1),(RS.nil' Qs G1),(RS.nil' Q1 G1),(RS.nil' Wy G1),‹_›,(RS.nil' Kh G1),(RS.nil' Wn G1),rfl⟩
 refine Jo (Jb (Je (Jf [0,0] [(24,Bo false)] (Qq (Jo (Jb (Je (Jf [0,0,0] [(27,Sl a_l l.length c_l),(28,I (l.length:Int)),(29,I 0)] (Jz ?_)))))))))
 refine Qh (σ:=Nat×JL×Option Addr×Nat×Option Addr×Nat×Option Addr×Nat×Option Addr×Nat×List Kg×Option Addr×Nat×List Kg×Option Addr×Nat×Option Addr×Nat×List Kg×Option Addr×Nat×List Kg×Jp) (fun q_=>(Jp.le G1 q_.2.2.2.2.2.2.2.2.2.2.2.2.2.2.2.2.2.2.2.2.2.2)∧(q_.1≤l.length)∧(RS Q3 q_.2.2.2.2.2.2.2.2.2.2.2.2.2.2.2.2.2.2.2.2.2.2 q_.2.2.1 q_.2.2.2.1 q_.2.1.town.clerk.queue.wait)∧(RS KA q_.2.2.2.2.2.2.2.2.2.2.2.2.2.2.2.2.2.2.2.2.2.2 q_.2.2.2.2.1 q_.2.2.2.2.2.1 q_.2.1.town.clerk.heads)∧(RS Qs q_.2.2.2.2.2.2.2.2.2.2.2.2.2.2.2.2.2.2.2.2.2.2 q_.2.2.2.2.2.2.1 q_.2.2.2.2.2.2.2.1 q_.2.1.town.clerk.books)∧(J0 Q1 q_.2.2.2.2.2.2.2.2.2.2.2.2.2.2.2.2.2.2.2.2.2.2 q_.2.2.2.2.2.2.2.2.1 q_.2.2.2.2.2.2.2.2.2.1 q_.2.1.town.owners q_.2.2.2.2.2.2.2.2.2.2.1)∧(J0 Wy q_.2.2.2.2.2.2.2.2.2.2.2.2.2.2.2.2.2.2.2.2.2.2 q_.2.2.2.2.2.2.2.2.2.2.2.1 q_.2.2.2.2.2.2.2.2.2.2.2.2.1 q_.2.1.town.polls q_.2.2.2.2.2.2.2.2.2.2.2.2.2.1)∧(RS Kh q_.2.2.2.2.2.2.2.2.2.2.2.2.2.2.2.2.2.2.2.2.2.2 q_.2.2.2.2.2.2.2.2.2.2.2.2.2.2.1 q_.2.2.2.2.2.2.2.2.2.2.2.2.2.2.2.1 q_.2.1.town.net.way)∧(J0 Vk q_.2.2.2.2.2.2.2.2.2.2.2.2.2.2.2.2.2.2.2.2.2.2 q_.2.2.2.2.2.2.2.2.2.2.2.2.2.2.2.2.1 q_.2.2.2.2.2.2.2.2.2.2.2.2.2.2.2.2.2.1 q_.2.1.fates q_.2.2.2.2.2.2.2.2.2.2.2.2.2.2.2.2.2.2.1)∧(J0 Wn q_.2.2.2.2.2.2.2.2.2.2.2.2.2.2.2.2.2.2.2.2.2.2 q_.2.2.2.2.2.2.2.2.2.2.2.2.2.2.2.2.2.2.2.1 q_.2.2.2.2.2.2.2.2.2.2.2.2.2.2.2.2.2.2.2.2.1 q_.2.1.events q_.2.2.2.2.2.2.2.2.2.2.2.2.2.2.2.2.2.2.2.2.2.1)∧(rI q_.2.1.town.clerk.queue.most)∧(rI q_.2.1.town.clerk.batch)∧(rI q_.2.1.town.clerk.every)∧(rI q_.2.1.town.clerk.now)∧(rI q_.2.1.town.net.now)∧(rI q_.2.1.reach)∧(q_.2.1=Jbl (QH s) (l.take q_.1))) (fun q_=>[(4,Pt b2 0),(7,Pt b3 0),(27,Sl a_l l.length c_l),(28,I (l.length:Int)),(29,I (q_.1:Int))]) (fun q_=>q_.2.2.2.2.2.2.2.2.2.2.2.2.2.2.2.2.2.2.2.2.2.2) (fun q_=>([Sg b3 0 (J6 q_.2.1 q_.2.2.1 q_.2.2.2.1 q_.2.2.2.2.1 q_.2.2.2.2.2.1 q_.2.2.2.2.2.2.1 q_.2.2.2.2.2.2.2.1 q_.2.2.2.2.2.2.2.2.1 q_.2.2.2.2.2.2.2.2.2.1 q_.2.2.2.2.2.2.2.2.2.2.2.1 q_.2.2.2.2.2.2.2.2.2.2.2.2.1 q_.2.2.2.2.2.2.2.2.2.2.2.2.2.2.1 q_.2.2.2.2.2.2.2.2.2.2.2.2.2.2.2.1 q_.2.2.2.2.2.2.2.2.2.2.2.2.2.2.2.2.1 q_.2.2.2.2.2.2.2.2.2.2.2.2.2.2.2.2.2.1 q_.2.2.2.2.2.2.2.2.2.2.2.2.2.2.2.2.2.2.2.1 q_.2.2.2.2.2.2.2.2.2.2.2.2.2.2.2.2.2.2.2.2.1)]::q_.2.2.2.2.2.2.2.2.2.2.1::q_.2.2.2.2.2.2.2.2.2.2.2.2.2.1::q_.2.2.2.2.2.2.2.2.2.2.2.2.2.2.2.2.2.2.1::q_.2.2.2.2.2.2.2.2.2.2.2.2.2.2.2.2.2.2.2.2.2.1::[Sg b2 0 [I 0,Sl none 0 0,I 0,I 0,I 0,Sl none 0 0,Sl none 0 0,Sl none 0 0,Sl none 0 0,I 0,Sl none 0 0]]::[Sg b1 0 (W6 s a1 c1 a2 c2)]::r_l::Lr)) (fun q_=>l.length-q_.1) (0,(QH s),a3,c3,a4,c4,a5,c5,a6,c6,r1,a7,c7,r2,a8,c8,a9,c9,r3,a10,c10,r4,G1) ⟨(Jp.le_refl _),(by (try dsimp only);exact Nat.zero_le _),hs3,hs4,hs5,hr1,hr2,hs6,hr3,hr4,w8,w9,w10,w11,w12,w13,(by (try dsimp only);rfl)⟩ (fun q_ hs=>?_)
 obtain ⟨i,jt,ajt0,cjt0,ajt1,cjt1,ajt2,cjt2,ajt3,cjt3,rjt7,ajt4,cjt4,rjt8,ajt5,cjt5,ajt6,cjt6,rjt12,ajt7,cjt7,rjt13,g⟩:=q_
 obtain ⟨hle,hi,hjt1,hjt5,hjt6,hjt7,hjt8,hjt10,hjt12,hjt13,hjt0,hjt2,hjt3,hjt4,hjt9,hjt11,hJ⟩:=hs
 dsimp only at hle hi hjt1 hjt5 hjt6 hjt7 hjt8 hjt10 hjt12 hjt13 hjt0 hjt2 hjt3 hjt4 hjt9 hjt11 hJ
 dsimp only
 refine Jf [0] [(30,Bo (decide ((i:Int)<(l.length:Int))))] (Je (Jk (decide ((i:Int)<(l.length:Int))) (fun h4=>?_) (fun h4=>?_)))
 refine Jo (Jb (Je (Jz (Je (Jc ?_)))))
 obtain ⟨x1,hx1⟩:=We (l:=l) (k:=i) (by omega)
 obtain ⟨b4,o1,_,_,⟨a11,c11,a12,c12,a13,c13,a14,c14,rfl,w14,w15,w16,hs7,w17,w18,w19,w20,hs8,w21,w22,w23,w24,w25,hs9,hs10⟩,ha1,hre1,hc1⟩:=J0.ix (h_l.mono (Jp.le_trans hl1 hle)) hx1
 refine QI (b:=b4) (off:=o1) (len:=l.length) (cap:=c_l) (ik:=.i64) 31 53 16 i ha1 J7 (W5 (off:=o1) (p:=i*16) (cs:=(WT x1 a11 c11 a12 c12 a13 c13 a14 c14)) 32 53 7 0 (Jfh x1 a11 c11 a12 c12 a13 c13 a14 c14) hre1 hc1 (Jv 10 #[I 0,I 0,Sr ([]),Sl none 0 0,I 0,I 0,I 0,I 0,Sl none 0 0,I 0,U 0,U 0,I 0,Sr ([]),Sl none 0 0,Sl none 0 0] 53 (fun b5=>JV [3] [] ([Sg b5 0 (WT x1 a11 c11 a12 c12 a13 c13 a14 c14)]::[Sg b3 0 (J6 jt ajt0 cjt0 ajt1 cjt1 ajt2 cjt2 ajt3 cjt3 ajt4 cjt4 ajt5 cjt5 ajt6 cjt6 ajt7 cjt7)]::rjt7::rjt8::rjt12::rjt13::[Sg b2 0 [I 0,Sl none 0 0,I 0,I 0,I 0,Sl none 0 0,Sl none 0 0,Sl none 0 0,Sl none 0 0,I 0,Sl none 0 0]]::[Sg b1 0 (W6 s a1 c1 a2 c2)]::r_l::Lr) (Jd (Jb (Jc (Ja [0,2] [(33,Pt b3 0),(34,(Jfh x1 a11 c11 a12 c12 a13 c13 a14 c14))] (Jx 5 (Jx 5 (Jx 5 (Jx 5 (Jx 5 (Qn (Ls:=[[Sg b3 0 (J6 jt ajt0 cjt0 ajt1 cjt1 ajt2 cjt2 ajt3 cjt3 ajt4 cjt4 ajt5 cjt5 ajt6 cjt6 ajt7 cjt7)],rjt7,rjt8,rjt12,rjt13]) (Lr:=([Sg b5 0 (WT x1 a11 c11 a12 c12 a13 c13 a14 c14)]::[Sg b2 0 [I 0,Sl none 0 0,I 0,I 0,I 0,Sl none 0 0,Sl none 0 0,Sl none 0 0,Sl none 0 0,I 0,Sl none 0 0]]::[Sg b1 0 (W6 s a1 c1 a2 c2)]::r_l::Lr)) 35 (Jpw g b3 jt ajt0 cjt0 ajt1 cjt1 ajt2 cjt2 ajt3 cjt3 ajt4 cjt4 ajt5 cjt5 ajt6 cjt6 ajt7 cjt7 rjt7 rjt8 rjt12 rjt13 hjt0 hjt1 hjt2 hjt3 hjt4 hjt5 hjt6 hjt7 hjt8 hjt9 hjt10 hjt11 hjt12 hjt13 (WT x1 a11 c11 a12 c12 a13 c13 a14 c14) x1 (⟨a11,c11,a12,c12,a13,c13,a14,c14,rfl,w14,w15,w16,hs7,w17,w18,w19,w20,hs8,w21,w22,w23,w24,w25,hs9,hs10⟩) (by exact (JgY hbe hJ).1) (by (have q_:=(JgY hbe hJ);omega)) (by (have q_:=(JgY hbe hJ);omega))) (fun v G2 L1 hl2 hp=>?_))))))))))))))
 obtain ⟨a15,c15,a16,c16,a17,c17,a18,c18,a19,c19,a20,c20,a21,c21,a22,c22,r5,r6,r7,r8,rfl,_,hs11,_,_,_,hs12,hs13,hr5,hr6,_,hs14,_,hr7,hr8,rfl⟩:=hp
 refine Jd (JM (Jb (Jc (Ja [0,0] [(29,I (IntKind.i64.wrap ((i:Int)+1)))] (Kw 29 ((i:Int)+1) J7 (Jd (Ji 8 (Ji 8 (Ji 8 (Ji 7 (Ji 7 (Ji 7 (Ji 7 ?_)))))))))))))
 refine Ji 7 ?_
 exact QT ([Sg b3 0 (J6 (YS jt x1) a15 c15 a16 c16 a17 c17 a18 c18 a19 c19 a20 c20 a21 c21 a22 c22)]::r5::r6::r7::r8::[Sg b2 0 [I 0,Sl none 0 0,I 0,I 0,I 0,Sl none 0 0,Sl none 0 0,Sl none 0 0,Sl none 0 0,I 0,Sl none 0 0]]::[Sg b1 0 (W6 s a1 c1 a2 c2)]::r_l::Lr) (Qr (i+1,(YS jt x1),a15,c15,a16,c16,a17,c17,a18,c18,r5,a19,c19,r6,a20,c20,a21,c21,r7,a22,c22,r8,G2) ⟨(Jp.le_trans hle hl2),J7,hs11,hs12,hs13,hr5,hr6,hs14,hr7,hr8,‹_›,‹_›,‹_›,‹_›,‹_›,‹_›,(by (try dsimp only);rw [← JmG hx1,← hJ])⟩ (by (try dsimp only);omega))
 refine KW (JZ (J8 (JR (Jb (Je (Ko [8] (Wm [(0,Pt b3 0),(1,Pt b3 0),(2,Pt b3 0),(3,(Jaw jt.town ajt0 cjt0 ajt1 cjt1 ajt2 cjt2 ajt3 cjt3 ajt4 cjt4 ajt5 cjt5)),(4,Pt b3 0),(5,Pt b3 0),(6,Pt b3 13),(7,Sl ajt7 jt.events.length cjt7)] (JK [] [(0,0),(1,0),(2,0),(3,2),(4,0),(5,0),(6,0),(7,2)] [] [8] (List.forall_mem_nil _) (Ke ?_ K4)))))))))
 refine JD 8 [(4,Pt b2 0),(40,(Jaw jt.town ajt0 cjt0 ajt1 cjt1 ajt2 cjt2 ajt3 cjt3 ajt4 cjt4 ajt5 cjt5))] (fun X=>?_)
 refine KL 5 ([Sg b3 0 (J6 jt ajt0 cjt0 ajt1 cjt1 ajt2 cjt2 ajt3 cjt3 ajt4 cjt4 ajt5 cjt5 ajt6 cjt6 ajt7 cjt7)]::rjt7::rjt8::rjt12::rjt13::[Sg b2 0 (VP jt.town ajt0 cjt0 ajt1 cjt1 ajt2 cjt2 ajt3 cjt3 ajt4 cjt4 ajt5 cjt5)]::[Sg b1 0 (W6 s a1 c1 a2 c2)]::r_l::Lr) (Kc [(9,Sl ajt7 jt.events.length cjt7),(10,I 0)] (Km [0,1,2,3] [(4,0),(5,0),(6,0),(7,2),(9,0),(10,0)] [] [(4,Pt b2 0),(5,Sl ajt7 jt.events.length cjt7),(6,I 0)] (List.forall_mem_nil _) (Jb (Jl (WA (E:=Q1) 1 hjt7 (by have q_:=(JgY hbe hJ);have q1_:=q_.1.len;have q2_:=q_.1.polls;simp only [Q1,Wy,Wn];omega) (fun G3 hl3 hs15=>WA (E:=Wy) 2 (hjt8.mono hl3) (by have q_:=(JgY hbe hJ);have q1_:=q_.1.len;have q2_:=q_.1.polls;simp only [Q1,Wy,Wn];omega) (fun G4 hl4 hs16=>WA (E:=Wn) 4 (hjt13.mono (Jp.le_trans hl3 hl4)) (by have q_:=(JgY hbe hJ);have q1_:=q_.1.len;have q2_:=q_.1.polls;simp only [Q1,Wy,Wn];omega) (fun G5 hl5 hs17=>?_))))))))
 have hf4:JB s l=(jt.town,jt.events,0):=by
  (rw [JoE ‹_› (by omega) hJ (by omega)];done)
 refine Jm [5,0,0] [(Jaw jt.town ajt0 cjt0 ajt1 cjt1 ajt2 cjt2 ajt3 cjt3 ajt4 cjt4 ajt5 cjt5),Sl ajt7 jt.events.length cjt7,I 0] (KQ (Lr:=Lr) [r_l] (Jp.le_trans (Jp.le_trans (Jp.le_trans (Jp.le_trans hl1 hle) hl3) hl4) hl5) ?_)
 rw [hf4]
 try dsimp only
 exact ⟨ajt0,cjt0,ajt1,cjt1,ajt2,cjt2,ajt3,cjt3,ajt4,cjt4,ajt5,cjt5,ajt7,cjt7,rfl,hjt0,(hjt1.mono (Jp.le_trans (Jp.le_trans hl3 hl4) hl5)),hjt2,hjt3,hjt4,(hjt5.mono (Jp.le_trans (Jp.le_trans hl3 hl4) hl5)),(hjt6.mono (Jp.le_trans (Jp.le_trans hl3 hl4) hl5)),(hs15.mono (Jp.le_trans hl4 hl5)),(hs16.mono hl5),hjt9,(hjt10.mono (Jp.le_trans (Jp.le_trans hl3 hl4) hl5)),hs17,rfl⟩
def Kk (s:List UInt8):Int×Int:=match JaU s with
 | some v=>if (v<0∨s.length > 9)∨¬ Lib.itoa v=s then (0,3) else (v,0)
 | none=>(0,3)
theorem JmN {s:List UInt8} (h:JaU s=none):(Kk s).2=3:=by unfold Kk;rw [h]
theorem Jjn {s:List UInt8} {v:Int} (h:JaU s=some v) (hb:(v<0∨s.length > 9)∨¬ Lib.itoa v=s):(Kk s).2=3:=by unfold Kk;rw [h];simp only;rw [if_pos hb]
theorem Jpy {s:List UInt8} {v:Int} (h:JaU s=some v) (h1:0≤v) (h2:s.length≤9) (h3:Lib.itoa v=s):(Kk s).2=0∧(Kk s).1=v:=by
 unfold Kk;rw [h];simp only;rw [if_neg (by rintro ((q | q) | q);omega;omega;exact q h3)];exact ⟨rfl,rfl⟩
theorem Vr (s:List UInt8):0≤(Kk s).1∧(Kk s).1<9223372036854775808:=by
 unfold Kk
 split
 ·
  rename_i v hv
  have:=JgJ hv
  split
  · simp
  · rename_i h;simp only;omega
 · simp
theorem JoF (s:List UInt8):(Kk s).2=0∨(Kk s).2=3:=by
 unfold Kk
 split
 · split <;> simp
 · simp
def Jds (l:List (List UInt8)):List Int×Int:=if ∃ s∈l,¬ (Kk s).2=0 then ([],3) else (l.map fun s=>(Kk s).1,0)
theorem Je1 (n:Int) (h:-9223372036854775808≤n∧n<9223372036854775808:=by omega):(Lib.itoa n).length≤21:=Lib.itoa_length_le n h.1 (by omega)
abbrev JaB (e:Int):Value:=.iface 122 (.agg #[I e])
theorem Z6 (G:Jp)  (e:Int) :JaD Tryz.prog 49 #[I e] G [] (fun u G' L'=>(e=0)∧u=.tuple #[]∧L'=[]) (fun u _ L'=>(¬ e=0)∧u=JaB e∧L'=[]):=by
 refine YM Tryz.func49 7 [(0,I e)] rfl (fun w0 G0 hT=>Jf [0,0] [(3,Bo (!decide (e=0)))] (Jk (!decide (e=0)) (fun h1=>?_) (fun h1=>?_)))
 refine Jc (Ja [0,0,0] [(6,.iface 122 (.agg #[I e]))] (JjP 122 (.agg #[I e]) ?_))
 have hp1:e=e:=by
  rfl
 refine ZR (JcZ [] (Jp.le_refl _) ?_)
 rw [hp1];exact ⟨h1,rfl,rfl⟩
 refine Jo ?_
 have hf1:e=0:=by
  assumption
 exact ZC [] [] (bpx (Jy [] (Jp.le_refl _) (⟨hf1,rfl,rfl⟩)))
theorem VK (G:Jp)  (s:List UInt8) (hs:s.length≤140737488351232):JaD Tryz.prog 136 #[Sr s] G [] (fun u G' L'=>((Kk s).2=0)∧u=I ((Kk s).1)∧L'=[]) (fun u _ L'=>(¬ (Kk s).2=0)∧u=JaB ((Kk s).2)∧L'=[]):=by
 refine YM Tryz.func136 29 [(0,Sr s)] rfl (fun w0 G0 hT=>Jf [0] [] (Je (Jc (Ja [0] [(6,Sr s)] (Vv (Ls:=[]) (Lr:=[]) 7 hT ((JnC G s J7).frame) (fun v G1 L1 hl1 hp=>?_))))))
 rcases hp with ⟨⟨v1,ha1,rfl⟩ | ⟨ha1,v2,b1,rfl⟩,rfl⟩
 refine Ja [0,0,0,0,0] [(3,I v1),(4,.nilIface)] (Jd (Jb (Je (Je (Jc (Ja [0,0,0,0,0,0,0] [(16,Bo (decide (v1<0)))] (Kn (decide (v1<0)) [16] [1,1,1,0] [0,0,0,0] (fun bb=>[(20,Bo (bb || (decide (((s).length:Int) > 9))))]) (Ja [0] [(21,Bo ((decide (v1<0)) || (decide (((s).length:Int) > 9))))] (Qu [21] ((decide (v1<0)) || (decide (((s).length:Int) > 9))) (fun h1=>?_) (fun h1=>?_))))))))))
 refine Ja [1,1,1,1,0] [(26,Bo true)] (Jd (Jb (JU (Jc (QJ (Ls:=[]) (Lr:=[]) 27 hT ((Z6 G1 3).frame) (fun v G2 L1 hl2 hp=>?_) (fun v G2 L1 hl2 hp=>?_))))))
 obtain ⟨hne1,rfl,rfl⟩:=hp
 refine KJ ?_
 have hp1:(Kk s).2=3:=by
  exact Jjn ‹_› (.inl J7)
 refine ZR (JcZ [] (Jp.le_trans hl1 hl2) ?_)
 rw [hp1];exact ⟨hne1,rfl,rfl⟩
 obtain ⟨he1,rfl,rfl⟩:=hp
 exact absurd he1 (by decide)
 refine Ja [0] [(22,I v1)] (Jeg 23 (Sr (Lib.itoa v1)) hT (Jil G1 v1 (JgJ ha1)) (Ja [0,0,0] [(26,Bo (!((B (Lib.itoa v1)).toList == (B s).toList)))] (KI 26 (Bo (!(Lib.itoa v1 == s))) (show (Bo (!((B (Lib.itoa v1)).toList == (B s).toList)):Value)=Bo (!(Lib.itoa v1 == s)) by simp only [Qj]) (Jd (Jb (Jk (!(Lib.itoa v1 == s)) (fun h2=>?_) (fun h2=>?_)))))))
 refine Jc (QJ (Ls:=[]) (Lr:=[]) 27 hT ((Z6 G1 3).frame) (fun v G3 L1 hl3 hp=>?_) (fun v G3 L1 hl3 hp=>?_))
 obtain ⟨hne2,rfl,rfl⟩:=hp
 refine KJ ?_
 have hp3:(Kk s).2=3:=by
  exact Jjn ‹_› (.inr ‹_›)
 refine ZR (JcZ [] (Jp.le_trans hl1 hl3) ?_)
 rw [hp3];exact ⟨hne2,rfl,rfl⟩
 obtain ⟨he2,rfl,rfl⟩:=hp
 exact absurd he2 (by decide)
 refine Jo (Jb (Jf [0,0] [(2,I v1)] (Jl ?_)))
 have hf1:(Kk s).2=0∧(Kk s).1=v1:=by
  exact Jpy ‹_› J7 J7 (by simp_all)
 refine Jm [0] [I v1] (bpx (Jy [] hl1 ?_))
 rw [hf1.2]
 try dsimp only
 exact ⟨hf1.1,rfl,rfl⟩
 refine Ja [0,0,0,0,0] [(3,I v2),(4,.iface (Jhi.t 168) (Pt b1 0))] (Jd (Jb (Je (Jf [0,0,0,1,1,0,0,1,1,1,0,0,1,1,1,1,0] [(26,Bo true)] (JU (Jc (QJ (Ls:=[]) (Lr:=[]) 27 hT ((Z6 G1 3).frame) (fun v G4 L1 hl4 hp=>?_) (fun v G4 L1 hl4 hp=>?_))))))))
 obtain ⟨hne3,rfl,rfl⟩:=hp
 refine KJ ?_
 have hp5:(Kk s).2=3:=by
  exact JmN ‹_›
 refine ZR (JcZ [] (Jp.le_trans hl1 hl4) ?_)
 rw [hp5];exact ⟨hne3,rfl,rfl⟩
 obtain ⟨he3,rfl,rfl⟩:=hp
 exact absurd he3 (by decide)
theorem Jjo (G:Jp) (a_l:Option Addr) (c_l:Nat) (p:Qc) (h_l:RS WW G a_l c_l [p]) (n:Nat) (hn:n≤1000):Vi Tryz.prog 19 #[Sl a_l 1 c_l,I (n:Int)] G [] (fun u G' L'=>∃ a' c' r,u=Sl a' (List.replicate n p).length c'∧J0 WW G' a' c' (List.replicate n p) r∧L'=[r]):=by
 obtain ⟨bx,ox,rfl⟩:=RS.addr h_l (k:=0) (by simp)
 obtain ⟨csx,h_p,hcx⟩:=RS.get h_l (k:=0) (x:=p) rfl
 have h1x:=WW.one h_p
 obtain ⟨a1,c1,a2,c2,a3,c3,a4,c4,rfl,_,_,_,_,_,_,_,_,_,_,_,_,_,_,_,_⟩:=id h_p
 rw [Nat.zero_mul,Nat.add_zero] at hcx
 refine JN Tryz.func19 48 [(0,Sl (At bx ox) 1 c_l),(1,I (n:Int))] rfl (fun w0 G0=>?_)
 refine Jf [0] [] (Je (Jf [0,0] [(10,Bo (decide ((n:Int)<0)))] (Jk (decide ((n:Int)<0)) (fun h1=>?_) (fun h1=>?_))))
 exfalso;omega
 refine Jo (Jb (Je (Jc (Ja [0,0,0,0,0] [(15,U (IntKind.u64.wrap (1:Int))),(17,U (IntKind.u64.wrap (n:Int)))] (JaN 17 (n:Int) J7 (Jj 18 (.tuple #[U 0,U (n:Int)]) (Jjg (n:Int) J7 G) (Ja [0,0,0,0,0] [(5,U 0),(6,U (n:Int))] (Jd (Jb (Je (Jf [0,0,0,0,0,0] [(26,Bo (decide ((n:Int) > 9223372036854775807)))] (Jk (decide ((n:Int) > 9223372036854775807)) (fun h2=>?_) (fun h2=>?_)))))))))))))
 exfalso;omega
 refine Jo (Jb (Je (Jc (Ja [0,0] [(29,I (IntKind.i64.wrap (n:Int)))] (Kw 29 (n:Int) J7 (JfS (z:=(.agg #[I 0,I 0,Sr ([]),Sl none 0 0,I 0,I 0,I 0,I 0,Sl none 0 0,I 0,U 0,U 0,I 0,Sr ([]),Sl none 0 0,Sl none 0 0])) (bytes:=208) 30 38 53 n 16 J7 J7 (by kernel_rfl) (fun bz Fz hFz=>Ja [0] [(7,Sl (At bz 0) n n)] (Jd (Jb (Je (Jc (Ja [0,0] [(31,Sl (At bz 0) n n),(32,Sl (At bx ox) 1 c_l)] (VF (b:=bz) (off:=0) (p:=0) (nd:=n) (cd:=n) (bs:=bx) (os:=ox) (ns:=1) (cs:=c_l) (F:=Fz) 33 0 16 (JfT (WT p a1 c1 a2 c2 a3 c3 a4 c4) n) (JbQ _ _) (by rw [JbQ,hFz,Nat.zero_add];exact Nat.mul_le_mul_right _ (Nat.min_le_right 1 n)) (fun u hu=>h1x u (Jjf hu)) (Jlw hcx) (Ja [0] [(8,I ((Nat.min 1 n:Nat):Int))] (Jd (Jb (Je (Jz ?_))))))))))))))))))
 refine Qh (σ:=Nat×List Value) (fun q_=>(JcN (WT p a1 c1 a2 c2 a3 c3 a4 c4) n q_.1 q_.2)) (fun q_=>[(7,Sl (At bz 0) n n),(8,I (q_.1:Int))]) (fun q_=>G) (fun q_=>[[Sg bz 0 q_.2]]) (fun q_=>n-q_.1) ((Nat.min 1 n),(QO Fz 0 (JfT (WT p a1 c1 a2 c2 a3 c3 a4 c4) n))) (.start hFz) (fun q_ hs=>?_)
 obtain ⟨k,F⟩:=q_
 have hI:=hs
 dsimp only at hI
 dsimp only
 refine Je (Jf [0,0,0,0] [(37,Bo (decide ((k:Int)<(n:Int))))] (Jk (decide ((k:Int)<(n:Int))) (fun h3=>?_) (fun h3=>?_)))
 refine Jo (Jb (Jz (Ko [7] (Wm [(0,I (k:Int)),(1,Sl (At bz 0) n n),(2,I (k:Int)),(3,Sl (At bz (0+k*16)) (n-k) (n-k)),(4,Sl (At bz 0) n n),(5,I (k:Int)),(6,Sl (At bz 0) k n)] (JK [] [(0,0),(1,0),(2,0),(4,0),(5,0)] [3,6] [7] (Ke ?_ (Ke ?_ K4)) (Ke ?_ K4))))))
 refine Jr 3 41 (Sl (At bz (0+k*16)) (n-k) (n-k)) [(39,Sl (At bz 0) n n),(40,I (k:Int))] (fun X=>?_)
 exact Vj (b:=bz) (off:=0) (len:=n) (cap:=n) 41 16 (some (I (k:Int))) none k n (.inr ⟨_,rfl⟩) (.inl ⟨rfl,rfl⟩) J7 J7 J7 Jn
 refine Jr 6 44 (Sl (At bz 0) k n) [(42,Sl (At bz 0) n n),(43,I (k:Int))] (fun X=>?_)
 exact JbW (b:=bz) (off:=0) (len:=n) (cap:=n) 44 16 (some (I (k:Int))) k (.inr ⟨_,rfl⟩) J7 Jn
 refine JD 7 [(41,Sl (At bz (0+k*16)) (n-k) (n-k)),(44,Sl (At bz 0) k n)] (fun X=>?_)
 refine VF (b:=bz) (off:=0) (p:=k*16) (nd:=n-k) (cd:=n-k) (bs:=bz) (os:=0) (ns:=k) (cs:=n) (F:=F) 45 0 16 (F.take (Nat.min k (n-k)*16)) (hI.xlen (ZY _ _).1) (by have q_:(F.take (Nat.min k (n-k)*16)).length=Nat.min k (n-k)*16:=hI.xlen (ZY _ _).1;have q1_:F.length=n*16:=hI.len;have q2_:=ZY k (n-k);omega) (hI.one (ZY _ _).1 h1x) (Jlx 0 rfl) ?_
 have e1:IntKind.i64.wrap ((k:Int)+((Nat.min k (n-k):Nat):Int))=((k+Nat.min k (n-k):Nat):Int):=(IntWalk.i64_in _ (by (have q_:=ZY k (n-k);have q2_:=hI.le;omega))).trans (show (k:Int)+((Nat.min k (n-k):Nat):Int)=((k+Nat.min k (n-k):Nat):Int) from (Int.natCast_add _ _).symm)
 refine JC [(7,I ((Nat.min k (n-k):Nat):Int)),(8,I ((k+Nat.min k (n-k):Nat):Int)),(9,I ((k+Nat.min k (n-k):Nat):Int))] (Km [1,2,3,4,5,6] [(0,0),(9,0)] [8] [(7,Sl (At bz 0) n n),(8,I ((k+Nat.min k (n-k):Nat):Int))] (Ke ?_ K4) ?_)
 refine Jr 8 46 (I ((k+Nat.min k (n-k):Nat):Int)) [(38,I (k:Int)),(45,I ((Nat.min k (n-k):Nat):Int))] (fun X=>?_)
 exact K5 46 (I (IntKind.i64.wrap ((k:Int)+((Nat.min k (n-k):Nat):Int)))) (I ((k+Nat.min k (n-k):Nat):Int)) (by simp only [e1]) Jn
 exact JM (Qr (k+Nat.min k (n-k),(QO F (k*16) (F.take (Nat.min k (n-k)*16)))) (hI.next (ZY _ _).1 (by (try dsimp only);have q_:=ZY k (n-k);have q2_:=hI.le;omega)) (by (try dsimp only);have q_:=hI.pos;have q2_:=ZY k (n-k);omega))
 refine KW (JZ (J8 (JR (Jb (Jf [0,0] [(4,Sl (At bz 0) n n)] (Jl ?_))))))
 have hrw:=hI.row (E:=WW) (G:=G) (x:=p) (b:=bz) (by omega) h_p (by omega)
 refine Jcx 4 (Sl (At bz 0) ((List.replicate n p).length) n) (show (Sl (At bz 0) n n:Value)=Sl (At bz 0) ((List.replicate n p).length) n by simp only [List.length_replicate]) (Ji 0 ?_)
 have hf1:List.replicate n p=(List.replicate n p):=by
  rfl
 refine Jm [0] [Sl (At bz 0) ((List.replicate n p).length) n] (Jy [[Sg bz 0 F]] (Jp.le_refl _) ?_)
 rw [hf1]
 try dsimp only
 exact ⟨(At bz 0),n,([Sg bz 0 F]),rfl,hrw,rfl⟩
structure KO where
 setup:KC
 deeds:List Qc
abbrev KK (x:KO) (a0:Option Addr) (c0:Nat) (a1:Option Addr) (c1:Nat) (a2:Option Addr) (c2:Nat):List Value:=[Sl a0 x.setup.names.length c0,Sl a1 x.setup.keys.length c1,I x.setup.most,I x.setup.batch,I x.setup.every,I x.setup.least,I x.setup.top,I x.setup.lost,I x.setup.reach,Sl a2 x.deeds.length c2]
abbrev vDesk (x:KO) (a0:Option Addr) (c0:Nat) (a1:Option Addr) (c1:Nat) (a2:Option Addr) (c2:Nat):Value:=.agg #[Sl a0 x.setup.names.length c0,Sl a1 x.setup.keys.length c1,I x.setup.most,I x.setup.batch,I x.setup.every,I x.setup.least,I x.setup.top,I x.setup.lost,I x.setup.reach,Sl a2 x.deeds.length c2]
def Zx (t:KO) (s:KC):KO×Int:=if t.deeds.length > 0 then (t,9) else if ¬ (JB s []).2.2=0 then (t,(JB s []).2.2) else (⟨s,t.deeds⟩,0)
theorem JmO {t:KO} {s:KC} (h:t.deeds.length > 0):(Zx t s).2=9:=by unfold Zx;rw [if_pos h]
theorem JoG {t:KO} {s:KC} (h:¬ t.deeds.length > 0) (h2:¬ (JB s []).2.2=0):(Zx t s).2=(JB s []).2.2:=by unfold Zx;rw [if_neg h,if_pos h2]
theorem JlA {t:KO} {s:KC} (h:¬ t.deeds.length > 0) (h2:(JB s []).2.2=0):(Zx t s).2=0∧(Zx t s).1=⟨s,t.deeds⟩:=by unfold Zx;rw [if_neg h,if_neg (by rw [Decidable.not_not];exact h2)];exact ⟨rfl,rfl⟩
def ZO (t:KO) (l:List Qc):KO×Int:=if (l.length:Int) > 200-t.deeds.length then (t,2) else (⟨t.setup,t.deeds++l⟩,0)
theorem JoH {t:KO} {l:List Qc} (h:(l.length:Int) > 200-t.deeds.length):(ZO t l).2=2:=by unfold ZO;rw [if_pos h]
theorem JlB {t:KO} {l:List Qc} (h:¬ (l.length:Int) > 200-t.deeds.length):(ZO t l).2=0∧(ZO t l).1=⟨t.setup,t.deeds++l⟩:=by unfold ZO;rw [if_neg h];exact ⟨rfl,rfl⟩
def cmdT:List (List UInt8):=[[99,108,101,114,107],[112,111,108,108,115],[114,101,97,99,104],[111,119,110,101,114],[119,97,110,116],[102,97,116,101],[116,105,99,107],[110,111,119],[108,111,111,107],[101,118,101,110,116,115],[115,101,101,110],[109,97,114,107]]
def KH (w:List UInt8):Nat:=cmdT.findIdx (fun x=>decide (w=x))
def Yt (c:Nat):Int:=[3,3,1,2,2,-1,1,0,2,0,1,0][c]?.getD 0
def VL (c:Nat):FuncId:=[78,79,80,81,82,83,84,85,86,87,88,89][c]?.getD 0
theorem JoI (G:Jp) (w:List UInt8):JaD Tryz.prog 48 #[Sr w] G [] (fun u _ L'=>(KH w<12)∧u=.agg #[I (Yt (KH w)),Fv (VL (KH w)) #[]]∧L'=[]) (fun u _ L'=>(KH w=12)∧u=JaB 1∧L'=[]):=by
 refine YM Tryz.func48 42 [(0,Sr w)] rfl (fun w0 G0 hT=>Je (Jc (Jv 2 #[I 0,.nilFunc] 127 (fun b1=>Jd (Jb (Je (Jf [0] [(3,Sr w)] (Jz (Jf [0,0] [(4,Bo ((B w).toList == (B ([99,108,101,114,107])).toList))] (QX 4 (Bo (w == [99,108,101,114,107])) (show (Bo ((B w).toList == (B ([99,108,101,114,107])).toList):Value)=Bo (w == [99,108,101,114,107]) by simp only [Qj]) (Jk (w == [99,108,101,114,107]) (fun h1=>?_) (fun h1=>?_))))))))))))
 refine Qx [0,3] [] [[Sg b1 0 [I 3,Fv 78 #[]]]] (Jl (Jt (Jh (Jm [0] [.agg #[I 3,Fv 78 #[]]] (bpx (Jy [] (Jp.le_refl _) ?_))))))
 subst h1;exact ⟨by decide,rfl,rfl⟩
 refine Jf [0,0] [(7,Bo ((B w).toList == (B ([112,111,108,108,115])).toList))] (QX 7 (Bo (w == [112,111,108,108,115])) (show (Bo ((B w).toList == (B ([112,111,108,108,115])).toList):Value)=Bo (w == [112,111,108,108,115]) by simp only [Qj]) (Jk (w == [112,111,108,108,115]) (fun h2=>?_) (fun h2=>?_)))
 refine Qx [0,3] [] [[Sg b1 0 [I 3,Fv 79 #[]]]] (Jl (Jt (Jh (Jm [0] [.agg #[I 3,Fv 79 #[]]] (bpx (Jy [] (Jp.le_refl _) ?_))))))
 subst h2;exact ⟨by decide,rfl,rfl⟩
 refine Jf [0,0] [(10,Bo ((B w).toList == (B ([114,101,97,99,104])).toList))] (QX 10 (Bo (w == [114,101,97,99,104])) (show (Bo ((B w).toList == (B ([114,101,97,99,104])).toList):Value)=Bo (w == [114,101,97,99,104]) by simp only [Qj]) (Jk (w == [114,101,97,99,104]) (fun h3=>?_) (fun h3=>?_)))
 refine Qx [0,3] [] [[Sg b1 0 [I 1,Fv 80 #[]]]] (Jl (Jt (Jh (Jm [0] [.agg #[I 1,Fv 80 #[]]] (bpx (Jy [] (Jp.le_refl _) ?_))))))
 subst h3;exact ⟨by decide,rfl,rfl⟩
 refine Jf [0,0] [(13,Bo ((B w).toList == (B ([111,119,110,101,114])).toList))] (QX 13 (Bo (w == [111,119,110,101,114])) (show (Bo ((B w).toList == (B ([111,119,110,101,114])).toList):Value)=Bo (w == [111,119,110,101,114]) by simp only [Qj]) (Jk (w == [111,119,110,101,114]) (fun h4=>?_) (fun h4=>?_)))
 refine Qx [0,3] [] [[Sg b1 0 [I 2,Fv 81 #[]]]] (Jl (Jt (Jh (Jm [0] [.agg #[I 2,Fv 81 #[]]] (bpx (Jy [] (Jp.le_refl _) ?_))))))
 subst h4;exact ⟨by decide,rfl,rfl⟩
 refine Jf [0,0] [(16,Bo ((B w).toList == (B ([119,97,110,116])).toList))] (QX 16 (Bo (w == [119,97,110,116])) (show (Bo ((B w).toList == (B ([119,97,110,116])).toList):Value)=Bo (w == [119,97,110,116]) by simp only [Qj]) (Jk (w == [119,97,110,116]) (fun h5=>?_) (fun h5=>?_)))
 refine Qx [0,3] [] [[Sg b1 0 [I 2,Fv 82 #[]]]] (Jl (Jt (Jh (Jm [0] [.agg #[I 2,Fv 82 #[]]] (bpx (Jy [] (Jp.le_refl _) ?_))))))
 subst h5;exact ⟨by decide,rfl,rfl⟩
 refine Jf [0,0] [(19,Bo ((B w).toList == (B ([102,97,116,101])).toList))] (QX 19 (Bo (w == [102,97,116,101])) (show (Bo ((B w).toList == (B ([102,97,116,101])).toList):Value)=Bo (w == [102,97,116,101]) by simp only [Qj]) (Jk (w == [102,97,116,101]) (fun h6=>?_) (fun h6=>?_)))
 refine Qx [0,3] [] [[Sg b1 0 [I (-1),Fv 83 #[]]]] (Jl (Jt (Jh (Jm [0] [.agg #[I (-1),Fv 83 #[]]] (bpx (Jy [] (Jp.le_refl _) ?_))))))
 subst h6;exact ⟨by decide,rfl,rfl⟩
 refine Jf [0,0] [(22,Bo ((B w).toList == (B ([116,105,99,107])).toList))] (QX 22 (Bo (w == [116,105,99,107])) (show (Bo ((B w).toList == (B ([116,105,99,107])).toList):Value)=Bo (w == [116,105,99,107]) by simp only [Qj]) (Jk (w == [116,105,99,107]) (fun h7=>?_) (fun h7=>?_)))
 refine Qx [0,3] [] [[Sg b1 0 [I 1,Fv 84 #[]]]] (Jl (Jt (Jh (Jm [0] [.agg #[I 1,Fv 84 #[]]] (bpx (Jy [] (Jp.le_refl _) ?_))))))
 subst h7;exact ⟨by decide,rfl,rfl⟩
 refine Jf [0,0] [(25,Bo ((B w).toList == (B ([110,111,119])).toList))] (QX 25 (Bo (w == [110,111,119])) (show (Bo ((B w).toList == (B ([110,111,119])).toList):Value)=Bo (w == [110,111,119]) by simp only [Qj]) (Jk (w == [110,111,119]) (fun h8=>?_) (fun h8=>?_)))
 refine Qx [0,3] [] [[Sg b1 0 [I 0,Fv 85 #[]]]] (Jl (Jt (Jh (Jm [0] [.agg #[I 0,Fv 85 #[]]] (bpx (Jy [] (Jp.le_refl _) ?_))))))
 subst h8;exact ⟨by decide,rfl,rfl⟩
 refine Jf [0,0] [(28,Bo ((B w).toList == (B ([108,111,111,107])).toList))] (QX 28 (Bo (w == [108,111,111,107])) (show (Bo ((B w).toList == (B ([108,111,111,107])).toList):Value)=Bo (w == [108,111,111,107]) by simp only [Qj]) (Jk (w == [108,111,111,107]) (fun h9=>?_) (fun h9=>?_)))
 refine Qx [0,3] [] [[Sg b1 0 [I 2,Fv 86 #[]]]] (Jl (Jt (Jh (Jm [0] [.agg #[I 2,Fv 86 #[]]] (bpx (Jy [] (Jp.le_refl _) ?_))))))
 subst h9;exact ⟨by decide,rfl,rfl⟩
 refine Jf [0,0] [(31,Bo ((B w).toList == (B ([101,118,101,110,116,115])).toList))] (QX 31 (Bo (w == [101,118,101,110,116,115])) (show (Bo ((B w).toList == (B ([101,118,101,110,116,115])).toList):Value)=Bo (w == [101,118,101,110,116,115]) by simp only [Qj]) (Jk (w == [101,118,101,110,116,115]) (fun h10=>?_) (fun h10=>?_)))
 refine Qx [0,3] [] [[Sg b1 0 [I 0,Fv 87 #[]]]] (Jl (Jt (Jh (Jm [0] [.agg #[I 0,Fv 87 #[]]] (bpx (Jy [] (Jp.le_refl _) ?_))))))
 subst h10;exact ⟨by decide,rfl,rfl⟩
 refine Jf [0,0] [(34,Bo ((B w).toList == (B ([115,101,101,110])).toList))] (QX 34 (Bo (w == [115,101,101,110])) (show (Bo ((B w).toList == (B ([115,101,101,110])).toList):Value)=Bo (w == [115,101,101,110]) by simp only [Qj]) (Jk (w == [115,101,101,110]) (fun h11=>?_) (fun h11=>?_)))
 refine Qx [0,3] [] [[Sg b1 0 [I 1,Fv 88 #[]]]] (Jl (Jt (Jh (Jm [0] [.agg #[I 1,Fv 88 #[]]] (bpx (Jy [] (Jp.le_refl _) ?_))))))
 subst h11;exact ⟨by decide,rfl,rfl⟩
 refine Jf [0,0] [(37,Bo ((B w).toList == (B ([109,97,114,107])).toList))] (QX 37 (Bo (w == [109,97,114,107])) (show (Bo ((B w).toList == (B ([109,97,114,107])).toList):Value)=Bo (w == [109,97,114,107]) by simp only [Qj]) (Jk (w == [109,97,114,107]) (fun h12=>?_) (fun h12=>?_)))
 refine Qx [0,3] [] [[Sg b1 0 [I 0,Fv 89 #[]]]] (Jl (Jt (Jh (Jm [0] [.agg #[I 0,Fv 89 #[]]] (bpx (Jy [] (Jp.le_refl _) ?_))))))
 subst h12;exact ⟨by decide,rfl,rfl⟩
 refine Jo (JM (Jb (Je (Jc (QJ (Ls:=[]) (Lr:=[[Sg b1 0 [I 0,.nilFunc]]]) 40 hT ((Z6 G 1).frame) (fun v G1 L1 hl1 hp=>?_) (fun v G1 L1 hl1 hp=>?_))))))
 obtain ⟨_,rfl,rfl⟩:=hp
 exact KJ (ZR (JcZ [] hl1 (⟨by unfold KH cmdT;simp only [List.findIdx_cons];simp_all,rfl,rfl⟩)))
 obtain ⟨he1,rfl,rfl⟩:=hp
 exact absurd he1 (by decide)
abbrev Jcr (s:KC):=JB s ([]:List Qc)
theorem Jjp (G:Jp) (b:Nat) (t:KO) (a_0:Option Addr) (c_0:Nat) (a_1:Option Addr) (c_1:Nat) (a_9:Option Addr) (c_9:Nat) (r_9:List Kg) (h_0:RS ES G a_0 c_0 t.setup.names) (h_1:RS EU G a_1 c_1 t.setup.keys) (h_2:rI t.setup.most) (h_3:rI t.setup.batch) (h_4:rI t.setup.every) (h_5:rI t.setup.least) (h_6:rI t.setup.top) (h_7:rI t.setup.lost) (h_8:rI t.setup.reach) (h_9:J0 WW G a_9 c_9 t.deeds r_9) (vs_s:List Value) (s:KC) (h_s:JjT.R G vs_s s) (ht:t.deeds.length≤200):YP Tryz.prog 135 #[Pt b 0,.agg vs_s.toArray] G [[Sg b 0 [Sl a_0 t.setup.names.length c_0,Sl a_1 t.setup.keys.length c_1,I t.setup.most,I t.setup.batch,I t.setup.every,I t.setup.least,I t.setup.top,I t.setup.lost,I t.setup.reach,Sl a_9 t.deeds.length c_9]],r_9] (fun u G' L'=>((Zx t s).2=0)∧∃ (az1:Option Addr) (cz2:Nat) (az3:Option Addr) (cz4:Nat) (az5:Option Addr) (cz6:Nat) (az7:Option Addr) (cz8:Nat) (rz9:List Kg),u=Sl az1 (([]:List (List UInt8)).length) cz2∧(RS ES G' az1 cz2 ([]:List (List UInt8)))∧(RS ES G' az3 cz4 (((Zx t s).1).setup.names))∧(RS EU G' az5 cz6 (((Zx t s).1).setup.keys))∧(rI (((Zx t s).1).setup.most))∧(rI (((Zx t s).1).setup.batch))∧(rI (((Zx t s).1).setup.every))∧(rI (((Zx t s).1).setup.least))∧(rI (((Zx t s).1).setup.top))∧(rI (((Zx t s).1).setup.lost))∧(rI (((Zx t s).1).setup.reach))∧(J0 WW G' az7 cz8 (((Zx t s).1).deeds) rz9)∧L'=[[Sg b 0 [Sl az3 ((((Zx t s).1).setup.names).length) cz4,Sl az5 ((((Zx t s).1).setup.keys).length) cz6,I (((Zx t s).1).setup.most),I (((Zx t s).1).setup.batch),I (((Zx t s).1).setup.every),I (((Zx t s).1).setup.least),I (((Zx t s).1).setup.top),I (((Zx t s).1).setup.lost),I (((Zx t s).1).setup.reach),Sl az7 ((((Zx t s).1).deeds).length) cz8]],rz9]) (fun u _ L'=>(¬ (Zx t s).2=0)∧u=JaB ((Zx t s).2)∧L'=[[Sg b 0 [Sl a_0 t.setup.names.length c_0,Sl a_1 t.setup.keys.length c_1,I t.setup.most,I t.setup.batch,I t.setup.every,I t.setup.least,I t.setup.top,I t.setup.lost,I t.setup.reach,Sl a_9 t.deeds.length c_9]],r_9]):=by
 obtain ⟨a1,c1,a2,c2,rfl,hs1,hs2,w1,w2,w3,w4,w5,w6,w7⟩:=h_s
 intro Lr
 refine YM Tryz.func135 27 [(0,Pt b 0),(1,(Jag s a1 c1 a2 c2))] rfl (fun w0 G0 hT=>?_)
 show TC _ _ _ _ _ ([Sg b 0 (KK t a_0 c_0 a_1 c_1 a_9 c_9)]::r_9::Lr)
 refine Je (Jc (Jv 3 #[Sl a1 s.names.length c1,Sl a2 s.keys.length c2,I s.most,I s.batch,I s.every,I s.least,I s.top,I s.lost,I s.reach] 72 (fun b1=>Ja [0] [] (Jd (Jb (Je (Jf [0,0,0,4,0,0] [(13,Bo (decide ((t.deeds.length:Int) > 0)))] (Jk (decide ((t.deeds.length:Int) > 0)) (fun h1=>?_) (fun h1=>?_)))))))))
 refine Jc (QJ (Ls:=[]) (Lr:=([Sg b1 0 (W6 s a1 c1 a2 c2)]::[Sg b 0 (KK t a_0 c_0 a_1 c_1 a_9 c_9)]::r_9::Lr)) 14 hT ((Z6 G 9).frame) (fun v G1 L1 hl1 hp=>?_) (fun v G1 L1 hl1 hp=>?_))
 obtain ⟨hne1,rfl,rfl⟩:=hp
 refine KJ ?_
 have hp1:(Zx t s).2=9:=by
  exact JmO (by omega)
 refine ZR (Zp (Lr:=Lr) [[Sg b 0 (KK t a_0 c_0 a_1 c_1 a_9 c_9)],r_9] hl1 ?_)
 rw [hp1];exact ⟨hne1,rfl,rfl⟩
 obtain ⟨he1,rfl,rfl⟩:=hp
 exact absurd he1 (by decide)
 refine Jo (Jb (Je (Jc (Ja [2] [(16,(Jag s a1 c1 a2 c2))] (JjK (Jx 0 (Qn (Ls:=[[]]) (Lr:=([Sg b1 0 (W6 s a1 c1 a2 c2)]::[Sg b 0 (KK t a_0 c_0 a_1 c_1 a_9 c_9)]::r_9::Lr)) 17 (Jd8 G (W6 s a1 c1 a2 c2) s (⟨a1,c1,a2,c2,rfl,hs1,hs2,w1,w2,w3,w4,w5,w6,w7⟩) none 0 ([]:List Qc) ([]) (J0.none WW _)) (fun v G2 L1 hl2 hp=>?_))))))))
 obtain ⟨a3,c3,a4,c4,a5,c5,a6,c6,a7,c7,a8,c8,a9,c9,rfl,_,_,_,_,_,_,_,_,_,_,_,_,rfl⟩:=hp
 refine Ja [0,0,0,0] [(18,(Jaw (Jcr s).1 a3 c3 a4 c4 a5 c5 a6 c6 a7 c7 a8 c8)),(19,Sl a9 (((Jcr s).2.1).length) c9),(20,I ((Jcr s).2.2))] (Jv 5 #[I 0,Sl none 0 0,I 0,I 0,I 0,Sl none 0 0,Sl none 0 0,Sl none 0 0,Sl none 0 0,I 0,Sl none 0 0] 67 (fun b2=>JV [3,0,0] [(7,I ((Jcr s).2.2))] ([Sg b2 0 (VP (Jcr s).1 a3 c3 a4 c4 a5 c5 a6 c6 a7 c7 a8 c8)]::[]::[Sg b1 0 (W6 s a1 c1 a2 c2)]::[Sg b 0 (KK t a_0 c_0 a_1 c_1 a_9 c_9)]::r_9::Lr) (Jd (Jb (Je (Jc (Ja [0] [(21,I ((Jcr s).2.2))] (QJ (Ls:=[]) (Lr:=([Sg b2 0 (VP (Jcr s).1 a3 c3 a4 c4 a5 c5 a6 c6 a7 c7 a8 c8)]::[]::[Sg b1 0 (W6 s a1 c1 a2 c2)]::[Sg b 0 (KK t a_0 c_0 a_1 c_1 a_9 c_9)]::r_9::Lr)) 22 hT ((Z6 G2 ((Jcr s).2.2)).frame) (fun v G3 L1 hl3 hp=>?_) (fun v G3 L1 hl3 hp=>?_)))))))))
 obtain ⟨hne2,rfl,rfl⟩:=hp
 refine KJ ?_
 have hp3:(Zx t s).2=(Jcr s).2.2:=by
  exact JoG J7 ‹_›
 refine ZR (Zp (Lr:=Lr) [[Sg b 0 (KK t a_0 c_0 a_1 c_1 a_9 c_9)],r_9] (Jp.le_trans hl2 hl3) ?_)
 rw [hp3];exact ⟨hne2,rfl,rfl⟩
 obtain ⟨_,rfl,rfl⟩:=hp
 refine Jd (Jb (Qx [0,6,0,0,9] [] ([Sg b2 0 (VP (Jcr s).1 a3 c3 a4 c4 a5 c5 a6 c6 a7 c7 a8 c8)]::[]::[Sg b1 0 (W6 s a1 c1 a2 c2)]::[Sg b 0 (KK (⟨s,t.deeds⟩:KO) a1 c1 a2 c2 a_9 c_9)]::r_9::Lr) (Jf [0] [(4,Sl none 0 0)] (Jl (Ji 4 (Ji 4 ?_))))))
 have hf1:(Zx t s).2=0∧([]:List (List UInt8))=[]∧(Zx t s).1=(⟨s,t.deeds⟩:KO):=by
  exact ⟨(JlA J7 ‹_›).1,rfl,(JlA J7 ‹_›).2⟩
 refine Jm [0] [Sl none 0 0] (bpx (KQ (Lr:=Lr) [[Sg b 0 (KK (⟨s,t.deeds⟩:KO) a1 c1 a2 c2 a_9 c_9)],r_9] (Jp.le_trans hl2 hl3) ?_))
 rw [hf1.2.1,hf1.2.2]
 try dsimp only
 exact ⟨hf1.1,none,0,a1,c1,a2,c2,a_9,c_9,r_9,rfl,(RS.nil' ES G3),(hs1.mono (Jp.le_trans hl2 hl3)),(hs2.mono (Jp.le_trans hl2 hl3)),w1,w2,w3,w4,w5,w6,w7,(h_9.mono (Jp.le_trans hl2 hl3)),rfl⟩
theorem Jjq (G:Jp) (b:Nat) (t:KO) (a_0:Option Addr) (c_0:Nat) (a_1:Option Addr) (c_1:Nat) (a_9:Option Addr) (c_9:Nat) (r_9:List Kg) (h_0:RS ES G a_0 c_0 t.setup.names) (h_1:RS EU G a_1 c_1 t.setup.keys) (h_2:rI t.setup.most) (h_3:rI t.setup.batch) (h_4:rI t.setup.every) (h_5:rI t.setup.least) (h_6:rI t.setup.top) (h_7:rI t.setup.lost) (h_8:rI t.setup.reach) (h_9:J0 WW G a_9 c_9 t.deeds r_9) (a_l:Option Addr) (c_l:Nat) (l:List Qc) (h_l:RS WW G a_l c_l l) (ht:t.deeds.length≤200) (hl:l.length≤1048577):YP Tryz.prog 138 #[Pt b 0,Sl a_l l.length c_l] G [[Sg b 0 [Sl a_0 t.setup.names.length c_0,Sl a_1 t.setup.keys.length c_1,I t.setup.most,I t.setup.batch,I t.setup.every,I t.setup.least,I t.setup.top,I t.setup.lost,I t.setup.reach,Sl a_9 t.deeds.length c_9]],r_9] (fun u G' L'=>((ZO t l).2=0)∧∃ (az1:Option Addr) (cz2:Nat) (az3:Option Addr) (cz4:Nat) (az5:Option Addr) (cz6:Nat) (az7:Option Addr) (cz8:Nat) (rz9:List Kg),u=Sl az1 (([]:List (List UInt8)).length) cz2∧(RS ES G' az1 cz2 ([]:List (List UInt8)))∧(RS ES G' az3 cz4 (((ZO t l).1).setup.names))∧(RS EU G' az5 cz6 (((ZO t l).1).setup.keys))∧(rI (((ZO t l).1).setup.most))∧(rI (((ZO t l).1).setup.batch))∧(rI (((ZO t l).1).setup.every))∧(rI (((ZO t l).1).setup.least))∧(rI (((ZO t l).1).setup.top))∧(rI (((ZO t l).1).setup.lost))∧(rI (((ZO t l).1).setup.reach))∧(J0 WW G' az7 cz8 (((ZO t l).1).deeds) rz9)∧L'=[[Sg b 0 [Sl az3 ((((ZO t l).1).setup.names).length) cz4,Sl az5 ((((ZO t l).1).setup.keys).length) cz6,I (((ZO t l).1).setup.most),I (((ZO t l).1).setup.batch),I (((ZO t l).1).setup.every),I (((ZO t l).1).setup.least),I (((ZO t l).1).setup.top),I (((ZO t l).1).setup.lost),I (((ZO t l).1).setup.reach),Sl az7 ((((ZO t l).1).deeds).length) cz8]],rz9]) (fun u _ L'=>(¬ (ZO t l).2=0)∧u=JaB ((ZO t l).2)∧L'=[[Sg b 0 [Sl a_0 t.setup.names.length c_0,Sl a_1 t.setup.keys.length c_1,I t.setup.most,I t.setup.batch,I t.setup.every,I t.setup.least,I t.setup.top,I t.setup.lost,I t.setup.reach,Sl a_9 t.deeds.length c_9]],r_9]):=by
 intro Lr
 refine YM Tryz.func138 24 [(0,Pt b 0),(1,Sl a_l l.length c_l)] rfl (fun w0 G0 hT=>?_)
 show TC _ _ _ _ _ ([Sg b 0 (KK t a_0 c_0 a_1 c_1 a_9 c_9)]::r_9::Lr)
 refine Jf [0] [] (Je (Jf [0,0,0,0,0,2,0,0,0] [(13,Bo (decide ((l.length:Int) > IntKind.i64.wrap (200-(t.deeds.length:Int)))))] ?_))
 have e1:IntKind.i64.wrap (200-(t.deeds.length:Int))=200-(t.deeds.length:Int):=IntWalk.i64_in _ (by omega)
 refine QX 13 (Bo (decide ((l.length:Int) > 200-(t.deeds.length:Int)))) (show (Bo (decide ((l.length:Int) > IntKind.i64.wrap (200-(t.deeds.length:Int)))):Value)=Bo (decide ((l.length:Int) > 200-(t.deeds.length:Int))) by simp only [e1]) ?_
 clear e1
 refine Jk (decide ((l.length:Int) > 200-(t.deeds.length:Int))) (fun h1=>?_) (fun h1=>?_)
 refine Jc (QJ (Ls:=[]) (Lr:=([Sg b 0 (KK t a_0 c_0 a_1 c_1 a_9 c_9)]::r_9::Lr)) 14 hT ((Z6 G 2).frame) (fun v G1 L1 hl1 hp=>?_) (fun v G1 L1 hl1 hp=>?_))
 obtain ⟨hne1,rfl,rfl⟩:=hp
 refine KJ ?_
 have hp1:(ZO t l).2=2:=by
  exact JoH (by omega)
 refine ZR (Zp (Lr:=Lr) [[Sg b 0 (KK t a_0 c_0 a_1 c_1 a_9 c_9)],r_9] hl1 ?_)
 rw [hp1];exact ⟨hne1,rfl,rfl⟩
 obtain ⟨he1,rfl,rfl⟩:=hp
 exact absurd he1 (by decide)
 refine Jo (Jb (Je (Jc (Ja [0,0,0,0,2,0] [(15,Pt b 0),(19,Sl a_9 t.deeds.length c_9),(20,Sl a_l l.length c_l)] (JaT 21 53 1 (E:=WW) h_9 h_l J7 (by simp only [WW];omega) (fun a1 c1 r1 hr1=>JV [0,0,3] [] ([Sg b 0 (KK (⟨t.setup,(t.deeds++l)⟩:KO) a_0 c_0 a_1 c_1 a1 c1)]::r1::Lr) (Jd (Jb (Jf [0] [(4,Sl none 0 0)] (Jl (Ji 1 (Ji 1 ?_))))))))))))
 have hf1:(ZO t l).2=0∧([]:List (List UInt8))=[]∧(ZO t l).1=(⟨t.setup,t.deeds++l⟩:KO):=by
  exact ⟨(JlB J7).1,rfl,(JlB J7).2⟩
 refine Jm [0] [Sl none 0 0] (bpx (KQ (Lr:=Lr) [[Sg b 0 (KK (⟨t.setup,(t.deeds++l)⟩:KO) a_0 c_0 a_1 c_1 a1 c1)],r1] (Jp.le_refl _) ?_))
 rw [hf1.2.1,hf1.2.2]
 try dsimp only
 exact ⟨hf1.1,none,0,a_0,c_0,a_1,c_1,a1,c1,r1,rfl,(RS.nil' ES G),h_0,h_1,‹_›,‹_›,‹_›,‹_›,‹_›,‹_›,‹_›,hr1,rfl⟩
def nth (l:List Int) (i:Nat):Int:=l[i]?.getD 0
def VM (l:List (List UInt8)) (i:Nat):List UInt8:=l[i]?.getD []
theorem Ws {l:List (List UInt8)} {i:Nat} {x:List UInt8} (h:l[i]? = some x):x=VM l i:=by unfold VM;rw [h];rfl
def JlC (t:KO) (w:List (List UInt8)) (f:List Int→KC):KO×Int:=if ¬ (Jds w).2=0 then (t,(Jds w).2) else Zx t (f (Jds w).1)
def sClerk (s:KC) (n:List Int):KC:=⟨s.names,s.keys,nth n 0,nth n 1,nth n 2,s.least,s.top,s.lost,s.reach⟩
def sPolls (s:KC) (n:List Int):KC:=⟨s.names,s.keys,s.most,s.batch,s.every,nth n 0,nth n 1,nth n 2,s.reach⟩
def JoJ (s:KC) (n:Int):KC:=⟨s.names,s.keys,s.most,s.batch,s.every,s.least,s.top,s.lost,n⟩
def JoK (t:KO) (w:List (List UInt8)):KO×Int:=JlC t w (sClerk t.setup)
def JoL (t:KO) (w:List (List UInt8)):KO×Int:=JlC t w (sPolls t.setup)
def JkC (t:KO) (w:List (List UInt8)):KO×Int:=if ¬ (Kk (VM w 0)).2=0 then (t,(Kk (VM w 0)).2) else Zx t (JoJ t.setup (Kk (VM w 0)).1)
abbrev letZ:JS:=⟨0,0,0,0,[],⟨⟨0,0,0,0⟩,⟨[],[],[]⟩⟩⟩
def Wo (t:KO) (w:List (List UInt8)):KO×Int:=if ¬ (Kk (VM w 1)).2=0 then (t,(Kk (VM w 1)).2) else Zx t ⟨t.setup.names++[VM w 0],t.setup.keys++[(Kk (VM w 1)).1],t.setup.most,t.setup.batch,t.setup.every,t.setup.least,t.setup.top,t.setup.lost,t.setup.reach⟩
def Zk (t:KO) (w:List (List UInt8)):KO×Int:=if ¬ (Kk (VM w 0)).2=0 then (t,(Kk (VM w 0)).2) else ZO t [⟨1,(Kk (VM w 0)).1,VM w 1,[],letZ⟩]
def JoM (t:KO) (w:List (List UInt8)):KO×Int:=if ¬ (Jds w).2=0 then (t,(Jds w).2) else ZO t [⟨2,0,[],(Jds w).1,letZ⟩]
def Zl (t:KO) (w:List (List UInt8)):KO×Int:=if ¬ (Kk (VM w 0)).2=0 then (t,(Kk (VM w 0)).2) else ZO t (List.replicate (if 201<(Kk (VM w 0)).1 then 201 else (Kk (VM w 0)).1).toNat ⟨4,0,[],[],letZ⟩)
theorem JfV {t:KO} {w:List (List UInt8)} {y:List UInt8} (h:w[1]? = some y) (he:¬ (Kk y).2=0):(Wo t w).2=(Kk y).2:=by unfold Wo;rw [← Ws h,if_pos he]
theorem Jb6 {t:KO} {w:List (List UInt8)} {x y:List UInt8} (h:w[1]? = some y) (h0:w[0]? = some x) (he:(Kk y).2=0):Wo t w=Zx t ⟨t.setup.names++[x],t.setup.keys++[(Kk y).1],t.setup.most,t.setup.batch,t.setup.every,t.setup.least,t.setup.top,t.setup.lost,t.setup.reach⟩:=by unfold Wo;rw [← Ws h,← Ws h0,if_neg (by omega)]
theorem JmP {t:KO} {w:List (List UInt8)} {y:List UInt8} (h:w[0]? = some y) (he:¬ (Kk y).2=0):(Zk t w).2=(Kk y).2:=by unfold Zk;rw [← Ws h,if_pos he]
theorem Jjr {t:KO} {w:List (List UInt8)} {x y:List UInt8} (h:w[0]? = some y) (h0:w[1]? = some x) (he:(Kk y).2=0):Zk t w=ZO t [⟨1,(Kk y).1,x,[],letZ⟩]:=by unfold Zk;rw [← Ws h,← Ws h0,if_neg (by omega)]
theorem JmQ {t:KO} {w:List (List UInt8)} {y:List UInt8} (h:w[0]? = some y) (he:¬ (Kk y).2=0):(Zl t w).2=(Kk y).2:=by unfold Zl;rw [← Ws h,if_pos he]
theorem Jjs {t:KO} {w:List (List UInt8)} {y:List UInt8} {k:Nat} (h:w[0]? = some y) (he:(Kk y).2=0) (hk:(if 201<(Kk y).1 then 201 else (Kk y).1)=(k:Int)):Zl t w=ZO t (List.replicate k ⟨4,0,[],[],letZ⟩):=by unfold Zl;rw [← Ws h,if_neg (by omega),hk];rfl
set_option maxRecDepth 20000 in
theorem JkD (G:Jp) (b:Nat) (t:KO) (a_0:Option Addr) (c_0:Nat) (a_1:Option Addr) (c_1:Nat) (a_9:Option Addr) (c_9:Nat) (r_9:List Kg) (h_0:RS ES G a_0 c_0 t.setup.names) (h_1:RS EU G a_1 c_1 t.setup.keys) (h_2:rI t.setup.most) (h_3:rI t.setup.batch) (h_4:rI t.setup.every) (h_5:rI t.setup.least) (h_6:rI t.setup.top) (h_7:rI t.setup.lost) (h_8:rI t.setup.reach) (h_9:J0 WW G a_9 c_9 t.deeds r_9) (a_w:Option Addr) (c_w:Nat) (w:List (List UInt8)) (h_w:RS ES G a_w c_w w) (hw:w.length=2) (hs:∀ s∈w,s.length≤1048576) (ht:t.deeds.length≤200) (hn:t.setup.names.length≤1000) (hk:t.setup.keys.length≤1000):YP Tryz.prog 81 #[Pt b 0,Sl a_w w.length c_w] G [[Sg b 0 [Sl a_0 t.setup.names.length c_0,Sl a_1 t.setup.keys.length c_1,I t.setup.most,I t.setup.batch,I t.setup.every,I t.setup.least,I t.setup.top,I t.setup.lost,I t.setup.reach,Sl a_9 t.deeds.length c_9]],r_9] (fun u G' L'=>((Wo t w).2=0)∧∃ (az1:Option Addr) (cz2:Nat) (az3:Option Addr) (cz4:Nat) (az5:Option Addr) (cz6:Nat) (az7:Option Addr) (cz8:Nat) (rz9:List Kg),u=Sl az1 (([]:List (List UInt8)).length) cz2∧(RS ES G' az1 cz2 ([]:List (List UInt8)))∧(RS ES G' az3 cz4 (((Wo t w).1).setup.names))∧(RS EU G' az5 cz6 (((Wo t w).1).setup.keys))∧(rI (((Wo t w).1).setup.most))∧(rI (((Wo t w).1).setup.batch))∧(rI (((Wo t w).1).setup.every))∧(rI (((Wo t w).1).setup.least))∧(rI (((Wo t w).1).setup.top))∧(rI (((Wo t w).1).setup.lost))∧(rI (((Wo t w).1).setup.reach))∧(J0 WW G' az7 cz8 (((Wo t w).1).deeds) rz9)∧L'=[[Sg b 0 [Sl az3 ((((Wo t w).1).setup.names).length) cz4,Sl az5 ((((Wo t w).1).setup.keys).length) cz6,I (((Wo t w).1).setup.most),I (((Wo t w).1).setup.batch),I (((Wo t w).1).setup.every),I (((Wo t w).1).setup.least),I (((Wo t w).1).setup.top),I (((Wo t w).1).setup.lost),I (((Wo t w).1).setup.reach),Sl az7 ((((Wo t w).1).deeds).length) cz8]],rz9]) (fun u _ L'=>(¬ (Wo t w).2=0)∧u=JaB ((Wo t w).2)∧L'=[[Sg b 0 [Sl a_0 t.setup.names.length c_0,Sl a_1 t.setup.keys.length c_1,I t.setup.most,I t.setup.batch,I t.setup.every,I t.setup.least,I t.setup.top,I t.setup.lost,I t.setup.reach,Sl a_9 t.deeds.length c_9]],r_9]):=by
 intro Lr
 refine YM Tryz.func81 35 [(0,Pt b 0),(1,Sl a_w w.length c_w)] rfl (fun w0 G0 hT=>?_)
 show TC _ _ _ _ _ ([Sg b 0 (KK t a_0 c_0 a_1 c_1 a_9 c_9)]::r_9::Lr)
 refine Jf [0] [] ?_
 obtain ⟨b1,o1,rfl⟩:=RS.addr h_w (k:=1) (by omega)
 obtain ⟨x1,hx1⟩:=We (l:=w) (k:=1) (by omega)
 obtain ⟨_,⟨rfl,_⟩,hc1⟩:=RS.get h_w hx1
 refine Yv (σ:=Nat×Jp) (fun q_=>(Jp.le G q_.2)∧((Kk x1).2=0)) (fun q_=>[(0,Pt b 0),(1,Sl (At b1 o1) w.length c_w),(5,I ((Kk x1).1)),(6,Pt q_.1 0)]) (fun q_=>q_.2) (fun q_=>([Sg q_.1 0 (W6 t.setup a_0 c_0 a_1 c_1)]::[Sg b 0 (KK t a_0 c_0 a_1 c_1 a_9 c_9)]::r_9::Lr)) ?_ (fun q_ hs=>?_)
 refine Ko [3,8,10] (Wm [(0,Sl (At b1 o1) w.length c_w),(1,Pt b1 (o1+1*1)),(2,Sr x1),(4,Pt b 0),(5,Pt b 0),(6,Pt b 0),(7,(Jag t.setup a_0 c_0 a_1 c_1))] (JK [] [(0,0),(4,0),(5,0),(6,0),(7,2)] [1,2] [3,8] (Ke ?_ (Ke ?_ K4)) (Ke ?_ (Ke ?_ K4))))
 refine Jr 1 8 (Pt b1 (o1+1*1)) [(7,Sl (At b1 o1) w.length c_w)] (fun X=>?_)
 exact J3 (b:=b1) (off:=o1) (len:=w.length) (cap:=c_w) (ik:=.i64) 8 9 1 1 J7 Jn
 refine Jr 2 9 (Sr x1) [(8,Pt b1 (o1+1*1))] (fun X=>?_)
 exact JW 9 9 (cs:=[Sr x1]) 0 (Sr x1) hc1 Jn
 refine JD 3 [(9,Sr x1)] (fun X=>?_)
 refine QJ (Ls:=[]) (Lr:=([Sg b 0 (KK t a_0 c_0 a_1 c_1 a_9 c_9)]::r_9::Lr)) 10 hT ((VK G x1 (by have q_:=hs _ (List.mem_of_getElem? hx1);omega)).frame) (fun v G1 L1 hl1 hp=>?_) (fun v G1 L1 hl1 hp=>?_)
 obtain ⟨hne1,rfl,rfl⟩:=hp
 refine KJ (KJ ?_)
 have hp1:(Wo t w).2=(Kk x1).2:=by
  exact JfV ‹_› ‹_›
 refine ZR (Zp (Lr:=Lr) [[Sg b 0 (KK t a_0 c_0 a_1 c_1 a_9 c_9)],r_9] hl1 ?_)
 rw [hp1];exact ⟨hne1,rfl,rfl⟩
 obtain ⟨he2,rfl,rfl⟩:=hp
 refine JC [(3,I ((Kk x1).1))] (JK [0,1,2] [(4,0),(5,0),(6,0),(7,2)] [] [8] (List.forall_mem_nil _) (Ke ?_ K4))
 refine JD 8 [] (fun X=>?_)
 refine Jv 6 #[Sl none 0 0,Sl none 0 0,I 0,I 0,I 0,I 0,I 0,I 0,I 0] 72 (fun b2=>JC [(8,Pt b2 0),(9,I ((Kk x1).1))] (JK [0,1,2] [(4,0),(5,0),(6,0),(7,4),(9,0)] [] [10] (List.forall_mem_nil _) (Ke ?_ K4)))
 refine JD 10 [(6,Pt b2 0),(14,(Jag t.setup a_0 c_0 a_1 c_1))] (fun X=>?_)
 exact KL 0 ([Sg b2 0 (W6 t.setup a_0 c_0 a_1 c_1)]::[Sg b 0 (KK t a_0 c_0 a_1 c_1 a_9 c_9)]::r_9::Lr) (Kc [] (Km [0,1,2,4,5,6,7,9] [] [] [(0,Pt b 0),(1,Sl (At b1 o1) w.length c_w),(5,I ((Kk x1).1)),(6,Pt b2 0)] (List.forall_mem_nil _) (Wb (b2,G1) ⟨hl1,he2⟩)))
 refine JD 8 [] (fun X=>?_)
 refine Jv 6 #[Sl none 0 0,Sl none 0 0,I 0,I 0,I 0,I 0,I 0,I 0,I 0] 72 (fun b3=>JC [(8,Pt b3 0)] (JK [] [(0,0),(4,0),(5,0),(6,0),(7,4)] [1,2] [3] (Ke ?_ (Ke ?_ K4)) (Ke ?_ K4)))
 refine Jr 1 8 (Pt b1 (o1+1*1)) [(7,Sl (At b1 o1) w.length c_w)] (fun X=>?_)
 exact J3 (b:=b1) (off:=o1) (len:=w.length) (cap:=c_w) (ik:=.i64) 8 9 1 1 J7 Jn
 refine Jr 2 9 (Sr x1) [(8,Pt b1 (o1+1*1))] (fun X=>?_)
 exact JW 9 9 (cs:=[Sr x1]) 0 (Sr x1) hc1 Jn
 refine JD 3 [(9,Sr x1)] (fun X=>?_)
 refine QJ (Ls:=[]) (Lr:=([Sg b3 0 [Sl none 0 0,Sl none 0 0,I 0,I 0,I 0,I 0,I 0,I 0,I 0]]::[Sg b 0 (KK t a_0 c_0 a_1 c_1 a_9 c_9)]::r_9::Lr)) 10 hT ((VK G x1 (by have q_:=hs _ (List.mem_of_getElem? hx1);omega)).frame) (fun v G2 L1 hl2 hp=>?_) (fun v G2 L1 hl2 hp=>?_)
 obtain ⟨hne2,rfl,rfl⟩:=hp
 refine KJ (KJ ?_)
 have hp3:(Wo t w).2=(Kk x1).2:=by
  exact JfV ‹_› ‹_›
 refine ZR (Zp (Lr:=Lr) [[Sg b 0 (KK t a_0 c_0 a_1 c_1 a_9 c_9)],r_9] hl2 ?_)
 rw [hp3];exact ⟨hne2,rfl,rfl⟩
 obtain ⟨he3,rfl,rfl⟩:=hp
 refine JC [(3,I ((Kk x1).1)),(9,I ((Kk x1).1))] (JK [0,1,2] [(4,0),(5,0),(6,0),(7,4),(9,0)] [] [10] (List.forall_mem_nil _) (Ke ?_ K4))
 refine JD 10 [(6,Pt b3 0),(14,(Jag t.setup a_0 c_0 a_1 c_1))] (fun X=>?_)
 exact KL 0 ([Sg b3 0 (W6 t.setup a_0 c_0 a_1 c_1)]::[Sg b 0 (KK t a_0 c_0 a_1 c_1 a_9 c_9)]::r_9::Lr) (Kc [] (Km [0,1,2,4,5,6,7,9] [] [] [(0,Pt b 0),(1,Sl (At b1 o1) w.length c_w),(5,I ((Kk x1).1)),(6,Pt b3 0)] (List.forall_mem_nil _) (Wb (b3,G2) ⟨hl2,he3⟩)))
 obtain ⟨b2,G1⟩:=q_
 obtain ⟨hle1,he1⟩:=hs
 dsimp only at hle1 he1
 dsimp only
 refine Je ?_
 obtain ⟨x2,hx2⟩:=We (l:=w) (k:=0) (by omega)
 obtain ⟨_,⟨rfl,w2⟩,hc2⟩:=RS.get (h_w.mono hle1) hx2
 refine Ko [2,6,7,9] (Wm [(0,Pt b2 0),(1,Sl a_0 t.setup.names.length c_0),(3,Sl (At b1 o1) w.length c_w),(4,Pt b1 (o1+0*1)),(5,Sr x2)] (JK [] [(0,0),(1,2),(3,0)] [4,5] [2,6] (Ke ?_ (Ke ?_ K4)) (Ke ?_ (Ke ?_ K4))))
 refine Jr 4 19 (Pt b1 (o1+0*1)) [(18,Sl (At b1 o1) w.length c_w)] (fun X=>?_)
 exact J3 (b:=b1) (off:=o1) (len:=w.length) (cap:=c_w) (ik:=.i64) 19 9 1 0 J7 Jn
 refine Jr 5 20 (Sr x2) [(19,Pt b1 (o1+0*1))] (fun X=>?_)
 exact JW 20 9 (cs:=[Sr x2]) 0 (Sr x2) hc2 Jn
 refine JD 2 [(16,Sl a_0 t.setup.names.length c_0)] (fun X=>?_)
 refine JF 17 (JbZ G1 a_0 c_0 t.setup.names (h_0.mono hle1)) (fun v G3 L1 hl3 hp=>?_)
 obtain ⟨a1,c1,_,rfl,hr1,rfl⟩:=hp
 refine JC [(2,Sl a1 t.setup.names.length c1)] (JK [0,1] [(3,0)] [4,5] [6] (Ke ?_ (Ke ?_ K4)) (Ke ?_ K4))
 refine Jr 4 19 (Pt b1 (o1+0*1)) [(18,Sl (At b1 o1) w.length c_w)] (fun X=>?_)
 exact J3 (b:=b1) (off:=o1) (len:=w.length) (cap:=c_w) (ik:=.i64) 19 9 1 0 J7 Jn
 refine Jr 5 20 (Sr x2) [(19,Pt b1 (o1+0*1))] (fun X=>?_)
 exact JW 20 9 (cs:=[Sr x2]) 0 (Sr x2) (fun j v hv=>hl3 _ _ _ (hc2 j v hv)) Jn
 refine JD 6 [(20,Sr x2)] (fun X=>?_)
 refine Kq 21 1 #[Sr x2] 9 (fun b4=>JC [(6,Sl (At b4 0) 1 1)] (JK [0,1,3,4,5] [] [] [7] (List.forall_mem_nil _) (Ke ?_ K4)))
 refine JD 7 [(17,Sl a1 t.setup.names.length c1),(21,Sl (At b4 0) 1 1)] (fun X=>?_)
 refine Qv (b:=b4) (cs:=[Sr x2]) 22 9 1 0 (E:=ES) x2 hr1 ⟨rfl,w2⟩ (by (try simp only [List.length_append,List.length_cons,List.length_nil]);omega) (by (try simp only [ES,List.length_append,List.length_cons,List.length_nil]);omega) (fun a2 c2 r2 hr2=>JC [(7,Sl a2 ((t.setup.names++[x2]).length) c2),(8,Pt b2 0)] (JK [0,1,3,4,5] [(8,0)] [] [9] (List.forall_mem_nil _) (Ke ?_ K4)))
 refine JD 9 [(22,Sl a2 ((t.setup.names++[x2]).length) c2),(23,Pt b2 0)] (fun X=>?_)
 refine KL 2 ([Sg b4 0 [Sr x2]]::r2::[Sg b2 0 [Sl a2 ((t.setup.names++[x2]).length) c2,Sl a_1 t.setup.keys.length c_1,I t.setup.most,I t.setup.batch,I t.setup.every,I t.setup.least,I t.setup.top,I t.setup.lost,I t.setup.reach]]::[Sg b 0 (KK t a_0 c_0 a_1 c_1 a_9 c_9)]::r_9::Lr) (Kc [] (Km [0,1,3,4,5,8] [] [] [(0,Pt b 0),(5,I ((Kk x1).1)),(6,Pt b2 0)] (List.forall_mem_nil _) (Jb (Je (Jc (Ja [0,6] [(25,Sl a_1 t.setup.keys.length c_1)] (JF 26 (JdO G3 a_1 c_1 t.setup.keys (h_1.mono (Jp.le_trans hle1 hl3))) (fun v G4 L1 hl4 hp=>?_))))))))
 obtain ⟨_,_,_,rfl,hr3,rfl⟩:=hp
 refine Ja [0,0] [(28,U (IntKind.u64.wrap ((Kk x1).1)))] (JaN 28 ((Kk x1).1) (by have q_:=Vr x1;omega) (Kq 29 1 #[U ((Kk x1).1)] 41 (fun b5=>Qv (b:=b5) (cs:=[U ((Kk x1).1)]) 30 41 1 0 (E:=EU) ((Kk x1).1) hr3 ⟨rfl,(by have q_:=Vr x1;omega)⟩ (by (try simp only [List.length_append,List.length_cons,List.length_nil]);omega) (by (try simp only [EU,List.length_append,List.length_cons,List.length_nil]);omega) (fun a4 c4 r4 hr4=>JV [0,11] [] ([Sg b5 0 [U ((Kk x1).1)]]::r4::[Sg b4 0 [Sr x2]]::r2::[Sg b2 0 [Sl a2 ((t.setup.names++[x2]).length) c2,Sl a4 ((t.setup.keys++[(Kk x1).1]).length) c4,I t.setup.most,I t.setup.batch,I t.setup.every,I t.setup.least,I t.setup.top,I t.setup.lost,I t.setup.reach]]::[Sg b 0 (KK t a_0 c_0 a_1 c_1 a_9 c_9)]::r_9::Lr) (Jd (Jb (Je (Jc (Ja [0,10] [(32,Pt b 0),(33,.agg #[Sl a2 ((t.setup.names++[x2]).length) c2,Sl a4 ((t.setup.keys++[(Kk x1).1]).length) c4,I t.setup.most,I t.setup.batch,I t.setup.every,I t.setup.least,I t.setup.top,I t.setup.lost,I t.setup.reach])] (WJ (E:=ES) 3 (hr2.mono hl4) (by (try simp only [ES,EU,WW,EI,List.length_append,List.length_cons,List.length_nil]);omega) (fun G5 hl5 hs1=>WJ (E:=EU) 1 (hr4.mono hl5) (by (try simp only [ES,EU,WW,EI,List.length_append,List.length_cons,List.length_nil]);omega) (fun G6 hl6 hs2=>Jx 6 (Jx 6 (QJ (Ls:=[[Sg b 0 (KK t a_0 c_0 a_1 c_1 a_9 c_9)],r_9]) (Lr:=([Sg b5 0 [U ((Kk x1).1)]]::[]::[Sg b4 0 [Sr x2]]::[]::[Sg b2 0 [Sl a2 ((t.setup.names++[x2]).length) c2,Sl a4 ((t.setup.keys++[(Kk x1).1]).length) c4,I t.setup.most,I t.setup.batch,I t.setup.every,I t.setup.least,I t.setup.top,I t.setup.lost,I t.setup.reach]]::Lr)) 34 hT (Jjp G6 b t a_0 c_0 a_1 c_1 a_9 c_9 r_9 (h_0.mono (Jp.le_trans (Jp.le_trans (Jp.le_trans (Jp.le_trans hle1 hl3) hl4) hl5) hl6)) (h_1.mono (Jp.le_trans (Jp.le_trans (Jp.le_trans (Jp.le_trans hle1 hl3) hl4) hl5) hl6)) ‹_› ‹_› ‹_› ‹_› ‹_› ‹_› ‹_› (h_9.mono (Jp.le_trans (Jp.le_trans (Jp.le_trans (Jp.le_trans hle1 hl3) hl4) hl5) hl6)) [Sl a2 ((t.setup.names++[x2]).length) c2,Sl a4 ((t.setup.keys++[(Kk x1).1]).length) c4,I t.setup.most,I t.setup.batch,I t.setup.every,I t.setup.least,I t.setup.top,I t.setup.lost,I t.setup.reach] (⟨t.setup.names++[x2],t.setup.keys++[(Kk x1).1],t.setup.most,t.setup.batch,t.setup.every,t.setup.least,t.setup.top,t.setup.lost,t.setup.reach⟩:KC) (⟨a2,c2,a4,c4,rfl,(hs1.mono hl6),hs2,‹_›,‹_›,‹_›,‹_›,‹_›,‹_›,‹_›⟩) ‹_›) (fun v G7 L1 hl7 hp=>?_) (fun v G7 L1 hl7 hp=>?_)))))))))))))))
 obtain ⟨hne3,rfl,rfl⟩:=hp
 refine KJ ?_
 have hp5:(Wo t w).2=(Zx t (⟨t.setup.names++[x2],t.setup.keys++[(Kk x1).1],t.setup.most,t.setup.batch,t.setup.every,t.setup.least,t.setup.top,t.setup.lost,t.setup.reach⟩:KC)).2:=by
  rw [Jb6 (t:=t) (w:=w) ‹_› ‹_› ‹_›]
 refine ZR (Zp (Lr:=Lr) [[Sg b 0 (KK t a_0 c_0 a_1 c_1 a_9 c_9)],r_9] (Jp.le_trans (Jp.le_trans (Jp.le_trans (Jp.le_trans (Jp.le_trans hle1 hl3) hl4) hl5) hl6) hl7) ?_)
 rw [hp5];exact ⟨hne3,rfl,rfl⟩
 obtain ⟨_,a5,c5,a6,c6,a7,c7,a8,c8,r5,rfl,hs3,hs4,hs5,w3,w4,w5,w6,w7,w8,w9,hr5,rfl⟩:=hp
 refine Ja [0] [(4,Sl a5 (([]:List (List UInt8)).length) c5)] (Jd (Jb (Jl (Ji 1 (Ji 1 ?_)))))
 have hf1:(Wo t w).2=0∧([]:List (List UInt8))=([]:List (List UInt8))∧(Wo t w).1=((Zx t (⟨t.setup.names++[x2],t.setup.keys++[(Kk x1).1],t.setup.most,t.setup.batch,t.setup.every,t.setup.least,t.setup.top,t.setup.lost,t.setup.reach⟩:KC)).1):=by
  (rw [Jb6 (t:=t) (w:=w) ‹_› ‹_› ‹_›];exact ⟨by assumption,rfl,rfl⟩)
 refine Jm [0] [Sl a5 (([]:List (List UInt8)).length) c5] (bpx (KQ (Lr:=Lr) [[Sg b 0 (KK (Zx t (⟨t.setup.names++[x2],t.setup.keys++[(Kk x1).1],t.setup.most,t.setup.batch,t.setup.every,t.setup.least,t.setup.top,t.setup.lost,t.setup.reach⟩:KC)).1 a6 c6 a7 c7 a8 c8)],r5] (Jp.le_trans (Jp.le_trans (Jp.le_trans (Jp.le_trans (Jp.le_trans hle1 hl3) hl4) hl5) hl6) hl7) ?_))
 rw [hf1.2.1,hf1.2.2]
 try dsimp only
 exact ⟨hf1.1,a5,c5,a6,c6,a7,c7,a8,c8,r5,rfl,hs3,hs4,hs5,w3,w4,w5,w6,w7,w8,w9,hr5,rfl⟩
 refine JD 6 [(20,Sr x2)] (fun X=>?_)
 refine Kq 21 1 #[Sr x2] 9 (fun b6=>JC [(6,Sl (At b6 0) 1 1)] (JK [3,4,5] [(0,0),(1,4)] [] [2] (List.forall_mem_nil _) (Ke ?_ K4)))
 refine JD 2 [(16,Sl a_0 t.setup.names.length c_0)] (fun X=>?_)
 refine JF 17 (JbZ G1 a_0 c_0 t.setup.names (h_0.mono hle1)) (fun v G8 L1 hl8 hp=>?_)
 obtain ⟨a9,c9,_,rfl,hr6,rfl⟩:=hp
 refine JC [(2,Sl a9 t.setup.names.length c9)] (JK [0,1,3,4,5] [] [] [7] (List.forall_mem_nil _) (Ke ?_ K4))
 refine JD 7 [(17,Sl a9 t.setup.names.length c9),(21,Sl (At b6 0) 1 1)] (fun X=>?_)
 refine Qv (b:=b6) (cs:=[Sr x2]) 22 9 0 1 (E:=ES) x2 hr6 ⟨rfl,w2⟩ (by (try simp only [List.length_append,List.length_cons,List.length_nil]);omega) (by (try simp only [ES,List.length_append,List.length_cons,List.length_nil]);omega) (fun a10 c10 r7 hr7=>JC [(7,Sl a10 ((t.setup.names++[x2]).length) c10),(8,Pt b2 0)] (JK [0,1,3,4,5] [(8,0)] [] [9] (List.forall_mem_nil _) (Ke ?_ K4)))
 refine JD 9 [(22,Sl a10 ((t.setup.names++[x2]).length) c10),(23,Pt b2 0)] (fun X=>?_)
 refine KL 2 (r7::[Sg b6 0 [Sr x2]]::[Sg b2 0 [Sl a10 ((t.setup.names++[x2]).length) c10,Sl a_1 t.setup.keys.length c_1,I t.setup.most,I t.setup.batch,I t.setup.every,I t.setup.least,I t.setup.top,I t.setup.lost,I t.setup.reach]]::[Sg b 0 (KK t a_0 c_0 a_1 c_1 a_9 c_9)]::r_9::Lr) (Kc [] (Km [0,1,3,4,5,8] [] [] [(0,Pt b 0),(5,I ((Kk x1).1)),(6,Pt b2 0)] (List.forall_mem_nil _) (Jb (Je (Jc (Ja [0,6] [(25,Sl a_1 t.setup.keys.length c_1)] (JF 26 (JdO G8 a_1 c_1 t.setup.keys (h_1.mono (Jp.le_trans hle1 hl8))) (fun v G9 L1 hl9 hp=>?_))))))))
 obtain ⟨_,_,_,rfl,hr8,rfl⟩:=hp
 refine Ja [0,0] [(28,U (IntKind.u64.wrap ((Kk x1).1)))] (JaN 28 ((Kk x1).1) (by have q_:=Vr x1;omega) (Kq 29 1 #[U ((Kk x1).1)] 41 (fun b7=>Qv (b:=b7) (cs:=[U ((Kk x1).1)]) 30 41 1 0 (E:=EU) ((Kk x1).1) hr8 ⟨rfl,(by have q_:=Vr x1;omega)⟩ (by (try simp only [List.length_append,List.length_cons,List.length_nil]);omega) (by (try simp only [EU,List.length_append,List.length_cons,List.length_nil]);omega) (fun a12 c12 r9 hr9=>JV [0,11] [] ([Sg b7 0 [U ((Kk x1).1)]]::r9::r7::[Sg b6 0 [Sr x2]]::[Sg b2 0 [Sl a10 ((t.setup.names++[x2]).length) c10,Sl a12 ((t.setup.keys++[(Kk x1).1]).length) c12,I t.setup.most,I t.setup.batch,I t.setup.every,I t.setup.least,I t.setup.top,I t.setup.lost,I t.setup.reach]]::[Sg b 0 (KK t a_0 c_0 a_1 c_1 a_9 c_9)]::r_9::Lr) (Jd (Jb (Je (Jc (Ja [0,10] [(32,Pt b 0),(33,.agg #[Sl a10 ((t.setup.names++[x2]).length) c10,Sl a12 ((t.setup.keys++[(Kk x1).1]).length) c12,I t.setup.most,I t.setup.batch,I t.setup.every,I t.setup.least,I t.setup.top,I t.setup.lost,I t.setup.reach])] (WJ (E:=ES) 2 (hr7.mono hl9) (by (try simp only [ES,EU,WW,EI,List.length_append,List.length_cons,List.length_nil]);omega) (fun G10 hl10 hs6=>WJ (E:=EU) 1 (hr9.mono hl10) (by (try simp only [ES,EU,WW,EI,List.length_append,List.length_cons,List.length_nil]);omega) (fun G11 hl11 hs7=>Jx 6 (Jx 6 (QJ (Ls:=[[Sg b 0 (KK t a_0 c_0 a_1 c_1 a_9 c_9)],r_9]) (Lr:=([Sg b7 0 [U ((Kk x1).1)]]::[]::[]::[Sg b6 0 [Sr x2]]::[Sg b2 0 [Sl a10 ((t.setup.names++[x2]).length) c10,Sl a12 ((t.setup.keys++[(Kk x1).1]).length) c12,I t.setup.most,I t.setup.batch,I t.setup.every,I t.setup.least,I t.setup.top,I t.setup.lost,I t.setup.reach]]::Lr)) 34 hT (Jjp G11 b t a_0 c_0 a_1 c_1 a_9 c_9 r_9 (h_0.mono (Jp.le_trans (Jp.le_trans (Jp.le_trans (Jp.le_trans hle1 hl8) hl9) hl10) hl11)) (h_1.mono (Jp.le_trans (Jp.le_trans (Jp.le_trans (Jp.le_trans hle1 hl8) hl9) hl10) hl11)) ‹_› ‹_› ‹_› ‹_› ‹_› ‹_› ‹_› (h_9.mono (Jp.le_trans (Jp.le_trans (Jp.le_trans (Jp.le_trans hle1 hl8) hl9) hl10) hl11)) [Sl a10 ((t.setup.names++[x2]).length) c10,Sl a12 ((t.setup.keys++[(Kk x1).1]).length) c12,I t.setup.most,I t.setup.batch,I t.setup.every,I t.setup.least,I t.setup.top,I t.setup.lost,I t.setup.reach] (⟨t.setup.names++[x2],t.setup.keys++[(Kk x1).1],t.setup.most,t.setup.batch,t.setup.every,t.setup.least,t.setup.top,t.setup.lost,t.setup.reach⟩:KC) (⟨a10,c10,a12,c12,rfl,(hs6.mono hl11),hs7,‹_›,‹_›,‹_›,‹_›,‹_›,‹_›,‹_›⟩) ‹_›) (fun v G12 L1 hl12 hp=>?_) (fun v G12 L1 hl12 hp=>?_)))))))))))))))
 obtain ⟨hne4,rfl,rfl⟩:=hp
 refine KJ ?_
 have hp7:(Wo t w).2=(Zx t (⟨t.setup.names++[x2],t.setup.keys++[(Kk x1).1],t.setup.most,t.setup.batch,t.setup.every,t.setup.least,t.setup.top,t.setup.lost,t.setup.reach⟩:KC)).2:=by
  rw [Jb6 (t:=t) (w:=w) ‹_› ‹_› ‹_›]
 refine ZR (Zp (Lr:=Lr) [[Sg b 0 (KK t a_0 c_0 a_1 c_1 a_9 c_9)],r_9] (Jp.le_trans (Jp.le_trans (Jp.le_trans (Jp.le_trans (Jp.le_trans hle1 hl8) hl9) hl10) hl11) hl12) ?_)
 rw [hp7];exact ⟨hne4,rfl,rfl⟩
 obtain ⟨_,a13,c13,a14,c14,a15,c15,a16,c16,r10,rfl,hs8,hs9,hs10,w10,w11,w12,w13,w14,w15,w16,hr10,rfl⟩:=hp
 refine Ja [0] [(4,Sl a13 (([]:List (List UInt8)).length) c13)] (Jd (Jb (Jl (Ji 1 (Ji 1 ?_)))))
 have hf2:(Wo t w).2=0∧([]:List (List UInt8))=([]:List (List UInt8))∧(Wo t w).1=((Zx t (⟨t.setup.names++[x2],t.setup.keys++[(Kk x1).1],t.setup.most,t.setup.batch,t.setup.every,t.setup.least,t.setup.top,t.setup.lost,t.setup.reach⟩:KC)).1):=by
  (rw [Jb6 (t:=t) (w:=w) ‹_› ‹_› ‹_›];exact ⟨by assumption,rfl,rfl⟩)
 refine Jm [0] [Sl a13 (([]:List (List UInt8)).length) c13] (bpx (KQ (Lr:=Lr) [[Sg b 0 (KK (Zx t (⟨t.setup.names++[x2],t.setup.keys++[(Kk x1).1],t.setup.most,t.setup.batch,t.setup.every,t.setup.least,t.setup.top,t.setup.lost,t.setup.reach⟩:KC)).1 a14 c14 a15 c15 a16 c16)],r10] (Jp.le_trans (Jp.le_trans (Jp.le_trans (Jp.le_trans (Jp.le_trans hle1 hl8) hl9) hl10) hl11) hl12) ?_))
 rw [hf2.2.1,hf2.2.2]
 try dsimp only
 exact ⟨hf2.1,a13,c13,a14,c14,a15,c15,a16,c16,r10,rfl,hs8,hs9,hs10,w10,w11,w12,w13,w14,w15,w16,hr10,rfl⟩
theorem JmR (G:Jp) (b:Nat) (t:KO) (a_0:Option Addr) (c_0:Nat) (a_1:Option Addr) (c_1:Nat) (a_9:Option Addr) (c_9:Nat) (r_9:List Kg) (h_0:RS ES G a_0 c_0 t.setup.names) (h_1:RS EU G a_1 c_1 t.setup.keys) (h_2:rI t.setup.most) (h_3:rI t.setup.batch) (h_4:rI t.setup.every) (h_5:rI t.setup.least) (h_6:rI t.setup.top) (h_7:rI t.setup.lost) (h_8:rI t.setup.reach) (h_9:J0 WW G a_9 c_9 t.deeds r_9) (a_w:Option Addr) (c_w:Nat) (w:List (List UInt8)) (h_w:RS ES G a_w c_w w) (hw:w.length=2) (hs:∀ s∈w,s.length≤1048576) (ht:t.deeds.length≤200) (hn:t.setup.names.length≤1000) (hk:t.setup.keys.length≤1000):YP Tryz.prog 82 #[Pt b 0,Sl a_w w.length c_w] G [[Sg b 0 [Sl a_0 t.setup.names.length c_0,Sl a_1 t.setup.keys.length c_1,I t.setup.most,I t.setup.batch,I t.setup.every,I t.setup.least,I t.setup.top,I t.setup.lost,I t.setup.reach,Sl a_9 t.deeds.length c_9]],r_9] (fun u G' L'=>((Zk t w).2=0)∧∃ (az1:Option Addr) (cz2:Nat) (az3:Option Addr) (cz4:Nat) (az5:Option Addr) (cz6:Nat) (az7:Option Addr) (cz8:Nat) (rz9:List Kg),u=Sl az1 (([]:List (List UInt8)).length) cz2∧(RS ES G' az1 cz2 ([]:List (List UInt8)))∧(RS ES G' az3 cz4 (((Zk t w).1).setup.names))∧(RS EU G' az5 cz6 (((Zk t w).1).setup.keys))∧(rI (((Zk t w).1).setup.most))∧(rI (((Zk t w).1).setup.batch))∧(rI (((Zk t w).1).setup.every))∧(rI (((Zk t w).1).setup.least))∧(rI (((Zk t w).1).setup.top))∧(rI (((Zk t w).1).setup.lost))∧(rI (((Zk t w).1).setup.reach))∧(J0 WW G' az7 cz8 (((Zk t w).1).deeds) rz9)∧L'=[[Sg b 0 [Sl az3 ((((Zk t w).1).setup.names).length) cz4,Sl az5 ((((Zk t w).1).setup.keys).length) cz6,I (((Zk t w).1).setup.most),I (((Zk t w).1).setup.batch),I (((Zk t w).1).setup.every),I (((Zk t w).1).setup.least),I (((Zk t w).1).setup.top),I (((Zk t w).1).setup.lost),I (((Zk t w).1).setup.reach),Sl az7 ((((Zk t w).1).deeds).length) cz8]],rz9]) (fun u _ L'=>(¬ (Zk t w).2=0)∧u=JaB ((Zk t w).2)∧L'=[[Sg b 0 [Sl a_0 t.setup.names.length c_0,Sl a_1 t.setup.keys.length c_1,I t.setup.most,I t.setup.batch,I t.setup.every,I t.setup.least,I t.setup.top,I t.setup.lost,I t.setup.reach,Sl a_9 t.deeds.length c_9]],r_9]):=by
 intro Lr
 refine YM Tryz.func82 16 [(0,Pt b 0),(1,Sl a_w w.length c_w)] rfl (fun w0 G0 hT=>?_)
 show TC _ _ _ _ _ ([Sg b 0 (KK t a_0 c_0 a_1 c_1 a_9 c_9)]::r_9::Lr)
 refine Jf [0] [] (Je ?_)
 obtain ⟨b1,o1,rfl⟩:=RS.addr h_w (k:=0) (by omega)
 obtain ⟨x1,hx1⟩:=We (l:=w) (k:=0) (by omega)
 obtain ⟨_,⟨rfl,_⟩,hc1⟩:=RS.get h_w hx1
 obtain ⟨x2,hx2⟩:=We (l:=w) (k:=1) (by omega)
 obtain ⟨_,⟨rfl,w2⟩,hc2⟩:=RS.get h_w hx2
 refine Ko [4,9,10] (Wm [(0,Pt b 0),(1,Sl (At b1 o1) w.length c_w),(2,Pt b1 (o1+0*1)),(3,Sr x1),(5,Sl (At b1 o1) w.length c_w),(6,Pt b1 (o1+1*1)),(7,Sr x2)] (JK [] [(0,0),(1,0),(5,0)] [2,3,6,7] [4] (Ke ?_ (Ke ?_ (Ke ?_ (Ke ?_ K4)))) (Ke ?_ K4)))
 refine Jr 2 7 (Pt b1 (o1+0*1)) [(6,Sl (At b1 o1) w.length c_w)] (fun X=>?_)
 exact J3 (b:=b1) (off:=o1) (len:=w.length) (cap:=c_w) (ik:=.i64) 7 9 1 0 J7 Jn
 refine Jr 3 8 (Sr x1) [(7,Pt b1 (o1+0*1))] (fun X=>?_)
 exact JW 8 9 (cs:=[Sr x1]) 0 (Sr x1) hc1 Jn
 refine Jr 6 11 (Pt b1 (o1+1*1)) [(10,Sl (At b1 o1) w.length c_w)] (fun X=>?_)
 exact J3 (b:=b1) (off:=o1) (len:=w.length) (cap:=c_w) (ik:=.i64) 11 9 1 1 J7 Jn
 refine Jr 7 12 (Sr x2) [(11,Pt b1 (o1+1*1))] (fun X=>?_)
 exact JW 12 9 (cs:=[Sr x2]) 0 (Sr x2) hc2 Jn
 refine JD 4 [(8,Sr x1)] (fun X=>?_)
 refine QJ (Ls:=[]) (Lr:=([Sg b 0 (KK t a_0 c_0 a_1 c_1 a_9 c_9)]::r_9::Lr)) 9 hT ((VK G x1 (by have q_:=hs _ (List.mem_of_getElem? hx2);omega)).frame) (fun v G1 L1 hl1 hp=>?_) (fun v G1 L1 hl1 hp=>?_)
 obtain ⟨hne1,rfl,rfl⟩:=hp
 refine KJ (KJ ?_)
 have hp1:(Zk t w).2=(Kk x1).2:=by
  exact JmP ‹_› ‹_›
 refine ZR (Zp (Lr:=Lr) [[Sg b 0 (KK t a_0 c_0 a_1 c_1 a_9 c_9)],r_9] hl1 ?_)
 rw [hp1];exact ⟨hne1,rfl,rfl⟩
 obtain ⟨_,rfl,rfl⟩:=hp
 refine JC [(4,I ((Kk x1).1)),(8,.agg #[I 1,I ((Kk x1).1),Sr x2,Sl none 0 0,I 0,I 0,I 0,I 0,Sl none 0 0,I 0,U 0,U 0,I 0,Sr ([]),Sl none 0 0,Sl none 0 0])] (JK [1,2,3] [(0,0),(5,0),(8,0)] [6,7] [9] (Ke ?_ (Ke ?_ K4)) (Ke ?_ K4))
 refine Jr 6 11 (Pt b1 (o1+1*1)) [(10,Sl (At b1 o1) w.length c_w)] (fun X=>?_)
 exact J3 (b:=b1) (off:=o1) (len:=w.length) (cap:=c_w) (ik:=.i64) 11 9 1 1 J7 Jn
 refine Jr 7 12 (Sr x2) [(11,Pt b1 (o1+1*1))] (fun X=>?_)
 exact JW 12 9 (cs:=[Sr x2]) 0 (Sr x2) (fun j v hv=>hl1 _ _ _ (hc2 j v hv)) Jn
 refine JD 9 [(13,.agg #[I 1,I ((Kk x1).1),Sr x2,Sl none 0 0,I 0,I 0,I 0,I 0,Sl none 0 0,I 0,U 0,U 0,I 0,Sr ([]),Sl none 0 0,Sl none 0 0])] (fun X=>?_)
 refine Kq 14 1 #[I 1,I ((Kk x1).1),Sr x2,Sl none 0 0,I 0,I 0,I 0,I 0,Sl none 0 0,I 0,U 0,U 0,I 0,Sr ([]),Sl none 0 0,Sl none 0 0] 53 (fun b2=>JC [(9,Sl (At b2 0) 1 1)] (JK [1,2,3,5,6,7,8] [(0,0)] [] [10] (List.forall_mem_nil _) (Ke ?_ K4)))
 refine JD 10 [(5,Pt b 0),(14,Sl (At b2 0) 1 1)] (fun X=>?_)
 refine QV (b:=b2) (o:=0) (cs:=[I 1,I ((Kk x1).1),Sr x2,Sl none 0 0,I 0,I 0,I 0,I 0,Sl none 0 0,I 0,U 0,U 0,I 0,Sr ([]),Sl none 0 0,Sl none 0 0]) 0 (fun G2 hl2 hz1=>?_)
 have hs1:RS WW G2 (At b2 0) 1 [(⟨1,(Kk x1).1,x2,[],(⟨0,0,0,0,[],(⟨(⟨0,0,0,0⟩:JQ),(⟨[],[],[]⟩:Qy)⟩:QB)⟩:JS)⟩:Qc)]:=RS.lit [[I 1,I ((Kk x1).1),Sr x2,Sl none 0 0,I 0,I 0,I 0,I 0,Sl none 0 0,I 0,U 0,U 0,I 0,Sr ([]),Sl none 0 0,Sl none 0 0]] [(⟨1,(Kk x1).1,x2,[],(⟨0,0,0,0,[],(⟨(⟨0,0,0,0⟩:JQ),(⟨[],[],[]⟩:Qy)⟩:QB)⟩:JS)⟩:Qc)] ⟨⟨none,0,none,0,none,0,none,0,rfl,(by (simp;done)),(by have q_:=Vr x1;(dsimp only;omega)),w2,(RS.nil' EI G2),(by (simp;done)),(by (simp;done)),(by (simp;done)),(by (simp;done)),(RS.nil' KA G2),(by (simp;done)),(by (simp;done)),(by (simp;done)),(by (simp;done)),(Nat.le_of_ble_eq_true rfl),(RS.nil' QA G2),(RS.nil' EU G2)⟩,trivial⟩ hz1 (Nat.le_of_ble_eq_true rfl) (Nat.le_of_ble_eq_true rfl)
 refine Jx 2 (Jx 2 (QJ (Ls:=[[Sg b 0 (KK t a_0 c_0 a_1 c_1 a_9 c_9)],r_9]) (Lr:=([]::Lr)) 15 hT (Jjq G2 b t a_0 c_0 a_1 c_1 a_9 c_9 r_9 (h_0.mono (Jp.le_trans hl1 hl2)) (h_1.mono (Jp.le_trans hl1 hl2)) h_2 h_3 h_4 h_5 h_6 h_7 h_8 (h_9.mono (Jp.le_trans hl1 hl2)) (At b2 0) 1 ([(⟨1,(Kk x1).1,x2,[],(⟨0,0,0,0,[],(⟨(⟨0,0,0,0⟩:JQ),(⟨[],[],[]⟩:Qy)⟩:QB)⟩:JS)⟩:Qc)]) hs1 ‹_› (by simp)) (fun v G3 L1 hl3 hp=>?_) (fun v G3 L1 hl3 hp=>?_)))
 obtain ⟨hne2,rfl,rfl⟩:=hp
 refine KJ (KJ ?_)
 have hp3:(Zk t w).2=(ZO t ([(⟨1,(Kk x1).1,x2,[],(⟨0,0,0,0,[],(⟨(⟨0,0,0,0⟩:JQ),(⟨[],[],[]⟩:Qy)⟩:QB)⟩:JS)⟩:Qc)])).2:=by
  rw [Jjr (t:=t) (w:=w) ‹_› ‹_› ‹_›]
 refine ZR (Zp (Lr:=Lr) [[Sg b 0 (KK t a_0 c_0 a_1 c_1 a_9 c_9)],r_9] (Jp.le_trans (Jp.le_trans hl1 hl2) hl3) ?_)
 rw [hp3];exact ⟨hne2,rfl,rfl⟩
 obtain ⟨_,a1,c1,a2,c2,a3,c3,a4,c4,r1,rfl,hs2,hs3,hs4,w3,w4,w5,w6,w7,w8,w9,hr1,rfl⟩:=hp
 refine JC [(10,Sl a1 (([]:List (List UInt8)).length) c1),(11,Sl a1 (([]:List (List UInt8)).length) c1)] (Km [0,1,2,3,5,6,7,8] [(11,0)] [] [(4,Sl a1 (([]:List (List UInt8)).length) c1)] (List.forall_mem_nil _) (Jb (Jl (Ji 1 (Ji 1 ?_)))))
 have hf1:(Zk t w).2=0∧([]:List (List UInt8))=([]:List (List UInt8))∧(Zk t w).1=((ZO t ([(⟨1,(Kk x1).1,x2,[],(⟨0,0,0,0,[],(⟨(⟨0,0,0,0⟩:JQ),(⟨[],[],[]⟩:Qy)⟩:QB)⟩:JS)⟩:Qc)])).1):=by
  (rw [Jjr (t:=t) (w:=w) ‹_› ‹_› ‹_›];exact ⟨by assumption,rfl,rfl⟩)
 refine Jm [0] [Sl a1 (([]:List (List UInt8)).length) c1] (bpx (KQ (Lr:=Lr) [[Sg b 0 (KK (ZO t ([(⟨1,(Kk x1).1,x2,[],(⟨0,0,0,0,[],(⟨(⟨0,0,0,0⟩:JQ),(⟨[],[],[]⟩:Qy)⟩:QB)⟩:JS)⟩:Qc)])).1 a2 c2 a3 c3 a4 c4)],r1] (Jp.le_trans (Jp.le_trans hl1 hl2) hl3) ?_))
 rw [hf1.2.1,hf1.2.2]
 try dsimp only
 exact ⟨hf1.1,a1,c1,a2,c2,a3,c3,a4,c4,r1,rfl,hs2,hs3,hs4,w3,w4,w5,w6,w7,w8,w9,hr1,rfl⟩
abbrev JoN (kn1:Nat) (t:KO):=ZO t (List.replicate kn1 (⟨4,0,[],[],(⟨0,0,0,0,[],(⟨(⟨0,0,0,0⟩:JQ),(⟨[],[],[]⟩:Qy)⟩:QB)⟩:JS)⟩:Qc))
theorem JmS (G:Jp) (b:Nat) (t:KO) (a_0:Option Addr) (c_0:Nat) (a_1:Option Addr) (c_1:Nat) (a_9:Option Addr) (c_9:Nat) (r_9:List Kg) (h_0:RS ES G a_0 c_0 t.setup.names) (h_1:RS EU G a_1 c_1 t.setup.keys) (h_2:rI t.setup.most) (h_3:rI t.setup.batch) (h_4:rI t.setup.every) (h_5:rI t.setup.least) (h_6:rI t.setup.top) (h_7:rI t.setup.lost) (h_8:rI t.setup.reach) (h_9:J0 WW G a_9 c_9 t.deeds r_9) (a_w:Option Addr) (c_w:Nat) (w:List (List UInt8)) (h_w:RS ES G a_w c_w w) (hw:w.length=1) (hs:∀ s∈w,s.length≤1048576) (ht:t.deeds.length≤200) (hn:t.setup.names.length≤1000) (hk:t.setup.keys.length≤1000):YP Tryz.prog 84 #[Pt b 0,Sl a_w w.length c_w] G [[Sg b 0 [Sl a_0 t.setup.names.length c_0,Sl a_1 t.setup.keys.length c_1,I t.setup.most,I t.setup.batch,I t.setup.every,I t.setup.least,I t.setup.top,I t.setup.lost,I t.setup.reach,Sl a_9 t.deeds.length c_9]],r_9] (fun u G' L'=>((Zl t w).2=0)∧∃ (az1:Option Addr) (cz2:Nat) (az3:Option Addr) (cz4:Nat) (az5:Option Addr) (cz6:Nat) (az7:Option Addr) (cz8:Nat) (rz9:List Kg),u=Sl az1 (([]:List (List UInt8)).length) cz2∧(RS ES G' az1 cz2 ([]:List (List UInt8)))∧(RS ES G' az3 cz4 (((Zl t w).1).setup.names))∧(RS EU G' az5 cz6 (((Zl t w).1).setup.keys))∧(rI (((Zl t w).1).setup.most))∧(rI (((Zl t w).1).setup.batch))∧(rI (((Zl t w).1).setup.every))∧(rI (((Zl t w).1).setup.least))∧(rI (((Zl t w).1).setup.top))∧(rI (((Zl t w).1).setup.lost))∧(rI (((Zl t w).1).setup.reach))∧(J0 WW G' az7 cz8 (((Zl t w).1).deeds) rz9)∧L'=[[Sg b 0 [Sl az3 ((((Zl t w).1).setup.names).length) cz4,Sl az5 ((((Zl t w).1).setup.keys).length) cz6,I (((Zl t w).1).setup.most),I (((Zl t w).1).setup.batch),I (((Zl t w).1).setup.every),I (((Zl t w).1).setup.least),I (((Zl t w).1).setup.top),I (((Zl t w).1).setup.lost),I (((Zl t w).1).setup.reach),Sl az7 ((((Zl t w).1).deeds).length) cz8]],rz9]) (fun u _ L'=>(¬ (Zl t w).2=0)∧u=JaB ((Zl t w).2)∧L'=[[Sg b 0 [Sl a_0 t.setup.names.length c_0,Sl a_1 t.setup.keys.length c_1,I t.setup.most,I t.setup.batch,I t.setup.every,I t.setup.least,I t.setup.top,I t.setup.lost,I t.setup.reach,Sl a_9 t.deeds.length c_9]],r_9]):=by
 intro Lr
 refine YM Tryz.func84 17 [(0,Pt b 0),(1,Sl a_w w.length c_w)] rfl (fun w0 G0 hT=>?_)
 show TC _ _ _ _ _ ([Sg b 0 (KK t a_0 c_0 a_1 c_1 a_9 c_9)]::r_9::Lr)
 refine Jf [0] [] (Je (Jc (Ja [0] [(6,Sl a_w w.length c_w)] ?_)))
 obtain ⟨b1,o1,rfl⟩:=RS.addr h_w (k:=0) (by omega)
 obtain ⟨x1,hx1⟩:=We (l:=w) (k:=0) (by omega)
 obtain ⟨_,⟨rfl,_⟩,hc1⟩:=RS.get h_w hx1
 refine J3 (b:=b1) (off:=o1) (len:=w.length) (cap:=c_w) (ik:=.i64) 7 9 1 0 J7 (JW 8 9 (cs:=[Sr x1]) 0 (Sr x1) hc1 (QJ (Ls:=[]) (Lr:=([Sg b 0 (KK t a_0 c_0 a_1 c_1 a_9 c_9)]::r_9::Lr)) 9 hT ((VK G x1 (by have q_:=hs _ (List.mem_of_getElem? hx1);omega)).frame) (fun v G1 L1 hl1 hp=>?_) (fun v G1 L1 hl1 hp=>?_)))
 obtain ⟨hne1,rfl,rfl⟩:=hp
 refine KJ ?_
 have hp1:(Zl t w).2=(Kk x1).2:=by
  exact JmQ ‹_› ‹_›
 refine ZR (Zp (Lr:=Lr) [[Sg b 0 (KK t a_0 c_0 a_1 c_1 a_9 c_9)],r_9] hl1 ?_)
 rw [hp1];exact ⟨hne1,rfl,rfl⟩
 obtain ⟨_,rfl,rfl⟩:=hp
 refine Ja [0] [(5,I ((Kk x1).1))] (Jd (Jb (Je (Jc (Ja [0,0] [(10,Pt b 0),(11,.agg #[I 4,I 0,Sr ([]),Sl none 0 0,I 0,I 0,I 0,I 0,Sl none 0 0,I 0,U 0,U 0,I 0,Sr ([]),Sl none 0 0,Sl none 0 0])] (Kq 12 1 #[I 4,I 0,Sr ([]),Sl none 0 0,I 0,I 0,I 0,I 0,Sl none 0 0,I 0,U 0,U 0,I 0,Sr ([]),Sl none 0 0,Sl none 0 0] 53 (fun b2=>Ja [0,0] [(14,I (if 201<((Kk x1).1) then 201 else ((Kk x1).1)))] (QV (b:=b2) (o:=0) (cs:=[I 4,I 0,Sr ([]),Sl none 0 0,I 0,I 0,I 0,I 0,Sl none 0 0,I 0,U 0,U 0,I 0,Sr ([]),Sl none 0 0,Sl none 0 0]) 0 (fun G2 hl2 hz1=>?_)))))))))
 have hs1:RS WW G2 (At b2 0) 1 [(⟨4,0,[],[],(⟨0,0,0,0,[],(⟨(⟨0,0,0,0⟩:JQ),(⟨[],[],[]⟩:Qy)⟩:QB)⟩:JS)⟩:Qc)]:=RS.lit [[I 4,I 0,Sr ([]),Sl none 0 0,I 0,I 0,I 0,I 0,Sl none 0 0,I 0,U 0,U 0,I 0,Sr ([]),Sl none 0 0,Sl none 0 0]] [(⟨4,0,[],[],(⟨0,0,0,0,[],(⟨(⟨0,0,0,0⟩:JQ),(⟨[],[],[]⟩:Qy)⟩:QB)⟩:JS)⟩:Qc)] ⟨⟨none,0,none,0,none,0,none,0,rfl,(by (simp;done)),(by (simp;done)),(Nat.le_of_ble_eq_true rfl),(RS.nil' EI G2),(by (simp;done)),(by (simp;done)),(by (simp;done)),(by (simp;done)),(RS.nil' KA G2),(by (simp;done)),(by (simp;done)),(by (simp;done)),(by (simp;done)),(Nat.le_of_ble_eq_true rfl),(RS.nil' QA G2),(RS.nil' EU G2)⟩,trivial⟩ hz1 (Nat.le_of_ble_eq_true rfl) (Nat.le_of_ble_eq_true rfl)
 obtain ⟨kn1,hkn1⟩:∃ k_:Nat,(if 201<((Kk x1).1) then 201 else ((Kk x1).1))=(k_:Int):=⟨(if 201<((Kk x1).1) then 201 else ((Kk x1).1)).toNat,by (have q_:=Vr x1;omega)⟩
 have e1:(if 201<((Kk x1).1) then 201 else ((Kk x1).1))=(kn1:Int):=hkn1
 refine KI 14 (I (kn1:Int)) (congrArg I e1) (JF 15 (Jjo G2 (At b2 0) 1 (⟨4,0,[],[],(⟨0,0,0,0,[],(⟨(⟨0,0,0,0⟩:JQ),(⟨[],[],[]⟩:Qy)⟩:QB)⟩:JS)⟩:Qc) hs1 kn1 J7) (fun v G3 L1 hl3 hp=>?_))
 obtain ⟨a1,c1,_,rfl,hr1,rfl⟩:=hp
 refine WJ (E:=WW) 0 hr1 (by (try simp only [WW,List.length_replicate]);omega) (fun G4 hl4 hs2=>Jx 3 (Jx 3 (QJ (Ls:=[[Sg b 0 (KK t a_0 c_0 a_1 c_1 a_9 c_9)],r_9]) (Lr:=([]::[]::Lr)) 16 hT (Jjq G4 b t a_0 c_0 a_1 c_1 a_9 c_9 r_9 (h_0.mono (Jp.le_trans (Jp.le_trans (Jp.le_trans hl1 hl2) hl3) hl4)) (h_1.mono (Jp.le_trans (Jp.le_trans (Jp.le_trans hl1 hl2) hl3) hl4)) h_2 h_3 h_4 h_5 h_6 h_7 h_8 (h_9.mono (Jp.le_trans (Jp.le_trans (Jp.le_trans hl1 hl2) hl3) hl4)) a1 c1 (List.replicate kn1 (⟨4,0,[],[],(⟨0,0,0,0,[],(⟨(⟨0,0,0,0⟩:JQ),(⟨[],[],[]⟩:Qy)⟩:QB)⟩:JS)⟩:Qc)) hs2 ‹_› (by (rw [List.length_replicate];have q_:=Vr x1;omega))) (fun v G5 L1 hl5 hp=>?_) (fun v G5 L1 hl5 hp=>?_))))
 obtain ⟨hne2,rfl,rfl⟩:=hp
 refine KJ ?_
 have hp3:(Zl t w).2=(JoN kn1 t).2:=by
  rw [Jjs (t:=t) (w:=w) ‹_› ‹_› ‹_›]
 refine ZR (Zp (Lr:=Lr) [[Sg b 0 (KK t a_0 c_0 a_1 c_1 a_9 c_9)],r_9] (Jp.le_trans (Jp.le_trans (Jp.le_trans (Jp.le_trans hl1 hl2) hl3) hl4) hl5) ?_)
 rw [hp3];exact ⟨hne2,rfl,rfl⟩
 obtain ⟨_,a2,c2,a3,c3,a4,c4,a5,c5,r2,rfl,hs3,hs4,hs5,w2,w3,w4,w5,w6,w7,w8,hr2,rfl⟩:=hp
 refine Ja [0] [(4,Sl a2 (([]:List (List UInt8)).length) c2)] (Jd (Jb (Jl (Ji 1 (Ji 1 ?_)))))
 have hf1:(Zl t w).2=0∧([]:List (List UInt8))=([]:List (List UInt8))∧(Zl t w).1=((JoN kn1 t).1):=by
  (rw [Jjs (t:=t) (w:=w) ‹_› ‹_› ‹_›];exact ⟨by assumption,rfl,rfl⟩)
 refine Jm [0] [Sl a2 (([]:List (List UInt8)).length) c2] (bpx (KQ (Lr:=Lr) [[Sg b 0 (KK (JoN kn1 t).1 a3 c3 a4 c4 a5 c5)],r2] (Jp.le_trans (Jp.le_trans (Jp.le_trans (Jp.le_trans hl1 hl2) hl3) hl4) hl5) ?_))
 rw [hf1.2.1,hf1.2.2]
 try dsimp only
 exact ⟨hf1.1,a2,c2,a3,c3,a4,c4,a5,c5,r2,rfl,hs3,hs4,hs5,w2,w3,w4,w5,w6,w7,w8,hr2,rfl⟩
def dNow (t:KO) (w:List (List UInt8)):List (List UInt8)×Int:=if ¬ (JB t.setup t.deeds).2.2=0 then ([],(JB t.setup t.deeds).2.2) else ([(JB t.setup t.deeds).1.clerk.now,((JB t.setup t.deeds).1.clerk.heads.length:Int),((JB t.setup t.deeds).1.clerk.queue.wait.length:Int)].map Lib.itoa,0)
theorem JmT (G:Jp) (b:Nat) (t:KO) (a_0:Option Addr) (c_0:Nat) (a_1:Option Addr) (c_1:Nat) (a_9:Option Addr) (c_9:Nat) (r_9:List Kg) (h_0:RS ES G a_0 c_0 t.setup.names) (h_1:RS EU G a_1 c_1 t.setup.keys) (h_2:rI t.setup.most) (h_3:rI t.setup.batch) (h_4:rI t.setup.every) (h_5:rI t.setup.least) (h_6:rI t.setup.top) (h_7:rI t.setup.lost) (h_8:rI t.setup.reach) (h_9:J0 WW G a_9 c_9 t.deeds r_9)  (ht:t.deeds.length≤200):YP Tryz.prog 139 #[Pt b 0] G [[Sg b 0 [Sl a_0 t.setup.names.length c_0,Sl a_1 t.setup.keys.length c_1,I t.setup.most,I t.setup.batch,I t.setup.every,I t.setup.least,I t.setup.top,I t.setup.lost,I t.setup.reach,Sl a_9 t.deeds.length c_9]],r_9] (fun u G' L'=>((JB t.setup t.deeds).2.2=0)∧∃ (az1:Option Addr) (cz2:Nat) (az3:Option Addr) (cz4:Nat) (az5:Option Addr) (cz6:Nat) (az7:Option Addr) (cz8:Nat) (az9:Option Addr) (cz10:Nat) (az11:Option Addr) (cz12:Nat) (az13:Option Addr) (cz14:Nat),u=.tuple #[.agg #[I (((JB t.setup t.deeds).1).clerk.queue.most),Sl az1 ((((JB t.setup t.deeds).1).clerk.queue.wait).length) cz2,I (((JB t.setup t.deeds).1).clerk.batch),I (((JB t.setup t.deeds).1).clerk.every),I (((JB t.setup t.deeds).1).clerk.now),Sl az3 ((((JB t.setup t.deeds).1).clerk.heads).length) cz4,Sl az5 ((((JB t.setup t.deeds).1).clerk.books).length) cz6,Sl az7 ((((JB t.setup t.deeds).1).owners).length) cz8,Sl az9 ((((JB t.setup t.deeds).1).polls).length) cz10,I (((JB t.setup t.deeds).1).net.now),Sl az11 ((((JB t.setup t.deeds).1).net.way).length) cz12],Sl az13 (((JB t.setup t.deeds).2.1).length) cz14]∧(rI (((JB t.setup t.deeds).1).clerk.queue.most))∧(RS Q3 G' az1 cz2 (((JB t.setup t.deeds).1).clerk.queue.wait))∧(rI (((JB t.setup t.deeds).1).clerk.batch))∧(rI (((JB t.setup t.deeds).1).clerk.every))∧(rI (((JB t.setup t.deeds).1).clerk.now))∧(RS KA G' az3 cz4 (((JB t.setup t.deeds).1).clerk.heads))∧(RS Qs G' az5 cz6 (((JB t.setup t.deeds).1).clerk.books))∧(RS Q1 G' az7 cz8 (((JB t.setup t.deeds).1).owners))∧(RS Wy G' az9 cz10 (((JB t.setup t.deeds).1).polls))∧(rI (((JB t.setup t.deeds).1).net.now))∧(RS Kh G' az11 cz12 (((JB t.setup t.deeds).1).net.way))∧(RS Wn G' az13 cz14 ((JB t.setup t.deeds).2.1))∧L'=[[Sg b 0 [Sl a_0 t.setup.names.length c_0,Sl a_1 t.setup.keys.length c_1,I t.setup.most,I t.setup.batch,I t.setup.every,I t.setup.least,I t.setup.top,I t.setup.lost,I t.setup.reach,Sl a_9 t.deeds.length c_9]],r_9]) (fun u _ L'=>(¬ (JB t.setup t.deeds).2.2=0)∧u=JaB ((JB t.setup t.deeds).2.2)∧L'=[[Sg b 0 [Sl a_0 t.setup.names.length c_0,Sl a_1 t.setup.keys.length c_1,I t.setup.most,I t.setup.batch,I t.setup.every,I t.setup.least,I t.setup.top,I t.setup.lost,I t.setup.reach,Sl a_9 t.deeds.length c_9]],r_9]):=by
 intro Lr
 refine YM Tryz.func139 24 [(0,Pt b 0)] rfl (fun w0 G0 hT=>?_)
 show TC _ _ _ _ _ ([Sg b 0 (KK t a_0 c_0 a_1 c_1 a_9 c_9)]::r_9::Lr)
 refine Je (Jc (Jv 2 #[I 0,Sl none 0 0,I 0,I 0,I 0,Sl none 0 0,Sl none 0 0,Sl none 0 0,Sl none 0 0,I 0,Sl none 0 0] 67 (fun b1=>Ja [0] [] (Jd (Jb ?_)))))
 refine Yv (σ:=Nat×(Option Addr)×Nat×(Option Addr)×Nat×(Option Addr)×Nat×(Option Addr)×Nat×(Option Addr)×Nat×(Option Addr)×Nat×(Option Addr)×Nat×Jp) (fun q_=>(Jp.le G q_.2.2.2.2.2.2.2.2.2.2.2.2.2.2.2)∧(RS Wn q_.2.2.2.2.2.2.2.2.2.2.2.2.2.2.2 q_.2.1 q_.2.2.1 ((JB t.setup t.deeds).2.1))∧(rI (((JB t.setup t.deeds).1).clerk.queue.most))∧(RS Q3 q_.2.2.2.2.2.2.2.2.2.2.2.2.2.2.2 q_.2.2.2.1 q_.2.2.2.2.1 (((JB t.setup t.deeds).1).clerk.queue.wait))∧(rI (((JB t.setup t.deeds).1).clerk.batch))∧(rI (((JB t.setup t.deeds).1).clerk.every))∧(rI (((JB t.setup t.deeds).1).clerk.now))∧(RS KA q_.2.2.2.2.2.2.2.2.2.2.2.2.2.2.2 q_.2.2.2.2.2.1 q_.2.2.2.2.2.2.1 (((JB t.setup t.deeds).1).clerk.heads))∧(RS Qs q_.2.2.2.2.2.2.2.2.2.2.2.2.2.2.2 q_.2.2.2.2.2.2.2.1 q_.2.2.2.2.2.2.2.2.1 (((JB t.setup t.deeds).1).clerk.books))∧(RS Q1 q_.2.2.2.2.2.2.2.2.2.2.2.2.2.2.2 q_.2.2.2.2.2.2.2.2.2.1 q_.2.2.2.2.2.2.2.2.2.2.1 (((JB t.setup t.deeds).1).owners))∧(RS Wy q_.2.2.2.2.2.2.2.2.2.2.2.2.2.2.2 q_.2.2.2.2.2.2.2.2.2.2.2.1 q_.2.2.2.2.2.2.2.2.2.2.2.2.1 (((JB t.setup t.deeds).1).polls))∧(rI (((JB t.setup t.deeds).1).net.now))∧(RS Kh q_.2.2.2.2.2.2.2.2.2.2.2.2.2.2.2 q_.2.2.2.2.2.2.2.2.2.2.2.2.2.1 q_.2.2.2.2.2.2.2.2.2.2.2.2.2.2.1 (((JB t.setup t.deeds).1).net.way))) (fun q_=>[(2,Pt b1 0),(4,Pt q_.1 0),(5,Sl q_.2.1 (((JB t.setup t.deeds).2.1).length) q_.2.2.1),(6,I ((JB t.setup t.deeds).2.2))]) (fun q_=>q_.2.2.2.2.2.2.2.2.2.2.2.2.2.2.2) (fun q_=>([Sg q_.1 0 (VP (JB t.setup t.deeds).1 q_.2.2.2.1 q_.2.2.2.2.1 q_.2.2.2.2.2.1 q_.2.2.2.2.2.2.1 q_.2.2.2.2.2.2.2.1 q_.2.2.2.2.2.2.2.2.1 q_.2.2.2.2.2.2.2.2.2.1 q_.2.2.2.2.2.2.2.2.2.2.1 q_.2.2.2.2.2.2.2.2.2.2.2.1 q_.2.2.2.2.2.2.2.2.2.2.2.2.1 q_.2.2.2.2.2.2.2.2.2.2.2.2.2.1 q_.2.2.2.2.2.2.2.2.2.2.2.2.2.2.1)]::r_9::[Sg b1 0 [I 0,Sl none 0 0,I 0,I 0,I 0,Sl none 0 0,Sl none 0 0,Sl none 0 0,Sl none 0 0,I 0,Sl none 0 0]]::[Sg b 0 (KK t a_0 c_0 a_1 c_1 a_9 c_9)]::Lr)) ?_ (fun q_ hs=>?_)
 refine Ko [8,13,14] (Wm [(0,Pt b 0),(1,Pt b 0),(2,Pt b 0),(3,(Jag t.setup a_0 c_0 a_1 c_1)),(4,Pt b 0),(5,Pt b 0),(6,Pt b 9),(7,Sl a_9 t.deeds.length c_9)] (JK [] [(0,0),(1,0),(2,0),(3,4),(4,0),(5,0),(6,0),(7,4)] [] [8,13] (List.forall_mem_nil _) (Ke ?_ (Ke ?_ K4))))
 refine JD 8 [(11,(Jag t.setup a_0 c_0 a_1 c_1)),(15,Sl a_9 t.deeds.length c_9)] (fun X=>?_)
 refine Jx 2 (Qn (Ls:=[r_9]) (Lr:=([Sg b1 0 [I 0,Sl none 0 0,I 0,I 0,I 0,Sl none 0 0,Sl none 0 0,Sl none 0 0,Sl none 0 0,I 0,Sl none 0 0]]::[Sg b 0 (KK t a_0 c_0 a_1 c_1 a_9 c_9)]::Lr)) 16 (Jd8 G (W6 t.setup a_0 c_0 a_1 c_1) t.setup (⟨a_0,c_0,a_1,c_1,rfl,h_0,h_1,h_2,h_3,h_4,h_5,h_6,h_7,h_8⟩) a_9 c_9 t.deeds r_9 h_9) (fun v G1 L1 hl1 hp=>?_))
 obtain ⟨a1,c1,a2,c2,a3,c3,a4,c4,a5,c5,a6,c6,a7,c7,rfl,w1,hs1,w2,w3,w4,hs2,hs3,hs4,hs5,w5,hs6,hs7,rfl⟩:=hp
 refine JC [(8,.tuple #[(Jaw (JB t.setup t.deeds).1 a1 c1 a2 c2 a3 c3 a4 c4 a5 c5 a6 c6),Sl a7 (((JB t.setup t.deeds).2.1).length) c7,I ((JB t.setup t.deeds).2.2)]),(9,.tuple #[(Jaw (JB t.setup t.deeds).1 a1 c1 a2 c2 a3 c3 a4 c4 a5 c5 a6 c6),Sl a7 (((JB t.setup t.deeds).2.1).length) c7,I ((JB t.setup t.deeds).2.2)]),(10,(Jaw (JB t.setup t.deeds).1 a1 c1 a2 c2 a3 c3 a4 c4 a5 c5 a6 c6)),(11,Sl a7 (((JB t.setup t.deeds).2.1).length) c7),(12,I ((JB t.setup t.deeds).2.2))] (JK [0,1,2,3,4,5,6,7] [(9,0),(10,0),(11,0),(12,0)] [] [13] (List.forall_mem_nil _) (Ke ?_ K4))
 refine JD 13 [] (fun X=>?_)
 refine Jv 4 #[I 0,Sl none 0 0,I 0,I 0,I 0,Sl none 0 0,Sl none 0 0,Sl none 0 0,Sl none 0 0,I 0,Sl none 0 0] 67 (fun b2=>JC [(13,Pt b2 0)] (JK [0,1,2,3,4,5,6,7] [(9,0),(10,0),(11,0),(12,0)] [] [14] (List.forall_mem_nil _) (Ke ?_ K4)))
 refine JD 14 [(4,Pt b2 0),(17,(Jaw (JB t.setup t.deeds).1 a1 c1 a2 c2 a3 c3 a4 c4 a5 c5 a6 c6))] (fun X=>?_)
 exact KL 0 ([Sg b2 0 (VP (JB t.setup t.deeds).1 a1 c1 a2 c2 a3 c3 a4 c4 a5 c5 a6 c6)]::r_9::[Sg b1 0 [I 0,Sl none 0 0,I 0,I 0,I 0,Sl none 0 0,Sl none 0 0,Sl none 0 0,Sl none 0 0,I 0,Sl none 0 0]]::[Sg b 0 (KK t a_0 c_0 a_1 c_1 a_9 c_9)]::Lr) (Kc [(15,Sl a7 (((JB t.setup t.deeds).2.1).length) c7),(16,I ((JB t.setup t.deeds).2.2))] (Km [0,1,2,3,4,5,6,7,9,10] [(11,0),(12,0),(15,0),(16,0)] [] [(2,Pt b1 0),(4,Pt b2 0),(5,Sl a7 (((JB t.setup t.deeds).2.1).length) c7),(6,I ((JB t.setup t.deeds).2.2))] (List.forall_mem_nil _) (Wb (b2,a7,c7,a1,c1,a2,c2,a3,c3,a4,c4,a5,c5,a6,c6,G1) ⟨hl1,hs7,w1,hs1,w2,w3,w4,hs2,hs3,hs4,hs5,w5,hs6⟩)))
 refine JD 13 [] (fun X=>?_)
 refine Jv 4 #[I 0,Sl none 0 0,I 0,I 0,I 0,Sl none 0 0,Sl none 0 0,Sl none 0 0,Sl none 0 0,I 0,Sl none 0 0] 67 (fun b3=>JC [(13,Pt b3 0)] (JK [] [(0,0),(1,0),(2,0),(3,6),(4,0),(5,0),(6,0),(7,6)] [] [8] (List.forall_mem_nil _) (Ke ?_ K4)))
 refine JD 8 [(11,(Jag t.setup a_0 c_0 a_1 c_1)),(15,Sl a_9 t.deeds.length c_9)] (fun X=>?_)
 refine Jx 3 (Qn (Ls:=[r_9]) (Lr:=([Sg b3 0 [I 0,Sl none 0 0,I 0,I 0,I 0,Sl none 0 0,Sl none 0 0,Sl none 0 0,Sl none 0 0,I 0,Sl none 0 0]]::[Sg b1 0 [I 0,Sl none 0 0,I 0,I 0,I 0,Sl none 0 0,Sl none 0 0,Sl none 0 0,Sl none 0 0,I 0,Sl none 0 0]]::[Sg b 0 (KK t a_0 c_0 a_1 c_1 a_9 c_9)]::Lr)) 16 (Jd8 G (W6 t.setup a_0 c_0 a_1 c_1) t.setup (⟨a_0,c_0,a_1,c_1,rfl,h_0,h_1,h_2,h_3,h_4,h_5,h_6,h_7,h_8⟩) a_9 c_9 t.deeds r_9 h_9) (fun v G2 L1 hl2 hp=>?_))
 obtain ⟨a8,c8,a9,c9,a10,c10,a11,c11,a12,c12,a13,c13,a14,c14,rfl,w6,hs8,w7,w8,w9,hs9,hs10,hs11,hs12,w10,hs13,hs14,rfl⟩:=hp
 refine JC [(8,.tuple #[(Jaw (JB t.setup t.deeds).1 a8 c8 a9 c9 a10 c10 a11 c11 a12 c12 a13 c13),Sl a14 (((JB t.setup t.deeds).2.1).length) c14,I ((JB t.setup t.deeds).2.2)]),(9,.tuple #[(Jaw (JB t.setup t.deeds).1 a8 c8 a9 c9 a10 c10 a11 c11 a12 c12 a13 c13),Sl a14 (((JB t.setup t.deeds).2.1).length) c14,I ((JB t.setup t.deeds).2.2)]),(10,(Jaw (JB t.setup t.deeds).1 a8 c8 a9 c9 a10 c10 a11 c11 a12 c12 a13 c13)),(11,Sl a14 (((JB t.setup t.deeds).2.1).length) c14),(12,I ((JB t.setup t.deeds).2.2))] (JK [0,1,2,3,4,5,6,7] [(9,0),(10,0),(11,0),(12,0)] [] [14] (List.forall_mem_nil _) (Ke ?_ K4))
 refine JD 14 [(4,Pt b3 0),(17,(Jaw (JB t.setup t.deeds).1 a8 c8 a9 c9 a10 c10 a11 c11 a12 c12 a13 c13))] (fun X=>?_)
 exact KL 1 (r_9::[Sg b3 0 (VP (JB t.setup t.deeds).1 a8 c8 a9 c9 a10 c10 a11 c11 a12 c12 a13 c13)]::[Sg b1 0 [I 0,Sl none 0 0,I 0,I 0,I 0,Sl none 0 0,Sl none 0 0,Sl none 0 0,Sl none 0 0,I 0,Sl none 0 0]]::[Sg b 0 (KK t a_0 c_0 a_1 c_1 a_9 c_9)]::Lr) (Kc [(15,Sl a14 (((JB t.setup t.deeds).2.1).length) c14),(16,I ((JB t.setup t.deeds).2.2))] (Km [0,1,2,3,4,5,6,7,9,10] [(11,0),(12,0),(15,0),(16,0)] [] [(2,Pt b1 0),(4,Pt b3 0),(5,Sl a14 (((JB t.setup t.deeds).2.1).length) c14),(6,I ((JB t.setup t.deeds).2.2))] (List.forall_mem_nil _) (Ji 3 (Ji 3 (Ji 2 (Ji 3 (Wb (b3,a14,c14,a8,c8,a9,c9,a10,c10,a11,c11,a12,c12,a13,c13,G2) ⟨hl2,hs14,w6,hs8,w7,w8,w9,hs9,hs10,hs11,hs12,w10,hs13⟩)))))))
 obtain ⟨b2,a7,c7,a1,c1,a2,c2,a3,c3,a4,c4,a5,c5,a6,c6,G1⟩:=q_
 obtain ⟨hle1,hj1,hj2,hj3,hj4,hj5,hj6,hj7,hj8,hj9,hj10,hj11,hj12⟩:=hs
 dsimp only at hle1 hj1 hj2 hj3 hj4 hj5 hj6 hj7 hj8 hj9 hj10 hj11 hj12
 dsimp only
 refine Je (Jc (Ja [0] [(20,I ((JB t.setup t.deeds).2.2))] (QJ (Ls:=[]) (Lr:=([Sg b2 0 (VP (JB t.setup t.deeds).1 a1 c1 a2 c2 a3 c3 a4 c4 a5 c5 a6 c6)]::r_9::[Sg b1 0 [I 0,Sl none 0 0,I 0,I 0,I 0,Sl none 0 0,Sl none 0 0,Sl none 0 0,Sl none 0 0,I 0,Sl none 0 0]]::[Sg b 0 (KK t a_0 c_0 a_1 c_1 a_9 c_9)]::Lr)) 21 hT ((Z6 G1 ((JB t.setup t.deeds).2.2)).frame) (fun v G3 L1 hl3 hp=>?_) (fun v G3 L1 hl3 hp=>?_))))
 obtain ⟨hne1,rfl,rfl⟩:=hp
 refine KJ ?_
 have hp1:(JB t.setup t.deeds).2.2=(JB t.setup t.deeds).2.2:=by
  rfl
 refine Ji 1 (Ji 3 ?_)
 refine ZR (Zp (Lr:=Lr) [[Sg b 0 (KK t a_0 c_0 a_1 c_1 a_9 c_9)],r_9] (Jp.le_trans hle1 hl3) ?_)
 rw [hp1];exact ⟨hne1,rfl,rfl⟩
 obtain ⟨_,rfl,rfl⟩:=hp
 refine Jd (Jb (Qx [2,0,7,0] [(3,Sl a7 (((JB t.setup t.deeds).2.1).length) c7)] ([Sg b2 0 (VP (JB t.setup t.deeds).1 a1 c1 a2 c2 a3 c3 a4 c4 a5 c5 a6 c6)]::r_9::[Sg b1 0 (VP (JB t.setup t.deeds).1 a1 c1 a2 c2 a3 c3 a4 c4 a5 c5 a6 c6)]::[Sg b 0 (KK t a_0 c_0 a_1 c_1 a_9 c_9)]::Lr) (Jl (Ji 1 (Ji 3 ?_)))))
 have hf1:(JB t.setup t.deeds).2.2=0∧(JB t.setup t.deeds).1=((JB t.setup t.deeds).1)∧(JB t.setup t.deeds).2.1=(JB t.setup t.deeds).2.1:=by
  exact ⟨by assumption,rfl,rfl⟩
 refine Jm [3,0] [(Jaw (JB t.setup t.deeds).1 a1 c1 a2 c2 a3 c3 a4 c4 a5 c5 a6 c6),Sl a7 (((JB t.setup t.deeds).2.1).length) c7] (bpx (KQ (Lr:=Lr) [[Sg b 0 (KK t a_0 c_0 a_1 c_1 a_9 c_9)],r_9] (Jp.le_trans hle1 hl3) ?_))
 rw [hf1.2.1,hf1.2.2]
 try dsimp only
 exact ⟨hf1.1,a1,c1,a2,c2,a3,c3,a4,c4,a5,c5,a6,c6,a7,c7,rfl,hj2,(hj3.mono hl3),hj4,hj5,hj6,(hj7.mono hl3),(hj8.mono hl3),(hj9.mono hl3),(hj10.mono hl3),hj11,(hj12.mono hl3),(hj1.mono hl3),rfl⟩
end Go.Proofs.YteaampgpgokjmaaGreatDoor
