import Derived.Test.YtnnlpbjdignhaaaGreatDoorTfTown
namespace Go.Proofs.YtnnlpbjdignhaaaGreatDoor
open Go.Tx
set_option linter.unusedVariables false
set_option linter.unusedSimpArgs false
open Go.Tx Go.Proofs
set_option maxRecDepth 20000 in
abbrev Qc (d:QM) (kn1:Nat) (t:JG):=JJ (Jp t (kn1:Int)) d.value
abbrev WA (d:QM) (kn1:Nat) (t:JG):=Ku t.town.clerk ((Qc d kn1 t).2.1)
abbrev VV (d:QM) (kn1:Nat):=(⟨d.kind,(kn1:Int),d.value,d.fates,d.letter⟩:QM)
abbrev Y1 (d:QM) (kn1:Nat) (t:JG):=JfZ (Qc d kn1 t).2.1
abbrev z4_4 (d:QM) (kn1:Nat) (t:JG):=(⟨(⟨((WA d kn1 t).1),t.town.owners.set kn1 ((Qc d kn1 t).1),t.town.polls,t.town.net⟩:QN),t.reach,t.fates,t.events⟩:JG)
abbrev JaH (d:QM) (kn1:Nat) (t:JG):=Jfc (Qc d kn1 t).2.1
set_option maxHeartbeats 1600000 in
theorem Jjw (G:Jt) (b:Nat) (t:JG) (a_1:Option Addr) (c_1:Nat) (a_5:Option Addr) (c_5:Nat) (a_6:Option Addr) (c_6:Nat) (a_7:Option Addr) (c_7:Nat) (a_8:Option Addr) (c_8:Nat) (a_10:Option Addr) (c_10:Nat) (a_12:Option Addr) (c_12:Nat) (a_13:Option Addr) (c_13:Nat) (r_7:List Kq) (r_8:List Kq) (r_12:List Kq) (r_13:List Kq) (h_0:rI t.town.clerk.queue.most) (h_1:RS QO G a_1 c_1 t.town.clerk.queue.wait) (h_2:rI t.town.clerk.batch) (h_3:rI t.town.clerk.every) (h_4:rI t.town.clerk.now) (h_5:RS KA G a_5 c_5 t.town.clerk.heads) (h_6:RS Qf G a_6 c_6 t.town.clerk.books) (h_7:J8 QI G a_7 c_7 t.town.owners r_7) (h_8:J8 Wi G a_8 c_8 t.town.polls r_8) (h_9:rI t.town.net.now) (h_10:RS Ki G a_10 c_10 t.town.net.way) (h_11:rI t.reach) (h_12:J8 YG G a_12 c_12 t.fates r_12) (h_13:J8 Q0 G a_13 c_13 t.events r_13) (vs_d:List Value) (d:QM) (h_d:Jdq.R G vs_d d) (hev:t.events.length≤1000000):Jar Tryz.prog 71 #[Pt b 0,.agg vs_d.toArray] G [[Sg b 0 [I t.town.clerk.queue.most,Sl a_1 t.town.clerk.queue.wait.length c_1,I t.town.clerk.batch,I t.town.clerk.every,I t.town.clerk.now,Sl a_5 t.town.clerk.heads.length c_5,Sl a_6 t.town.clerk.books.length c_6,Sl a_7 t.town.owners.length c_7,Sl a_8 t.town.polls.length c_8,I t.town.net.now,Sl a_10 t.town.net.way.length c_10,I t.reach,Sl a_12 t.fates.length c_12,Sl a_13 t.events.length c_13]],r_7,r_8,r_12,r_13] (fun u G' L'=>∃ (a_z1:Option Addr) (c_z1:Nat) (a_z5:Option Addr) (c_z5:Nat) (a_z6:Option Addr) (c_z6:Nat) (a_z7:Option Addr) (c_z7:Nat) (a_z8:Option Addr) (c_z8:Nat) (a_z10:Option Addr) (c_z10:Nat) (a_z12:Option Addr) (c_z12:Nat) (a_z13:Option Addr) (c_z13:Nat) (r_z7:List Kq) (r_z8:List Kq) (r_z12:List Kq) (r_z13:List Kq),u=.tuple #[]∧(rI ((QT t d).town.clerk.queue.most))∧(RS QO G' a_z1 c_z1 ((QT t d).town.clerk.queue.wait))∧(rI ((QT t d).town.clerk.batch))∧(rI ((QT t d).town.clerk.every))∧(rI ((QT t d).town.clerk.now))∧(RS KA G' a_z5 c_z5 ((QT t d).town.clerk.heads))∧(RS Qf G' a_z6 c_z6 ((QT t d).town.clerk.books))∧(J8 QI G' a_z7 c_z7 ((QT t d).town.owners) r_z7)∧(J8 Wi G' a_z8 c_z8 ((QT t d).town.polls) r_z8)∧(rI ((QT t d).town.net.now))∧(RS Ki G' a_z10 c_z10 ((QT t d).town.net.way))∧(rI ((QT t d).reach))∧(J8 YG G' a_z12 c_z12 ((QT t d).fates) r_z12)∧(J8 Q0 G' a_z13 c_z13 ((QT t d).events) r_z13)∧L'=[[Sg b 0 [I ((QT t d).town.clerk.queue.most),Sl a_z1 (((QT t d).town.clerk.queue.wait).length) c_z1,I ((QT t d).town.clerk.batch),I ((QT t d).town.clerk.every),I ((QT t d).town.clerk.now),Sl a_z5 (((QT t d).town.clerk.heads).length) c_z5,Sl a_z6 (((QT t d).town.clerk.books).length) c_z6,Sl a_z7 (((QT t d).town.owners).length) c_z7,Sl a_z8 (((QT t d).town.polls).length) c_z8,I ((QT t d).town.net.now),Sl a_z10 (((QT t d).town.net.way).length) c_z10,I ((QT t d).reach),Sl a_z12 (((QT t d).fates).length) c_z12,Sl a_z13 (((QT t d).events).length) c_z13]],r_z7,r_z8,r_z12,r_z13]):=by
 obtain ⟨a1,c1,a2,c2,a3,c3,a4,c4,rfl,_,_,w3,_,_,_,_,_,_,_,_,_,_,_,_,_⟩:=h_d
 intro Lr
 refine JL Tryz.func71 84 [(0,Pt b 0),(1,(Jcx d a1 c1 a2 c2 a3 c3 a4 c4))] rfl (fun w0 G0=>?_)
 show TC _ _ _ _ _ ([Sg b 0 (JR t a_1 c_1 a_5 c_5 a_6 c_6 a_7 c_7 a_8 c_8 a_10 c_10 a_12 c_12 a_13 c_13)]::r_7::r_8::r_12::r_13::Lr)
 refine Je (Jb ?_)
 refine Ju 3 #[I d.kind,I d.who,Sr d.value,Sl a1 d.fates.length c1,I d.letter.to_,I d.letter.from_,I d.letter.since,I d.letter.due,Sl a2 d.letter.heads.length c2,I d.letter.reply.head.epoch,U d.letter.reply.head.root,U d.letter.reply.head.prev,I d.letter.reply.head.at_,Sr d.letter.reply.proof.name,Sl a3 d.letter.reply.proof.entries.length c3,Sl a4 d.letter.reply.proof.sides.length c4] 74 (fun b1=>?_)
 refine Jd (Ja (Je (Je (Jb ?_))))
 refine Jc [0,0,2] [(0,Pt b 0),(3,Pt b1 0),(10,Pt b 0),(12,I d.who)] ?_
 refine JF 5 ?_
 refine JF 5 ?_
 refine JF 5 ?_
 refine JF 5 ?_
 refine JF 5 ?_
 refine Qk (Ls:=[[Sg b 0 (JR t a_1 c_1 a_5 c_5 a_6 c_6 a_7 c_7 a_8 c_8 a_10 c_10 a_12 c_12 a_13 c_13)],r_7,r_8,r_12,r_13]) (Lr:=([Sg b1 0 (Wp d a1 c1 a2 c2 a3 c3 a4 c4)]::Lr)) 13 (JaG G b t a_1 c_1 a_5 c_5 a_6 c_6 a_7 c_7 a_8 c_8 a_10 c_10 a_12 c_12 a_13 c_13 r_7 r_8 r_12 r_13 h_0 h_1 h_2 h_3 h_4 h_5 h_6 h_7 h_8 h_9 h_10 h_11 h_12 h_13 d.who) (fun v G1 L1 hl1 hp=>?_)
 obtain ⟨a5,c5,a6,c6,a7,c7,a8,c8,a9,c9,a10,c10,a11,c11,a12,c12,r1,r2,r3,r4,rfl,w13,hs5,w14,w15,w16,hs6,hs7,hr1,hr2,w17,hs8,w18,hr3,hr4,rfl⟩:=hp
 refine Jc [0] [(0,Pt b 0),(3,Pt b1 0),(14,Bo (!(Wy t d.who)))] (Jd (Ja ?_))
 refine Jo (!(Wy t d.who)) (fun h1=>?_) (fun h1=>?_)
 try simp only [BB] at h1
 refine Jk (Jh ?_)
 refine Jj 4 ?_
 refine Jj 4 ?_
 refine Jj 4 ?_
 refine Jj 4 ?_
 refine Jj 4 ?_
 have hf1:QT t d=t:=by
  exact tWant0 ‹_›
 refine Jl [] [] (QW (Lr:=Lr) [[Sg b 0 (JR t a5 c5 a6 c6 a7 c7 a8 c8 a9 c9 a10 c10 a11 c11 a12 c12)],r1,r2,r3,r4] (.cons_cons _ (.cons_cons _ (.cons_cons _ (.cons_cons _ (.cons_cons _ (.cons _ (List.Sublist.refl _))))))) hl1 ?_)
 rw [hf1];try dsimp only
 exact ⟨a5,c5,a6,c6,a7,c7,a8,c8,a9,c9,a10,c10,a11,c11,a12,c12,r1,r2,r3,r4,rfl,w13,hs5,w14,w15,w16,hs6,hs7,hr1,hr2,w17,hs8,w18,hr3,hr4,rfl⟩
 try simp only [BB] at h1
 refine Jm (Ja ?_)
 have hown:=Vz.1 (show Wy t d.who=true by assumption)
 obtain ⟨kn1,hkn1⟩:∃ k_:Nat,d.who=(k_:Int):=⟨(d.who).toNat,by omega⟩
 have e1:d.who=(kn1:Int):=hkn1
 refine KJ (fr':=[(0,Pt b 0),(3,Pt b1 0),(14,Bo (!(Wy t d.who)))]) (L':=([Sg b 0 [I t.town.clerk.queue.most,Sl a5 t.town.clerk.queue.wait.length c5,I t.town.clerk.batch,I t.town.clerk.every,I t.town.clerk.now,Sl a6 t.town.clerk.heads.length c6,Sl a7 t.town.clerk.books.length c7,Sl a8 t.town.owners.length c8,Sl a9 t.town.polls.length c9,I t.town.net.now,Sl a10 t.town.net.way.length c10,I t.reach,Sl a11 t.fates.length c11,Sl a12 t.events.length c12]]::r1::r2::r3::r4::[Sg b1 0 [I d.kind,I (kn1:Int),Sr d.value,Sl a1 d.fates.length c1,I d.letter.to_,I d.letter.from_,I d.letter.since,I d.letter.due,Sl a2 d.letter.heads.length c2,I d.letter.reply.head.epoch,U d.letter.reply.head.root,U d.letter.reply.head.prev,I d.letter.reply.head.at_,Sr d.letter.reply.proof.name,Sl a3 d.letter.reply.proof.entries.length c3,Sl a4 d.letter.reply.proof.sides.length c4]]::Lr)) (by rfl) (by (simp only [Jfc,Kn,Wp,Kt,JR,JfZ,KP,Jcx,Ko,e1];first | done | rfl)) ?_
 refine Je ?_
 have hx1:(t.town.owners)[kn1]? = some (Jp t (kn1:Int)):=Z4 (by omega)
 obtain ⟨b2,o1,_,_,⟨a13,c13,rfl,w19,w20,w21,w22,w23,w24,hs9,w25⟩,ha1,hre1,hc1⟩:=J8.ix hr1 hx1
 refine Kw [] ?_
 refine Wa [(0,Pt b 0),(1,Pt b 0),(2,Pt b 0),(3,Pt b 7),(4,Sl a8 t.town.owners.length c8),(5,Pt b1 1),(6,I (kn1:Int)),(7,Pt b2 (o1+kn1*8)),(8,Pt b2 (o1+kn1*8+6)),(9,Sl a13 (((Jp t (kn1:Int)).wanted).length) c13),(10,I ((((Jp t (kn1:Int)).wanted).length:Nat):Int)),(11,I ((((Jp t (kn1:Int)).wanted).length:Nat):Int))] ?_
 refine Kv [] [(0,0),(1,0),(2,0),(3,0),(4,2),(5,0),(6,12),(8,0),(10,0),(11,0)] [7,9] [(0,Pt b 0),(3,Pt b1 0),(4,I ((((Jp t (kn1:Int)).wanted).length:Nat):Int))] (List.forall_mem_cons.2 ⟨?_,(List.forall_mem_cons.2 ⟨?_,List.forall_mem_nil _⟩)⟩) ?_
 refine Jq 7 22 (Pt b2 (o1+kn1*8)) [(19,Sl a8 t.town.owners.length c8),(21,I (kn1:Int))] (fun X=>?_)
 exact Qq (b:=b2) (off:=o1) (len:=t.town.owners.length) (cap:=c8) (ik:=.i64) 22 52 8 kn1 ha1 (by omega) Jn
 refine Jq 9 24 (Sl a13 (((Jp t (kn1:Int)).wanted).length) c13) [(23,Pt b2 (o1+kn1*8+6))] (fun X=>?_)
 exact WL (off:=o1) (p:=kn1*8) (cs:=(Kt (Jp t (kn1:Int)) a13 c13)) 24 22 1 6 (Sl a13 (((Jp t (kn1:Int)).wanted).length) c13) hre1 hc1 Jn
 refine Ja ?_
 refine VC (σ:=Nat×Nat×(Option Addr)×Nat×Jt) (fun q_=>(Jt.le G1 q_.2.2.2.2)∧((((Qc d kn1 t).2.1).name).length≤140737488351232)∧((((Qc d kn1 t).2.1).value).length≤140737488351232)∧(rU (((Qc d kn1 t).2.1).n))∧(rU (((Qc d kn1 t).2.1).tag))∧((((Qc d kn1 t).1).name).length≤140737488351232)∧(rU (((Qc d kn1 t).1).key))∧(rI (((Qc d kn1 t).1).head.epoch))∧(rU (((Qc d kn1 t).1).head.root))∧(rU (((Qc d kn1 t).1).head.prev))∧(rI (((Qc d kn1 t).1).head.at_))∧(RS ES q_.2.2.2.2 q_.2.2.1 q_.2.2.2.1 (((Qc d kn1 t).1).wanted))∧(rI (((Qc d kn1 t).1).had))) (fun q_=>[(0,Pt b 0),(3,Pt b1 0),(4,I ((((Jp t (kn1:Int)).wanted).length:Nat):Int)),(5,Pt q_.1 0),(6,Pt q_.2.1 0),(7,I ((Qc d kn1 t).2.2))]) (fun q_=>q_.2.2.2.2) (fun q_=>([Sg q_.2.1 0 (JaH d kn1 t)]::[Sg q_.1 0 (Kt (Qc d kn1 t).1 q_.2.2.1 q_.2.2.2.1)]::[Sg b 0 (JR t a5 c5 a6 c6 a7 c7 a8 c8 a9 c9 a10 c10 a11 c11 a12 c12)]::r1::r2::r3::r4::[Sg b1 0 (Wp (VV d kn1) a1 c1 a2 c2 a3 c3 a4 c4)]::Lr)) ?_ (fun q_ hs=>?_)
 refine Kw [11,16,17,18,19] ?_
 refine Wa [(0,Pt b 0),(1,Pt b 0),(2,Pt b 0),(3,Pt b 7),(4,Sl a8 t.town.owners.length c8),(5,Pt b1 1),(6,I (kn1:Int)),(7,Pt b2 (o1+kn1*8)),(8,(Ko (Jp t (kn1:Int)) a13 c13)),(9,Pt b1 2),(10,Sr d.value)] ?_
 refine JZ [] [(0,0),(1,0),(2,0),(3,0),(4,2),(5,0),(6,12),(9,0),(10,12)] [7,8] [11,16,17] (List.forall_mem_cons.2 ⟨?_,(List.forall_mem_cons.2 ⟨?_,List.forall_mem_nil _⟩)⟩) (List.forall_mem_cons.2 ⟨?_,(List.forall_mem_cons.2 ⟨?_,(List.forall_mem_cons.2 ⟨?_,List.forall_mem_nil _⟩)⟩)⟩)
 refine Jq 7 34 (Pt b2 (o1+kn1*8)) [(31,Sl a8 t.town.owners.length c8),(33,I (kn1:Int))] (fun X=>?_)
 exact Qq (b:=b2) (off:=o1) (len:=t.town.owners.length) (cap:=c8) (ik:=.i64) 34 52 8 kn1 ha1 (by omega) Jn
 refine Jq 8 35 (Ko (Jp t (kn1:Int)) a13 c13) [(34,Pt b2 (o1+kn1*8))] (fun X=>?_)
 exact WL (off:=o1) (p:=kn1*8) (cs:=(Kt (Jp t (kn1:Int)) a13 c13)) 35 52 1 0 (Ko (Jp t (kn1:Int)) a13 c13) hre1 hc1 Jn
 refine JO 11 [(35,(Ko (Jp t (kn1:Int)) a13 c13)),(37,Sr d.value)] (fun X=>?_)
 refine JN 38 (Yj G1 (Kt (Jp t (kn1:Int)) a13 c13) (Jp t (kn1:Int)) (⟨a13,c13,rfl,w19,w20,w21,w22,w23,w24,hs9,w25⟩) d.value w3) (fun v G2 L1 hl2 hp=>?_)
 obtain ⟨a14,c14,rfl,w26,w27,w28,w29,w30,w31,hs10,w32,w33,w34,w35,w36,rfl⟩:=hp
 refine JS [(11,.tuple #[(Ko (Qc d kn1 t).1 a14 c14),(Y1 d kn1 t),I ((Qc d kn1 t).2.2)]),(12,.tuple #[(Ko (Qc d kn1 t).1 a14 c14),(Y1 d kn1 t),I ((Qc d kn1 t).2.2)]),(13,(Ko (Qc d kn1 t).1 a14 c14)),(14,(Y1 d kn1 t)),(15,I ((Qc d kn1 t).2.2))] ?_
 refine JZ [0,1,2,3,4,5,6,7,8,9,10] [(12,0),(13,0),(14,0),(15,0)] [] [16,17] (List.forall_mem_nil _) (List.forall_mem_cons.2 ⟨?_,(List.forall_mem_cons.2 ⟨?_,List.forall_mem_nil _⟩)⟩)
 refine JO 16 [] (fun X=>?_)
 refine Ju 5 #[Sr ([]),U 0,I 0,U 0,U 0,I 0,Sl none 0 0,I 0] 52 (fun b3=>?_)
 refine JS [(16,Pt b3 0)] ?_
 refine JZ [0,1,2,3,4,5,6,7,8,9,10] [(12,0),(13,0),(14,0),(15,0)] [] [17] (List.forall_mem_nil _) (List.forall_mem_cons.2 ⟨?_,List.forall_mem_nil _⟩)
 refine JO 17 [] (fun X=>?_)
 refine Ju 6 #[Sr ([]),Sr ([]),U 0,U 0] 83 (fun b4=>?_)
 refine JS [(17,Pt b4 0)] ?_
 refine JZ [0,1,2,3,4,5,6,7,8,9,10] [(12,0),(13,0),(14,0),(15,0)] [] [18] (List.forall_mem_nil _) (List.forall_mem_cons.2 ⟨?_,List.forall_mem_nil _⟩)
 refine JO 18 [(5,Pt b3 0),(39,(Ko (Qc d kn1 t).1 a14 c14))] (fun X=>?_)
 refine KQ 1 ([Sg b4 0 [Sr ([]),Sr ([]),U 0,U 0]]::[Sg b3 0 (Kt (Qc d kn1 t).1 a14 c14)]::[Sg b 0 (JR t a5 c5 a6 c6 a7 c7 a8 c8 a9 c9 a10 c10 a11 c11 a12 c12)]::r1::r2::r3::r4::[Sg b1 0 (Wp (VV d kn1) a1 c1 a2 c2 a3 c3 a4 c4)]::Lr) ?_
 refine Kj [] ?_
 refine JZ [0,1,2,3,4,5,6,7,8,9,10,12,13] [(14,0),(15,0)] [] [19] (List.forall_mem_nil _) (List.forall_mem_cons.2 ⟨?_,List.forall_mem_nil _⟩)
 refine JO 19 [(6,Pt b4 0),(40,(Y1 d kn1 t))] (fun X=>?_)
 refine KQ 0 ([Sg b4 0 (JaH d kn1 t)]::[Sg b3 0 (Kt (Qc d kn1 t).1 a14 c14)]::[Sg b 0 (JR t a5 c5 a6 c6 a7 c7 a8 c8 a9 c9 a10 c10 a11 c11 a12 c12)]::r1::r2::r3::r4::[Sg b1 0 (Wp (VV d kn1) a1 c1 a2 c2 a3 c3 a4 c4)]::Lr) ?_
 refine Kj [(20,I ((Qc d kn1 t).2.2))] ?_
 refine Kv [0,1,2,3,4,5,6,7,8,9,10,12,13,14] [(15,0),(20,0)] [] [(0,Pt b 0),(3,Pt b1 0),(4,I ((((Jp t (kn1:Int)).wanted).length:Nat):Int)),(5,Pt b3 0),(6,Pt b4 0),(7,I ((Qc d kn1 t).2.2))] (List.forall_mem_nil _) ?_
 exact WJ (b3,b4,a14,c14,G2) ⟨hl2,w33,w34,w35,w36,w26,w27,w28,w29,w30,w31,hs10,w32⟩
 refine JO 17 [] (fun X=>?_)
 refine Ju 6 #[Sr ([]),Sr ([]),U 0,U 0] 83 (fun b5=>?_)
 refine JS [(17,Pt b5 0)] ?_
 refine JZ [0,1,2,3,4,5,6,7,8,9,10] [(12,0),(13,0),(14,0),(15,0)] [] [16] (List.forall_mem_nil _) (List.forall_mem_cons.2 ⟨?_,List.forall_mem_nil _⟩)
 refine JO 16 [] (fun X=>?_)
 refine Ju 5 #[Sr ([]),U 0,I 0,U 0,U 0,I 0,Sl none 0 0,I 0] 52 (fun b6=>?_)
 refine JS [(16,Pt b6 0)] ?_
 refine JZ [0,1,2,3,4,5,6,7,8,9,10] [(12,0),(13,0),(14,0),(15,0)] [] [18] (List.forall_mem_nil _) (List.forall_mem_cons.2 ⟨?_,List.forall_mem_nil _⟩)
 refine JO 18 [(5,Pt b6 0),(39,(Ko (Qc d kn1 t).1 a14 c14))] (fun X=>?_)
 refine KQ 0 ([Sg b6 0 (Kt (Qc d kn1 t).1 a14 c14)]::[Sg b5 0 [Sr ([]),Sr ([]),U 0,U 0]]::[Sg b 0 (JR t a5 c5 a6 c6 a7 c7 a8 c8 a9 c9 a10 c10 a11 c11 a12 c12)]::r1::r2::r3::r4::[Sg b1 0 (Wp (VV d kn1) a1 c1 a2 c2 a3 c3 a4 c4)]::Lr) ?_
 refine Kj [] ?_
 refine JZ [0,1,2,3,4,5,6,7,8,9,10,12,13] [(14,0),(15,0)] [] [19] (List.forall_mem_nil _) (List.forall_mem_cons.2 ⟨?_,List.forall_mem_nil _⟩)
 refine JO 19 [(6,Pt b5 0),(40,(Y1 d kn1 t))] (fun X=>?_)
 refine KQ 1 ([Sg b6 0 (Kt (Qc d kn1 t).1 a14 c14)]::[Sg b5 0 (JaH d kn1 t)]::[Sg b 0 (JR t a5 c5 a6 c6 a7 c7 a8 c8 a9 c9 a10 c10 a11 c11 a12 c12)]::r1::r2::r3::r4::[Sg b1 0 (Wp (VV d kn1) a1 c1 a2 c2 a3 c3 a4 c4)]::Lr) ?_
 refine Kj [(20,I ((Qc d kn1 t).2.2))] ?_
 refine Kv [0,1,2,3,4,5,6,7,8,9,10,12,13,14] [(15,0),(20,0)] [] [(0,Pt b 0),(3,Pt b1 0),(4,I ((((Jp t (kn1:Int)).wanted).length:Nat):Int)),(5,Pt b6 0),(6,Pt b5 0),(7,I ((Qc d kn1 t).2.2))] (List.forall_mem_nil _) ?_
 refine Jj 7 ?_
 refine Jj 7 ?_
 refine Jj 7 ?_
 refine Jj 7 ?_
 refine Jj 7 ?_
 refine Jj 7 ?_
 refine Jj 6 ?_
 refine Jj 7 ?_
 exact WJ (b6,b5,a14,c14,G2) ⟨hl2,w33,w34,w35,w36,w26,w27,w28,w29,w30,w31,hs10,w32⟩
 refine JO 16 [] (fun X=>?_)
 refine Ju 5 #[Sr ([]),U 0,I 0,U 0,U 0,I 0,Sl none 0 0,I 0] 52 (fun b7=>?_)
 refine JS [(16,Pt b7 0)] ?_
 refine JZ [] [(0,0),(1,0),(2,0),(3,0),(4,4),(5,0),(6,14),(9,0),(10,14)] [7,8] [11,17] (List.forall_mem_cons.2 ⟨?_,(List.forall_mem_cons.2 ⟨?_,List.forall_mem_nil _⟩)⟩) (List.forall_mem_cons.2 ⟨?_,(List.forall_mem_cons.2 ⟨?_,List.forall_mem_nil _⟩)⟩)
 refine Jq 7 34 (Pt b2 (o1+kn1*8)) [(31,Sl a8 t.town.owners.length c8),(33,I (kn1:Int))] (fun X=>?_)
 exact Qq (b:=b2) (off:=o1) (len:=t.town.owners.length) (cap:=c8) (ik:=.i64) 34 52 8 kn1 ha1 (by omega) Jn
 refine Jq 8 35 (Ko (Jp t (kn1:Int)) a13 c13) [(34,Pt b2 (o1+kn1*8))] (fun X=>?_)
 exact WL (off:=o1) (p:=kn1*8) (cs:=(Kt (Jp t (kn1:Int)) a13 c13)) 35 52 2 0 (Ko (Jp t (kn1:Int)) a13 c13) hre1 hc1 Jn
 refine JO 11 [(35,(Ko (Jp t (kn1:Int)) a13 c13)),(37,Sr d.value)] (fun X=>?_)
 refine JN 38 (Yj G1 (Kt (Jp t (kn1:Int)) a13 c13) (Jp t (kn1:Int)) (⟨a13,c13,rfl,w19,w20,w21,w22,w23,w24,hs9,w25⟩) d.value w3) (fun v G3 L1 hl3 hp=>?_)
 obtain ⟨a15,c15,rfl,w37,w38,w39,w40,w41,w42,hs11,w43,w44,w45,w46,w47,rfl⟩:=hp
 refine JS [(11,.tuple #[(Ko (Qc d kn1 t).1 a15 c15),(Y1 d kn1 t),I ((Qc d kn1 t).2.2)]),(12,.tuple #[(Ko (Qc d kn1 t).1 a15 c15),(Y1 d kn1 t),I ((Qc d kn1 t).2.2)]),(13,(Ko (Qc d kn1 t).1 a15 c15)),(14,(Y1 d kn1 t)),(15,I ((Qc d kn1 t).2.2))] ?_
 refine JZ [0,1,2,3,4,5,6,7,8,9,10] [(12,0),(13,0),(14,0),(15,0)] [] [17] (List.forall_mem_nil _) (List.forall_mem_cons.2 ⟨?_,List.forall_mem_nil _⟩)
 refine JO 17 [] (fun X=>?_)
 refine Ju 6 #[Sr ([]),Sr ([]),U 0,U 0] 83 (fun b8=>?_)
 refine JS [(17,Pt b8 0)] ?_
 refine JZ [0,1,2,3,4,5,6,7,8,9,10] [(12,0),(13,0),(14,0),(15,0)] [] [18] (List.forall_mem_nil _) (List.forall_mem_cons.2 ⟨?_,List.forall_mem_nil _⟩)
 refine JO 18 [(5,Pt b7 0),(39,(Ko (Qc d kn1 t).1 a15 c15))] (fun X=>?_)
 refine KQ 1 ([Sg b8 0 [Sr ([]),Sr ([]),U 0,U 0]]::[Sg b7 0 (Kt (Qc d kn1 t).1 a15 c15)]::[Sg b 0 (JR t a5 c5 a6 c6 a7 c7 a8 c8 a9 c9 a10 c10 a11 c11 a12 c12)]::r1::r2::r3::r4::[Sg b1 0 (Wp (VV d kn1) a1 c1 a2 c2 a3 c3 a4 c4)]::Lr) ?_
 refine Kj [] ?_
 refine JZ [0,1,2,3,4,5,6,7,8,9,10,12,13] [(14,0),(15,0)] [] [19] (List.forall_mem_nil _) (List.forall_mem_cons.2 ⟨?_,List.forall_mem_nil _⟩)
 refine JO 19 [(6,Pt b8 0),(40,(Y1 d kn1 t))] (fun X=>?_)
 refine KQ 0 ([Sg b8 0 (JaH d kn1 t)]::[Sg b7 0 (Kt (Qc d kn1 t).1 a15 c15)]::[Sg b 0 (JR t a5 c5 a6 c6 a7 c7 a8 c8 a9 c9 a10 c10 a11 c11 a12 c12)]::r1::r2::r3::r4::[Sg b1 0 (Wp (VV d kn1) a1 c1 a2 c2 a3 c3 a4 c4)]::Lr) ?_
 refine Kj [(20,I ((Qc d kn1 t).2.2))] ?_
 refine Kv [0,1,2,3,4,5,6,7,8,9,10,12,13,14] [(15,0),(20,0)] [] [(0,Pt b 0),(3,Pt b1 0),(4,I ((((Jp t (kn1:Int)).wanted).length:Nat):Int)),(5,Pt b7 0),(6,Pt b8 0),(7,I ((Qc d kn1 t).2.2))] (List.forall_mem_nil _) ?_
 exact WJ (b7,b8,a15,c15,G3) ⟨hl3,w44,w45,w46,w47,w37,w38,w39,w40,w41,w42,hs11,w43⟩
 refine JO 17 [] (fun X=>?_)
 refine Ju 6 #[Sr ([]),Sr ([]),U 0,U 0] 83 (fun b9=>?_)
 refine JS [(17,Pt b9 0)] ?_
 refine JZ [] [(0,0),(1,0),(2,0),(3,0),(4,6),(5,0),(6,16),(9,0),(10,16)] [7,8] [11] (List.forall_mem_cons.2 ⟨?_,(List.forall_mem_cons.2 ⟨?_,List.forall_mem_nil _⟩)⟩) (List.forall_mem_cons.2 ⟨?_,List.forall_mem_nil _⟩)
 refine Jq 7 34 (Pt b2 (o1+kn1*8)) [(31,Sl a8 t.town.owners.length c8),(33,I (kn1:Int))] (fun X=>?_)
 exact Qq (b:=b2) (off:=o1) (len:=t.town.owners.length) (cap:=c8) (ik:=.i64) 34 52 8 kn1 ha1 (by omega) Jn
 refine Jq 8 35 (Ko (Jp t (kn1:Int)) a13 c13) [(34,Pt b2 (o1+kn1*8))] (fun X=>?_)
 exact WL (off:=o1) (p:=kn1*8) (cs:=(Kt (Jp t (kn1:Int)) a13 c13)) 35 52 3 0 (Ko (Jp t (kn1:Int)) a13 c13) hre1 hc1 Jn
 refine JO 11 [(35,(Ko (Jp t (kn1:Int)) a13 c13)),(37,Sr d.value)] (fun X=>?_)
 refine JN 38 (Yj G1 (Kt (Jp t (kn1:Int)) a13 c13) (Jp t (kn1:Int)) (⟨a13,c13,rfl,w19,w20,w21,w22,w23,w24,hs9,w25⟩) d.value w3) (fun v G4 L1 hl4 hp=>?_)
 obtain ⟨a16,c16,rfl,w48,w49,w50,w51,w52,w53,hs12,w54,w55,w56,w57,w58,rfl⟩:=hp
 refine JS [(11,.tuple #[(Ko (Qc d kn1 t).1 a16 c16),(Y1 d kn1 t),I ((Qc d kn1 t).2.2)]),(12,.tuple #[(Ko (Qc d kn1 t).1 a16 c16),(Y1 d kn1 t),I ((Qc d kn1 t).2.2)]),(13,(Ko (Qc d kn1 t).1 a16 c16)),(14,(Y1 d kn1 t)),(15,I ((Qc d kn1 t).2.2))] ?_
 refine JZ [0,1,2,3,4,5,6,7,8,9,10] [(12,0),(13,0),(14,0),(15,0)] [] [18] (List.forall_mem_nil _) (List.forall_mem_cons.2 ⟨?_,List.forall_mem_nil _⟩)
 refine JO 18 [(5,Pt b7 0),(39,(Ko (Qc d kn1 t).1 a16 c16))] (fun X=>?_)
 refine KQ 1 ([Sg b9 0 [Sr ([]),Sr ([]),U 0,U 0]]::[Sg b7 0 (Kt (Qc d kn1 t).1 a16 c16)]::[Sg b 0 (JR t a5 c5 a6 c6 a7 c7 a8 c8 a9 c9 a10 c10 a11 c11 a12 c12)]::r1::r2::r3::r4::[Sg b1 0 (Wp (VV d kn1) a1 c1 a2 c2 a3 c3 a4 c4)]::Lr) ?_
 refine Kj [] ?_
 refine JZ [0,1,2,3,4,5,6,7,8,9,10,12,13] [(14,0),(15,0)] [] [19] (List.forall_mem_nil _) (List.forall_mem_cons.2 ⟨?_,List.forall_mem_nil _⟩)
 refine JO 19 [(6,Pt b9 0),(40,(Y1 d kn1 t))] (fun X=>?_)
 refine KQ 0 ([Sg b9 0 (JaH d kn1 t)]::[Sg b7 0 (Kt (Qc d kn1 t).1 a16 c16)]::[Sg b 0 (JR t a5 c5 a6 c6 a7 c7 a8 c8 a9 c9 a10 c10 a11 c11 a12 c12)]::r1::r2::r3::r4::[Sg b1 0 (Wp (VV d kn1) a1 c1 a2 c2 a3 c3 a4 c4)]::Lr) ?_
 refine Kj [(20,I ((Qc d kn1 t).2.2))] ?_
 refine Kv [0,1,2,3,4,5,6,7,8,9,10,12,13,14] [(15,0),(20,0)] [] [(0,Pt b 0),(3,Pt b1 0),(4,I ((((Jp t (kn1:Int)).wanted).length:Nat):Int)),(5,Pt b7 0),(6,Pt b9 0),(7,I ((Qc d kn1 t).2.2))] (List.forall_mem_nil _) ?_
 exact WJ (b7,b9,a16,c16,G4) ⟨hl4,w55,w56,w57,w58,w48,w49,w50,w51,w52,w53,hs12,w54⟩
 refine JO 17 [] (fun X=>?_)
 refine Ju 6 #[Sr ([]),Sr ([]),U 0,U 0] 83 (fun b10=>?_)
 refine JS [(17,Pt b10 0)] ?_
 refine JZ [] [(0,0),(1,0),(2,0),(3,0),(4,4),(5,0),(6,14),(9,0),(10,14)] [7,8] [11,16] (List.forall_mem_cons.2 ⟨?_,(List.forall_mem_cons.2 ⟨?_,List.forall_mem_nil _⟩)⟩) (List.forall_mem_cons.2 ⟨?_,(List.forall_mem_cons.2 ⟨?_,List.forall_mem_nil _⟩)⟩)
 refine Jq 7 34 (Pt b2 (o1+kn1*8)) [(31,Sl a8 t.town.owners.length c8),(33,I (kn1:Int))] (fun X=>?_)
 exact Qq (b:=b2) (off:=o1) (len:=t.town.owners.length) (cap:=c8) (ik:=.i64) 34 52 8 kn1 ha1 (by omega) Jn
 refine Jq 8 35 (Ko (Jp t (kn1:Int)) a13 c13) [(34,Pt b2 (o1+kn1*8))] (fun X=>?_)
 exact WL (off:=o1) (p:=kn1*8) (cs:=(Kt (Jp t (kn1:Int)) a13 c13)) 35 52 2 0 (Ko (Jp t (kn1:Int)) a13 c13) hre1 hc1 Jn
 refine JO 11 [(35,(Ko (Jp t (kn1:Int)) a13 c13)),(37,Sr d.value)] (fun X=>?_)
 refine JN 38 (Yj G1 (Kt (Jp t (kn1:Int)) a13 c13) (Jp t (kn1:Int)) (⟨a13,c13,rfl,w19,w20,w21,w22,w23,w24,hs9,w25⟩) d.value w3) (fun v G5 L1 hl5 hp=>?_)
 obtain ⟨a17,c17,rfl,w59,w60,w61,w62,w63,w64,hs13,w65,w66,w67,w68,w69,rfl⟩:=hp
 refine JS [(11,.tuple #[(Ko (Qc d kn1 t).1 a17 c17),(Y1 d kn1 t),I ((Qc d kn1 t).2.2)]),(12,.tuple #[(Ko (Qc d kn1 t).1 a17 c17),(Y1 d kn1 t),I ((Qc d kn1 t).2.2)]),(13,(Ko (Qc d kn1 t).1 a17 c17)),(14,(Y1 d kn1 t)),(15,I ((Qc d kn1 t).2.2))] ?_
 refine JZ [0,1,2,3,4,5,6,7,8,9,10] [(12,0),(13,0),(14,0),(15,0)] [] [16] (List.forall_mem_nil _) (List.forall_mem_cons.2 ⟨?_,List.forall_mem_nil _⟩)
 refine JO 16 [] (fun X=>?_)
 refine Ju 5 #[Sr ([]),U 0,I 0,U 0,U 0,I 0,Sl none 0 0,I 0] 52 (fun b11=>?_)
 refine JS [(16,Pt b11 0)] ?_
 refine JZ [0,1,2,3,4,5,6,7,8,9,10] [(12,0),(13,0),(14,0),(15,0)] [] [18] (List.forall_mem_nil _) (List.forall_mem_cons.2 ⟨?_,List.forall_mem_nil _⟩)
 refine JO 18 [(5,Pt b11 0),(39,(Ko (Qc d kn1 t).1 a17 c17))] (fun X=>?_)
 refine KQ 0 ([Sg b11 0 (Kt (Qc d kn1 t).1 a17 c17)]::[Sg b10 0 [Sr ([]),Sr ([]),U 0,U 0]]::[Sg b 0 (JR t a5 c5 a6 c6 a7 c7 a8 c8 a9 c9 a10 c10 a11 c11 a12 c12)]::r1::r2::r3::r4::[Sg b1 0 (Wp (VV d kn1) a1 c1 a2 c2 a3 c3 a4 c4)]::Lr) ?_
 refine Kj [] ?_
 refine JZ [0,1,2,3,4,5,6,7,8,9,10,12,13] [(14,0),(15,0)] [] [19] (List.forall_mem_nil _) (List.forall_mem_cons.2 ⟨?_,List.forall_mem_nil _⟩)
 refine JO 19 [(6,Pt b10 0),(40,(Y1 d kn1 t))] (fun X=>?_)
 refine KQ 1 ([Sg b11 0 (Kt (Qc d kn1 t).1 a17 c17)]::[Sg b10 0 (JaH d kn1 t)]::[Sg b 0 (JR t a5 c5 a6 c6 a7 c7 a8 c8 a9 c9 a10 c10 a11 c11 a12 c12)]::r1::r2::r3::r4::[Sg b1 0 (Wp (VV d kn1) a1 c1 a2 c2 a3 c3 a4 c4)]::Lr) ?_
 refine Kj [(20,I ((Qc d kn1 t).2.2))] ?_
 refine Kv [0,1,2,3,4,5,6,7,8,9,10,12,13,14] [(15,0),(20,0)] [] [(0,Pt b 0),(3,Pt b1 0),(4,I ((((Jp t (kn1:Int)).wanted).length:Nat):Int)),(5,Pt b11 0),(6,Pt b10 0),(7,I ((Qc d kn1 t).2.2))] (List.forall_mem_nil _) ?_
 refine Jj 7 ?_
 refine Jj 7 ?_
 refine Jj 7 ?_
 refine Jj 7 ?_
 refine Jj 7 ?_
 refine Jj 7 ?_
 refine Jj 6 ?_
 refine Jj 7 ?_
 exact WJ (b11,b10,a17,c17,G5) ⟨hl5,w66,w67,w68,w69,w59,w60,w61,w62,w63,w64,hs13,w65⟩
 refine JO 16 [] (fun X=>?_)
 refine Ju 5 #[Sr ([]),U 0,I 0,U 0,U 0,I 0,Sl none 0 0,I 0] 52 (fun b12=>?_)
 refine JS [(16,Pt b12 0)] ?_
 refine JZ [] [(0,0),(1,0),(2,0),(3,0),(4,6),(5,0),(6,16),(9,0),(10,16)] [7,8] [11] (List.forall_mem_cons.2 ⟨?_,(List.forall_mem_cons.2 ⟨?_,List.forall_mem_nil _⟩)⟩) (List.forall_mem_cons.2 ⟨?_,List.forall_mem_nil _⟩)
 refine Jq 7 34 (Pt b2 (o1+kn1*8)) [(31,Sl a8 t.town.owners.length c8),(33,I (kn1:Int))] (fun X=>?_)
 exact Qq (b:=b2) (off:=o1) (len:=t.town.owners.length) (cap:=c8) (ik:=.i64) 34 52 8 kn1 ha1 (by omega) Jn
 refine Jq 8 35 (Ko (Jp t (kn1:Int)) a13 c13) [(34,Pt b2 (o1+kn1*8))] (fun X=>?_)
 exact WL (off:=o1) (p:=kn1*8) (cs:=(Kt (Jp t (kn1:Int)) a13 c13)) 35 52 3 0 (Ko (Jp t (kn1:Int)) a13 c13) hre1 hc1 Jn
 refine JO 11 [(35,(Ko (Jp t (kn1:Int)) a13 c13)),(37,Sr d.value)] (fun X=>?_)
 refine JN 38 (Yj G1 (Kt (Jp t (kn1:Int)) a13 c13) (Jp t (kn1:Int)) (⟨a13,c13,rfl,w19,w20,w21,w22,w23,w24,hs9,w25⟩) d.value w3) (fun v G6 L1 hl6 hp=>?_)
 obtain ⟨a18,c18,rfl,w70,w71,w72,w73,w74,w75,hs14,w76,w77,w78,w79,w80,rfl⟩:=hp
 refine JS [(11,.tuple #[(Ko (Qc d kn1 t).1 a18 c18),(Y1 d kn1 t),I ((Qc d kn1 t).2.2)]),(12,.tuple #[(Ko (Qc d kn1 t).1 a18 c18),(Y1 d kn1 t),I ((Qc d kn1 t).2.2)]),(13,(Ko (Qc d kn1 t).1 a18 c18)),(14,(Y1 d kn1 t)),(15,I ((Qc d kn1 t).2.2))] ?_
 refine JZ [0,1,2,3,4,5,6,7,8,9,10] [(12,0),(13,0),(14,0),(15,0)] [] [18] (List.forall_mem_nil _) (List.forall_mem_cons.2 ⟨?_,List.forall_mem_nil _⟩)
 refine JO 18 [(5,Pt b12 0),(39,(Ko (Qc d kn1 t).1 a18 c18))] (fun X=>?_)
 refine KQ 0 ([Sg b12 0 (Kt (Qc d kn1 t).1 a18 c18)]::[Sg b10 0 [Sr ([]),Sr ([]),U 0,U 0]]::[Sg b 0 (JR t a5 c5 a6 c6 a7 c7 a8 c8 a9 c9 a10 c10 a11 c11 a12 c12)]::r1::r2::r3::r4::[Sg b1 0 (Wp (VV d kn1) a1 c1 a2 c2 a3 c3 a4 c4)]::Lr) ?_
 refine Kj [] ?_
 refine JZ [0,1,2,3,4,5,6,7,8,9,10,12,13] [(14,0),(15,0)] [] [19] (List.forall_mem_nil _) (List.forall_mem_cons.2 ⟨?_,List.forall_mem_nil _⟩)
 refine JO 19 [(6,Pt b10 0),(40,(Y1 d kn1 t))] (fun X=>?_)
 refine KQ 1 ([Sg b12 0 (Kt (Qc d kn1 t).1 a18 c18)]::[Sg b10 0 (JaH d kn1 t)]::[Sg b 0 (JR t a5 c5 a6 c6 a7 c7 a8 c8 a9 c9 a10 c10 a11 c11 a12 c12)]::r1::r2::r3::r4::[Sg b1 0 (Wp (VV d kn1) a1 c1 a2 c2 a3 c3 a4 c4)]::Lr) ?_
 refine Kj [(20,I ((Qc d kn1 t).2.2))] ?_
 refine Kv [0,1,2,3,4,5,6,7,8,9,10,12,13,14] [(15,0),(20,0)] [] [(0,Pt b 0),(3,Pt b1 0),(4,I ((((Jp t (kn1:Int)).wanted).length:Nat):Int)),(5,Pt b12 0),(6,Pt b10 0),(7,I ((Qc d kn1 t).2.2))] (List.forall_mem_nil _) ?_
 refine Jj 7 ?_
 refine Jj 7 ?_
 refine Jj 7 ?_
 refine Jj 7 ?_
 refine Jj 7 ?_
 refine Jj 7 ?_
 refine Jj 6 ?_
 refine Jj 7 ?_
 exact WJ (b12,b10,a18,c18,G6) ⟨hl6,w77,w78,w79,w80,w70,w71,w72,w73,w74,w75,hs14,w76⟩
 obtain ⟨b3,b4,a14,c14,G2⟩:=q_
 obtain ⟨hle1,hj1,hj2,hj3,hj4,hj5,hj6,hj7,hj8,hj9,hj10,hj11,hj12⟩:=hs
 dsimp only at hle1 hj1 hj2 hj3 hj4 hj5 hj6 hj7 hj8 hj9 hj10 hj11 hj12
 refine KJ (fr':=[(0,Pt b 0),(3,Pt b1 0),(4,I ((((Jp t (kn1:Int)).wanted).length:Nat):Int)),(5,Pt b3 0),(6,Pt b4 0),(7,I ((Qc d kn1 t).2.2))]) (L':=([Sg b4 0 (JaH d kn1 t)]::[Sg b3 0 (Kt (Qc d kn1 t).1 a14 c14)]::[Sg b 0 (JR t a5 c5 a6 c6 a7 c7 a8 c8 a9 c9 a10 c10 a11 c11 a12 c12)]::r1::r2::r3::r4::[Sg b1 0 (Wp (VV d kn1) a1 c1 a2 c2 a3 c3 a4 c4)]::Lr)) rfl rfl ?_
 refine Je (Je (Jb ?_))
 refine Jc [0,0,0] [(0,Pt b 0),(3,Pt b1 0),(4,I ((((Jp t (kn1:Int)).wanted).length:Nat):Int)),(5,Pt b3 0),(6,Pt b4 0),(44,Bo (!decide ((Qc d kn1 t).2.2=0)))] ?_
 refine QZ (fun bb=>[(0,Pt b 0),(3,Pt b1 0),(4,I ((((Jp t (kn1:Int)).wanted).length:Nat):Int)),(5,Pt b3 0),(6,Pt b4 0),(44,Bo bb)]) (!decide ((Qc d kn1 t).2.2=0)) (fun h2=>?_) (fun h2=>?_)
 try simp only [BB] at h2
 refine Jc [1,1,1,1,1,0] [(0,Pt b 0),(3,Pt b1 0),(4,I ((((Jp t (kn1:Int)).wanted).length:Nat):Int)),(5,Pt b3 0),(6,Pt b4 0),(50,Bo true)] (Jd (Ja ?_))
 refine J0 ?_
 refine Jk (Jh ?_)
 refine Jj 6 ?_
 refine Jj 6 ?_
 refine Jj 6 ?_
 refine Jj 6 ?_
 refine Jj 6 ?_
 have hf2:QT t d=t:=by
  exact tWant1 ‹_› ‹_› ‹_›
 refine Jl [] [] (QW (Lr:=Lr) [[Sg b 0 (JR t a5 c5 a6 c6 a7 c7 a8 c8 a9 c9 a10 c10 a11 c11 a12 c12)],r1,r2,r3,r4] (.cons_cons _ (.cons_cons _ (.cons_cons _ (.cons_cons _ (.cons_cons _ (.cons _ (.cons _ (.cons _ (List.Sublist.refl _))))))))) (Jt.le_trans hl1 hle1) ?_)
 rw [hf2];try dsimp only
 exact ⟨a5,c5,a6,c6,a7,c7,a8,c8,a9,c9,a10,c10,a11,c11,a12,c12,r1,r2,r3,r4,rfl,w13,(hs5.mono hle1),w14,w15,w16,(hs6.mono hle1),(hs7.mono hle1),(hr1.mono hle1),(hr2.mono hle1),w17,(hs8.mono hle1),w18,(hr3.mono hle1),(hr4.mono hle1),rfl⟩
 try simp only [BB] at h2
 refine Jc [0,4,2] [(0,Pt b 0),(3,Pt b1 0),(4,I ((((Jp t (kn1:Int)).wanted).length:Nat):Int)),(5,Pt b3 0),(6,Pt b4 0),(44,Bo false),(46,U (((Qc d kn1 t).1).key)),(47,(Y1 d kn1 t))] ?_
 refine Ji 48 (Bo (Zx (((Qc d kn1 t).1).key) ((Qc d kn1 t).2.1))) (Jfp G2 (((Qc d kn1 t).1).key) (JaH d kn1 t) ((Qc d kn1 t).2.1) (⟨rfl,hj1,hj2,hj3,hj4⟩)) ?_
 refine Jc [0,0] [(0,Pt b 0),(3,Pt b1 0),(4,I ((((Jp t (kn1:Int)).wanted).length:Nat):Int)),(5,Pt b3 0),(6,Pt b4 0),(50,Bo (!(Zx (((Qc d kn1 t).1).key) ((Qc d kn1 t).2.1))))] (Jd (Ja ?_))
 refine Jo (!(Zx (((Qc d kn1 t).1).key) ((Qc d kn1 t).2.1))) (fun h3=>?_) (fun h3=>?_)
 try simp only [BB] at h3
 refine Jk (Jh ?_)
 refine Jj 6 ?_
 refine Jj 6 ?_
 refine Jj 6 ?_
 refine Jj 6 ?_
 refine Jj 6 ?_
 have hf3:QT t d=t:=by
  exact tWant2 ‹_› ‹_› ‹_›
 refine Jl [] [] (QW (Lr:=Lr) [[Sg b 0 (JR t a5 c5 a6 c6 a7 c7 a8 c8 a9 c9 a10 c10 a11 c11 a12 c12)],r1,r2,r3,r4] (.cons_cons _ (.cons_cons _ (.cons_cons _ (.cons_cons _ (.cons_cons _ (.cons _ (.cons _ (.cons _ (List.Sublist.refl _))))))))) (Jt.le_trans hl1 hle1) ?_)
 rw [hf3];try dsimp only
 exact ⟨a5,c5,a6,c6,a7,c7,a8,c8,a9,c9,a10,c10,a11,c11,a12,c12,r1,r2,r3,r4,rfl,w13,(hs5.mono hle1),w14,w15,w16,(hs6.mono hle1),(hs7.mono hle1),(hr1.mono hle1),(hr2.mono hle1),w17,(hs8.mono hle1),w18,(hr3.mono hle1),(hr4.mono hle1),rfl⟩
 try simp only [BB] at h3
 refine Jm (Ja ?_)
 refine VC (σ:=Nat×(Option Addr)×Nat×(Option Addr)×Nat×(Option Addr)×Nat×Jt) (fun q_=>(Jt.le G2 q_.2.2.2.2.2.2.2)∧(rI ((WA d kn1 t).2.1))∧(rI (((WA d kn1 t).1).queue.most))∧(RS QO q_.2.2.2.2.2.2.2 q_.2.1 q_.2.2.1 (((WA d kn1 t).1).queue.wait))∧(rI (((WA d kn1 t).1).batch))∧(rI (((WA d kn1 t).1).every))∧(rI (((WA d kn1 t).1).now))∧(RS KA q_.2.2.2.2.2.2.2 q_.2.2.2.1 q_.2.2.2.2.1 (((WA d kn1 t).1).heads))∧(RS Qf q_.2.2.2.2.2.2.2 q_.2.2.2.2.2.1 q_.2.2.2.2.2.2.1 (((WA d kn1 t).1).books))) (fun q_=>[(0,Pt b 0),(3,Pt b1 0),(4,I ((((Jp t (kn1:Int)).wanted).length:Nat):Int)),(5,Pt b3 0),(7,I ((WA d kn1 t).2.2)),(8,Pt q_.1 0),(9,I ((WA d kn1 t).2.1))]) (fun q_=>q_.2.2.2.2.2.2.2) (fun q_=>([Sg q_.1 0 (Kn (WA d kn1 t).1 q_.2.1 q_.2.2.1 q_.2.2.2.1 q_.2.2.2.2.1 q_.2.2.2.2.2.1 q_.2.2.2.2.2.2.1)]::[Sg b4 0 (JaH d kn1 t)]::[Sg b3 0 (Kt (Qc d kn1 t).1 a14 c14)]::[Sg b 0 (JR t a5 c5 a6 c6 a7 c7 a8 c8 a9 c9 a10 c10 a11 c11 a12 c12)]::r1::r2::r3::r4::[Sg b1 0 (Wp (VV d kn1) a1 c1 a2 c2 a3 c3 a4 c4)]::Lr)) ?_ (fun q_ hs=>?_)
 refine Kw [6,11,12] ?_
 refine Wa [(0,Pt b 0),(1,Pt b 0),(2,Pt b 0),(3,Pt b 0),(4,(KP t.town.clerk a5 c5 a6 c6 a7 c7)),(5,(Y1 d kn1 t))] ?_
 refine JZ [] [(0,0),(1,0),(2,0),(3,0),(4,6),(5,2)] [] [6,11] (List.forall_mem_nil _) (List.forall_mem_cons.2 ⟨?_,(List.forall_mem_cons.2 ⟨?_,List.forall_mem_nil _⟩)⟩)
 refine JO 6 [(56,(KP t.town.clerk a5 c5 a6 c6 a7 c7)),(57,(Y1 d kn1 t))] (fun X=>?_)
 refine JN 58 (JbM G2 (Kn t.town.clerk a5 c5 a6 c6 a7 c7) t.town.clerk (⟨a5,c5,a6,c6,a7,c7,rfl,w13,(hs5.mono hle1),w14,w15,w16,(hs6.mono hle1),(hs7.mono hle1)⟩) (JaH d kn1 t) ((Qc d kn1 t).2.1) (⟨rfl,hj1,hj2,hj3,hj4⟩)) (fun v G7 L1 hl7 hp=>?_)
 obtain ⟨a19,c19,a20,c20,a21,c21,rfl,w81,hs15,w82,w83,w84,hs16,hs17,w85,rfl⟩:=hp
 refine JS [(6,.tuple #[(KP (WA d kn1 t).1 a19 c19 a20 c20 a21 c21),I ((WA d kn1 t).2.1),I ((WA d kn1 t).2.2)]),(7,.tuple #[(KP (WA d kn1 t).1 a19 c19 a20 c20 a21 c21),I ((WA d kn1 t).2.1),I ((WA d kn1 t).2.2)]),(8,(KP (WA d kn1 t).1 a19 c19 a20 c20 a21 c21)),(9,I ((WA d kn1 t).2.1)),(10,I ((WA d kn1 t).2.2))] ?_
 refine JZ [0,1,2,3,4,5] [(7,0),(8,0),(9,0),(10,0)] [] [11] (List.forall_mem_nil _) (List.forall_mem_cons.2 ⟨?_,List.forall_mem_nil _⟩)
 refine JO 11 [] (fun X=>?_)
 refine Ju 8 #[I 0,Sl none 0 0,I 0,I 0,I 0,Sl none 0 0,Sl none 0 0] 34 (fun b13=>?_)
 refine JS [(11,Pt b13 0)] ?_
 refine JZ [0,1,2,3,4,5] [(7,0),(8,0),(9,0),(10,0)] [] [12] (List.forall_mem_nil _) (List.forall_mem_cons.2 ⟨?_,List.forall_mem_nil _⟩)
 refine JO 12 [(8,Pt b13 0),(59,(KP (WA d kn1 t).1 a19 c19 a20 c20 a21 c21))] (fun X=>?_)
 refine KQ 0 ([Sg b13 0 (Kn (WA d kn1 t).1 a19 c19 a20 c20 a21 c21)]::[Sg b4 0 (JaH d kn1 t)]::[Sg b3 0 (Kt (Qc d kn1 t).1 a14 c14)]::[Sg b 0 (JR t a5 c5 a6 c6 a7 c7 a8 c8 a9 c9 a10 c10 a11 c11 a12 c12)]::r1::r2::r3::r4::[Sg b1 0 (Wp (VV d kn1) a1 c1 a2 c2 a3 c3 a4 c4)]::Lr) ?_
 refine Kj [(13,I ((WA d kn1 t).2.1)),(14,I ((WA d kn1 t).2.2))] ?_
 refine Kv [0,1,2,3,4,5,7,8] [(9,0),(10,0),(13,0),(14,0)] [] [(0,Pt b 0),(3,Pt b1 0),(4,I ((((Jp t (kn1:Int)).wanted).length:Nat):Int)),(5,Pt b3 0),(7,I ((WA d kn1 t).2.2)),(8,Pt b13 0),(9,I ((WA d kn1 t).2.1))] (List.forall_mem_nil _) ?_
 exact WJ (b13,a19,c19,a20,c20,a21,c21,G7) ⟨hl7,w85,w81,hs15,w82,w83,w84,hs16,hs17⟩
 refine JO 11 [] (fun X=>?_)
 refine Ju 8 #[I 0,Sl none 0 0,I 0,I 0,I 0,Sl none 0 0,Sl none 0 0] 34 (fun b14=>?_)
 refine JS [(11,Pt b14 0)] ?_
 refine JZ [] [(0,0),(1,0),(2,0),(3,0),(4,8),(5,4)] [] [6] (List.forall_mem_nil _) (List.forall_mem_cons.2 ⟨?_,List.forall_mem_nil _⟩)
 refine JO 6 [(56,(KP t.town.clerk a5 c5 a6 c6 a7 c7)),(57,(Y1 d kn1 t))] (fun X=>?_)
 refine JN 58 (JbM G2 (Kn t.town.clerk a5 c5 a6 c6 a7 c7) t.town.clerk (⟨a5,c5,a6,c6,a7,c7,rfl,w13,(hs5.mono hle1),w14,w15,w16,(hs6.mono hle1),(hs7.mono hle1)⟩) (JaH d kn1 t) ((Qc d kn1 t).2.1) (⟨rfl,hj1,hj2,hj3,hj4⟩)) (fun v G8 L1 hl8 hp=>?_)
 obtain ⟨a22,c22,a23,c23,a24,c24,rfl,w86,hs18,w87,w88,w89,hs19,hs20,w90,rfl⟩:=hp
 refine JS [(6,.tuple #[(KP (WA d kn1 t).1 a22 c22 a23 c23 a24 c24),I ((WA d kn1 t).2.1),I ((WA d kn1 t).2.2)]),(7,.tuple #[(KP (WA d kn1 t).1 a22 c22 a23 c23 a24 c24),I ((WA d kn1 t).2.1),I ((WA d kn1 t).2.2)]),(8,(KP (WA d kn1 t).1 a22 c22 a23 c23 a24 c24)),(9,I ((WA d kn1 t).2.1)),(10,I ((WA d kn1 t).2.2))] ?_
 refine JZ [0,1,2,3,4,5] [(7,0),(8,0),(9,0),(10,0)] [] [12] (List.forall_mem_nil _) (List.forall_mem_cons.2 ⟨?_,List.forall_mem_nil _⟩)
 refine JO 12 [(8,Pt b14 0),(59,(KP (WA d kn1 t).1 a22 c22 a23 c23 a24 c24))] (fun X=>?_)
 refine KQ 0 ([Sg b14 0 (Kn (WA d kn1 t).1 a22 c22 a23 c23 a24 c24)]::[Sg b4 0 (JaH d kn1 t)]::[Sg b3 0 (Kt (Qc d kn1 t).1 a14 c14)]::[Sg b 0 (JR t a5 c5 a6 c6 a7 c7 a8 c8 a9 c9 a10 c10 a11 c11 a12 c12)]::r1::r2::r3::r4::[Sg b1 0 (Wp (VV d kn1) a1 c1 a2 c2 a3 c3 a4 c4)]::Lr) ?_
 refine Kj [(13,I ((WA d kn1 t).2.1)),(14,I ((WA d kn1 t).2.2))] ?_
 refine Kv [0,1,2,3,4,5,7,8] [(9,0),(10,0),(13,0),(14,0)] [] [(0,Pt b 0),(3,Pt b1 0),(4,I ((((Jp t (kn1:Int)).wanted).length:Nat):Int)),(5,Pt b3 0),(7,I ((WA d kn1 t).2.2)),(8,Pt b14 0),(9,I ((WA d kn1 t).2.1))] (List.forall_mem_nil _) ?_
 exact WJ (b14,a22,c22,a23,c23,a24,c24,G8) ⟨hl8,w90,w86,hs18,w87,w88,w89,hs19,hs20⟩
 obtain ⟨b13,a19,c19,a20,c20,a21,c21,G7⟩:=q_
 obtain ⟨hle2,hj13,hj14,hj15,hj16,hj17,hj18,hj19,hj20⟩:=hs
 dsimp only at hle2 hj13 hj14 hj15 hj16 hj17 hj18 hj19 hj20
 refine KJ (fr':=[(0,Pt b 0),(3,Pt b1 0),(4,I ((((Jp t (kn1:Int)).wanted).length:Nat):Int)),(5,Pt b3 0),(7,I ((WA d kn1 t).2.2)),(8,Pt b13 0),(9,I ((WA d kn1 t).2.1))]) (L':=([Sg b13 0 (Kn (WA d kn1 t).1 a19 c19 a20 c20 a21 c21)]::[Sg b4 0 (JaH d kn1 t)]::[Sg b3 0 (Kt (Qc d kn1 t).1 a14 c14)]::[Sg b 0 (JR t a5 c5 a6 c6 a7 c7 a8 c8 a9 c9 a10 c10 a11 c11 a12 c12)]::r1::r2::r3::r4::[Sg b1 0 (Wp (VV d kn1) a1 c1 a2 c2 a3 c3 a4 c4)]::Lr)) rfl rfl ?_
 refine Je ?_
 refine Jg [0,0] [(0,Pt b 0),(3,Pt b1 0),(4,I ((((Jp t (kn1:Int)).wanted).length:Nat):Int)),(5,Pt b3 0),(8,Pt b13 0),(9,I ((WA d kn1 t).2.1)),(63,Bo (!decide ((WA d kn1 t).2.2=0)))] ?_
 refine Jo (!decide ((WA d kn1 t).2.2=0)) (fun h4=>?_) (fun h4=>?_)
 try simp only [BB] at h4
 refine Jk (Jh ?_)
 refine Jj 7 ?_
 refine Jj 7 ?_
 refine Jj 7 ?_
 refine Jj 7 ?_
 refine Jj 7 ?_
 have hf4:QT t d=t:=by
  exact tWant3 ‹_› ‹_› ‹_›
 refine Jl [] [] (QW (Lr:=Lr) [[Sg b 0 (JR t a5 c5 a6 c6 a7 c7 a8 c8 a9 c9 a10 c10 a11 c11 a12 c12)],r1,r2,r3,r4] (.cons_cons _ (.cons_cons _ (.cons_cons _ (.cons_cons _ (.cons_cons _ (.cons _ (.cons _ (.cons _ (.cons _ (List.Sublist.refl _)))))))))) (Jt.le_trans (Jt.le_trans hl1 hle1) hle2) ?_)
 rw [hf4];try dsimp only
 exact ⟨a5,c5,a6,c6,a7,c7,a8,c8,a9,c9,a10,c10,a11,c11,a12,c12,r1,r2,r3,r4,rfl,w13,(hs5.mono (Jt.le_trans hle1 hle2)),w14,w15,w16,(hs6.mono (Jt.le_trans hle1 hle2)),(hs7.mono (Jt.le_trans hle1 hle2)),(hr1.mono (Jt.le_trans hle1 hle2)),(hr2.mono (Jt.le_trans hle1 hle2)),w17,(hs8.mono (Jt.le_trans hle1 hle2)),w18,(hr3.mono (Jt.le_trans hle1 hle2)),(hr4.mono (Jt.le_trans hle1 hle2)),rfl⟩
 try simp only [BB] at h4
 refine Jm (Ja (Je ?_))
 refine Kw [11,15] ?_
 refine Wa [(0,Pt b 0),(1,Pt b 0),(2,Pt b 0),(3,Pt b 7),(4,Sl a8 t.town.owners.length c8),(5,Pt b1 1),(6,I (kn1:Int)),(7,Pt b 0),(8,(Ko (Qc d kn1 t).1 a14 c14)),(9,(KP (WA d kn1 t).1 a19 c19 a20 c20 a21 c21)),(10,Pt b2 (o1+kn1*8))] ?_
 refine JZ [] [(0,0),(1,0),(2,0),(3,0),(4,8),(5,0),(6,18),(7,0),(8,6),(9,2)] [10] [11] (List.forall_mem_cons.2 ⟨?_,List.forall_mem_nil _⟩) (List.forall_mem_cons.2 ⟨?_,List.forall_mem_nil _⟩)
 refine Jq 10 74 (Pt b2 (o1+kn1*8)) [(68,Sl a8 t.town.owners.length c8),(70,I (kn1:Int))] (fun X=>?_)
 exact Qq (b:=b2) (off:=o1) (len:=t.town.owners.length) (cap:=c8) (ik:=.i64) 74 52 8 kn1 ha1 (by omega) Jn
 refine JO 11 [(72,(Ko (Qc d kn1 t).1 a14 c14)),(74,Pt b2 (o1+kn1*8))] (fun X=>?_)
 refine Yi (b:=b2) (off:=o1) 4 (hr1.mono (Jt.le_trans hle1 hle2)) kn1 ((Qc d kn1 t).1) ha1 (by omega) (Ko (Qc d kn1 t).1 a14 c14) (Kt (Qc d kn1 t).1 a14 c14) ⟨a14,c14,rfl,hj5,hj6,hj7,hj8,hj9,hj10,(hj11.mono hle2),hj12⟩ (fun r5 hr5=>?_)
 have e2:t.town.owners.length=(t.town.owners.set kn1 ((Qc d kn1 t).1)).length:=(List.length_set ..).symm
 refine Kj [(12,Pt b 0),(13,Pt b 0),(14,Pt b 0)] ?_
 refine JZ [0,1,2,3,4,5,6,8,10] [(7,0),(9,2),(12,0),(13,0),(14,0)] [] [15] (List.forall_mem_nil _) (List.forall_mem_cons.2 ⟨?_,List.forall_mem_nil _⟩)
 refine JO 15 [(73,(KP (WA d kn1 t).1 a19 c19 a20 c20 a21 c21)),(77,Pt b 0)] (fun X=>?_)
 refine KQ 3 ([Sg b13 0 (Kn (WA d kn1 t).1 a19 c19 a20 c20 a21 c21)]::[Sg b4 0 (JaH d kn1 t)]::[Sg b3 0 (Kt (Qc d kn1 t).1 a14 c14)]::[Sg b 0 (JR (⟨(⟨(WA d kn1 t).1,t.town.owners,t.town.polls,t.town.net⟩:QN),t.reach,t.fates,t.events⟩:JG) a19 c19 a20 c20 a21 c21 a8 c8 a9 c9 a10 c10 a11 c11 a12 c12)]::r5::r2::r3::r4::[Sg b1 0 (Wp (VV d kn1) a1 c1 a2 c2 a3 c3 a4 c4)]::Lr) ?_
 refine Kj [] ?_
 refine Kv [0,1,2,3,4,5,6,7,8,9,10,12,13,14] [] [] [(0,Pt b 0),(3,Pt b1 0),(4,I ((((Jp t (kn1:Int)).wanted).length:Nat):Int)),(9,I ((WA d kn1 t).2.1))] (List.forall_mem_nil _) ?_
 refine Jct (fr':=[(0,Pt b 0),(3,Pt b1 0),(4,I ((((Jp t (kn1:Int)).wanted).length:Nat):Int)),(9,I ((Ku t.town.clerk ((JJ (Jp t (kn1:Int)) d.value).2.1)).2.1))]) (L':=([Sg b13 0 [I (((Ku t.town.clerk ((JJ (Jp t (kn1:Int)) d.value).2.1)).1).queue.most),Sl a19 ((((Ku t.town.clerk ((JJ (Jp t (kn1:Int)) d.value).2.1)).1).queue.wait).length) c19,I (((Ku t.town.clerk ((JJ (Jp t (kn1:Int)) d.value).2.1)).1).batch),I (((Ku t.town.clerk ((JJ (Jp t (kn1:Int)) d.value).2.1)).1).every),I (((Ku t.town.clerk ((JJ (Jp t (kn1:Int)) d.value).2.1)).1).now),Sl a20 ((((Ku t.town.clerk ((JJ (Jp t (kn1:Int)) d.value).2.1)).1).heads).length) c20,Sl a21 ((((Ku t.town.clerk ((JJ (Jp t (kn1:Int)) d.value).2.1)).1).books).length) c21]]::[Sg b4 0 [Sr (((JJ (Jp t (kn1:Int)) d.value).2.1).name),Sr (((JJ (Jp t (kn1:Int)) d.value).2.1).value),U (((JJ (Jp t (kn1:Int)) d.value).2.1).n),U (((JJ (Jp t (kn1:Int)) d.value).2.1).tag)]]::[Sg b3 0 [Sr (((JJ (Jp t (kn1:Int)) d.value).1).name),U (((JJ (Jp t (kn1:Int)) d.value).1).key),I (((JJ (Jp t (kn1:Int)) d.value).1).head.epoch),U (((JJ (Jp t (kn1:Int)) d.value).1).head.root),U (((JJ (Jp t (kn1:Int)) d.value).1).head.prev),I (((JJ (Jp t (kn1:Int)) d.value).1).head.at_),Sl a14 ((((JJ (Jp t (kn1:Int)) d.value).1).wanted).length) c14,I (((JJ (Jp t (kn1:Int)) d.value).1).had)]]::[Sg b 0 [I (((Ku t.town.clerk ((JJ (Jp t (kn1:Int)) d.value).2.1)).1).queue.most),Sl a19 ((((Ku t.town.clerk ((JJ (Jp t (kn1:Int)) d.value).2.1)).1).queue.wait).length) c19,I (((Ku t.town.clerk ((JJ (Jp t (kn1:Int)) d.value).2.1)).1).batch),I (((Ku t.town.clerk ((JJ (Jp t (kn1:Int)) d.value).2.1)).1).every),I (((Ku t.town.clerk ((JJ (Jp t (kn1:Int)) d.value).2.1)).1).now),Sl a20 ((((Ku t.town.clerk ((JJ (Jp t (kn1:Int)) d.value).2.1)).1).heads).length) c20,Sl a21 ((((Ku t.town.clerk ((JJ (Jp t (kn1:Int)) d.value).2.1)).1).books).length) c21,Sl a8 ((t.town.owners.set kn1 ((JJ (Jp t (kn1:Int)) d.value).1)).length) c8,Sl a9 t.town.polls.length c9,I t.town.net.now,Sl a10 t.town.net.way.length c10,I t.reach,Sl a11 t.fates.length c11,Sl a12 t.events.length c12]]::r5::r2::r3::r4::[Sg b1 0 [I d.kind,I (kn1:Int),Sr d.value,Sl a1 d.fates.length c1,I d.letter.to_,I d.letter.from_,I d.letter.since,I d.letter.due,Sl a2 d.letter.heads.length c2,I d.letter.reply.head.epoch,U d.letter.reply.head.root,U d.letter.reply.head.prev,I d.letter.reply.head.at_,Sr d.letter.reply.proof.name,Sl a3 d.letter.reply.proof.entries.length c3,Sl a4 d.letter.reply.proof.sides.length c4]]::Lr)) (by rfl) (by (simp only [Jfc,Kn,Wp,Kt,JR,JfZ,KP,Jcx,Ko,e2];first | done | rfl)) ?_
 refine Ja (Jb ?_)
 refine Jc [0,0,18,0,0] [(78,Pt b 0),(80,I (kn1:Int)),(81,I ((((Jp t (kn1:Int)).wanted).length:Nat):Int)),(82,I ((WA d kn1 t).2.1))] ?_
 refine JF 7 ?_
 refine JF 7 ?_
 refine JF 7 ?_
 refine JF 7 ?_
 refine JF 7 ?_
 refine Qk (Ls:=[[Sg b 0 (JR (⟨(⟨(WA d kn1 t).1,(t.town.owners.set kn1 ((Qc d kn1 t).1)),t.town.polls,t.town.net⟩:QN),t.reach,t.fates,t.events⟩:JG) a19 c19 a20 c20 a21 c21 a8 c8 a9 c9 a10 c10 a11 c11 a12 c12)],r5,r2,r3,r4]) (Lr:=([Sg b13 0 (Kn (WA d kn1 t).1 a19 c19 a20 c20 a21 c21)]::[Sg b4 0 (JaH d kn1 t)]::[Sg b3 0 (Kt (Qc d kn1 t).1 a14 c14)]::[Sg b1 0 (Wp (VV d kn1) a1 c1 a2 c2 a3 c3 a4 c4)]::Lr)) 83 (Jcm G7 b (z4_4 d kn1 t) a19 c19 a20 c20 a21 c21 a8 c8 a9 c9 a10 c10 a11 c11 a12 c12 r5 r2 r3 r4 hj14 hj15 hj16 hj17 hj18 hj19 hj20 hr5 (hr2.mono (Jt.le_trans hle1 hle2)) w17 (hs8.mono (Jt.le_trans hle1 hle2)) w18 (hr3.mono (Jt.le_trans hle1 hle2)) (hr4.mono (Jt.le_trans hle1 hle2)) 1 (by omega) (kn1:Int) (by omega) ((((Jp t (kn1:Int)).wanted).length:Nat):Int) (by have q_:=(show RS ES _ _ _ (Jp t (kn1:Int)).wanted by assumption).le;have p_:=(show RS ES _ _ _ (Jp t (kn1:Int)).wanted by assumption).max;omega) ((WA d kn1 t).2.1) hj13 ‹_›) (fun v G9 L1 hl9 hp=>?_)
 obtain ⟨a25,c25,a26,c26,a27,c27,a28,c28,a29,c29,a30,c30,a31,c31,a32,c32,r6,r7,r8,r9,rfl,w91,hs21,w92,w93,w94,hs22,hs23,hr6,hr7,w95,hs24,w96,hr8,hr9,rfl⟩:=hp
 refine Jd ?_
 refine Jj 4 ?_
 refine Jj 4 ?_
 refine Jj 4 ?_
 refine Jj 4 ?_
 refine Jj 4 ?_
 have hf5:QT t d=(QH (z4_4 d kn1 t) 1 (kn1:Int) ((((Jp t (kn1:Int)).wanted).length:Nat):Int) ((WA d kn1 t).2.1)):=by
  exact tWant4 ‹_› rfl ‹_› ‹_› ‹_› ‹_›
 refine Zj [] [] (QW (Lr:=Lr) [[Sg b 0 (JR (QH (z4_4 d kn1 t) 1 (kn1:Int) ((((Jp t (kn1:Int)).wanted).length:Nat):Int) ((WA d kn1 t).2.1)) a25 c25 a26 c26 a27 c27 a28 c28 a29 c29 a30 c30 a31 c31 a32 c32)],r6,r7,r8,r9] (.cons_cons _ (.cons_cons _ (.cons_cons _ (.cons_cons _ (.cons_cons _ (.cons _ (.cons _ (.cons _ (.cons _ (List.Sublist.refl _)))))))))) (Jt.le_trans (Jt.le_trans (Jt.le_trans hl1 hle1) hle2) hl9) ?_)
 rw [hf5];try dsimp only
 exact ⟨a25,c25,a26,c26,a27,c27,a28,c28,a29,c29,a30,c30,a31,c31,a32,c32,r6,r7,r8,r9,rfl,w91,hs21,w92,w93,w94,hs22,hs23,hr6,hr7,w95,hs24,w96,hr8,hr9,rfl⟩
end Go.Proofs.YtnnlpbjdignhaaaGreatDoor
