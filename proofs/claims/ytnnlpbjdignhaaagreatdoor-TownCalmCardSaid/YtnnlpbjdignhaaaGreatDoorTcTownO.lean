import Derived.Test.YtnnlpbjdignhaaaGreatDoorTcTownT
namespace Go.Proofs.YtnnlpbjdignhaaaGreatDoor
open Go.Tx
set_option linter.unusedVariables false
set_option linter.unusedSimpArgs false
open Go.Tx Go.Proofs
theorem tDo1 {t:JC} {d:Qd} (h:d.kind=1):ZJ t d=Qp t d:=by unfold ZJ;rw [if_pos h]
theorem tDo2 {t:JC} {d:Qd} (h:d.kind=2):ZJ t d=⟨t.town,t.reach,t.fates++[d.fates],t.events⟩:=by unfold ZJ;rw [if_neg (by omega),if_pos h]
theorem tDo30 {t:JC} {d:Qd} (h:d.kind=3) (ho:Wt t d.who=false):ZJ t d=t:=by unfold ZJ;rw [if_neg (by omega),if_neg (by omega),if_pos h];unfold JeP;rw [if_pos ho]
theorem tDo31 {t:JC} {d:Qd} (h:d.kind=3) (ho:Wt t d.who=true) (hs:(Kj t.town.net (Jhs d.letter d.who) [1]).2=0):ZJ t d=⟨⟨t.town.clerk,t.town.owners,t.town.polls,(Kj t.town.net (Jhs d.letter d.who) [1]).1⟩,t.reach,t.fates,t.events⟩:=by
 unfold ZJ;rw [if_neg (by omega),if_neg (by omega),if_pos h];unfold JeP;rw [if_neg (by rw [ho];simp),if_pos hs]
theorem tDo32 {t:JC} {d:Qd} (h:d.kind=3) (ho:Wt t d.who=true) (hs:¬ (Kj t.town.net (Jhs d.letter d.who) [1]).2=0):ZJ t d=t:=by
 unfold ZJ;rw [if_neg (by omega),if_neg (by omega),if_pos h];unfold JeP;rw [if_neg (by rw [ho];simp),if_neg hs]
theorem tDo4 {t:JC} {d:Qd} (h:d.kind=4):ZJ t d=Q8 t:=by unfold ZJ;rw [if_neg (by omega),if_neg (by omega),if_neg (by omega),if_pos h]
theorem tDo5 {t:JC} {d:Qd} (h1:¬ d.kind=1) (h2:¬ d.kind=2) (h3:¬ d.kind=3) (h4:¬ d.kind=4):ZJ t d=t:=by unfold ZJ;rw [if_neg h1,if_neg h2,if_neg h3,if_neg h4]
set_option maxRecDepth 20000 in
abbrev JaM (d:Qd):=(⟨d.who,d.letter.from_,d.letter.since,d.letter.due,d.letter.heads,d.letter.reply⟩:JP)
abbrev WF (d:Qd) (t:JC):=Kj t.town.net (JaM d) ([1])
theorem JmI (G:Jt) (b:Nat) (t:JC) (a_1:Option Addr) (c_1:Nat) (a_5:Option Addr) (c_5:Nat) (a_6:Option Addr) (c_6:Nat) (a_7:Option Addr) (c_7:Nat) (a_8:Option Addr) (c_8:Nat) (a_10:Option Addr) (c_10:Nat) (a_12:Option Addr) (c_12:Nat) (a_13:Option Addr) (c_13:Nat) (r_7:List Ks) (r_8:List Ks) (r_12:List Ks) (r_13:List Ks) (h_0:rI t.town.clerk.queue.most) (h_1:RS QV G a_1 c_1 t.town.clerk.queue.wait) (h_2:rI t.town.clerk.batch) (h_3:rI t.town.clerk.every) (h_4:rI t.town.clerk.now) (h_5:RS KE G a_5 c_5 t.town.clerk.heads) (h_6:RS Qm G a_6 c_6 t.town.clerk.books) (h_7:J9 QO G a_7 c_7 t.town.owners r_7) (h_8:J9 Ws G a_8 c_8 t.town.polls r_8) (h_9:rI t.town.net.now) (h_10:RS Ki G a_10 c_10 t.town.net.way) (h_11:rI t.reach) (h_12:J9 YT G a_12 c_12 t.fates r_12) (h_13:J9 Q1 G a_13 c_13 t.events r_13) (vs_d:List Value) (d:Qd) (h_d:Jae.R G vs_d d) (hH:YW t) (hev:t.events.length≤900000) (hfl:t.fates.length≤1000000):JaR Tryz.prog 33 #[Pt b 0,.agg vs_d.toArray] G [[Sg b 0 [I t.town.clerk.queue.most,Sl a_1 t.town.clerk.queue.wait.length c_1,I t.town.clerk.batch,I t.town.clerk.every,I t.town.clerk.now,Sl a_5 t.town.clerk.heads.length c_5,Sl a_6 t.town.clerk.books.length c_6,Sl a_7 t.town.owners.length c_7,Sl a_8 t.town.polls.length c_8,I t.town.net.now,Sl a_10 t.town.net.way.length c_10,I t.reach,Sl a_12 t.fates.length c_12,Sl a_13 t.events.length c_13]],r_7,r_8,r_12,r_13] (fun u G' L'=>∃ (a_z1:Option Addr) (c_z1:Nat) (a_z5:Option Addr) (c_z5:Nat) (a_z6:Option Addr) (c_z6:Nat) (a_z7:Option Addr) (c_z7:Nat) (a_z8:Option Addr) (c_z8:Nat) (a_z10:Option Addr) (c_z10:Nat) (a_z12:Option Addr) (c_z12:Nat) (a_z13:Option Addr) (c_z13:Nat) (r_z7:List Ks) (r_z8:List Ks) (r_z12:List Ks) (r_z13:List Ks),u=.tuple #[]∧(rI ((ZJ t d).town.clerk.queue.most))∧(RS QV G' a_z1 c_z1 ((ZJ t d).town.clerk.queue.wait))∧(rI ((ZJ t d).town.clerk.batch))∧(rI ((ZJ t d).town.clerk.every))∧(rI ((ZJ t d).town.clerk.now))∧(RS KE G' a_z5 c_z5 ((ZJ t d).town.clerk.heads))∧(RS Qm G' a_z6 c_z6 ((ZJ t d).town.clerk.books))∧(J9 QO G' a_z7 c_z7 ((ZJ t d).town.owners) r_z7)∧(J9 Ws G' a_z8 c_z8 ((ZJ t d).town.polls) r_z8)∧(rI ((ZJ t d).town.net.now))∧(RS Ki G' a_z10 c_z10 ((ZJ t d).town.net.way))∧(rI ((ZJ t d).reach))∧(J9 YT G' a_z12 c_z12 ((ZJ t d).fates) r_z12)∧(J9 Q1 G' a_z13 c_z13 ((ZJ t d).events) r_z13)∧L'=[[Sg b 0 [I ((ZJ t d).town.clerk.queue.most),Sl a_z1 (((ZJ t d).town.clerk.queue.wait).length) c_z1,I ((ZJ t d).town.clerk.batch),I ((ZJ t d).town.clerk.every),I ((ZJ t d).town.clerk.now),Sl a_z5 (((ZJ t d).town.clerk.heads).length) c_z5,Sl a_z6 (((ZJ t d).town.clerk.books).length) c_z6,Sl a_z7 (((ZJ t d).town.owners).length) c_z7,Sl a_z8 (((ZJ t d).town.polls).length) c_z8,I ((ZJ t d).town.net.now),Sl a_z10 (((ZJ t d).town.net.way).length) c_z10,I ((ZJ t d).reach),Sl a_z12 (((ZJ t d).fates).length) c_z12,Sl a_z13 (((ZJ t d).events).length) c_z13]],r_z7,r_z8,r_z12,r_z13]):=by
 obtain ⟨a1,c1,a2,c2,a3,c3,a4,c4,rfl,w1,w2,w3,hs1,w4,w5,w6,w7,hs2,w8,w9,w10,w11,w12,hs3,hs4⟩:=h_d
 intro Lr
 refine JJ Tryz.func33 61 [(0,Pt b 0),(1,(JaH d a1 c1 a2 c2 a3 c3 a4 c4))] rfl (fun w0 G0=>?_)
 show TC _ _ _ _ _ ([Sg b 0 (JT t a_1 c_1 a_5 c_5 a_6 c_6 a_7 c_7 a_8 c_8 a_10 c_10 a_12 c_12 a_13 c_13)]::r_7::r_8::r_12::r_13::Lr)
 refine Je (Jb (Ju 3 #[I d.kind,I d.who,Sr d.value,Sl a1 d.fates.length c1,I d.letter.to_,I d.letter.from_,I d.letter.since,I d.letter.due,Sl a2 d.letter.heads.length c2,I d.letter.reply.head.epoch,U d.letter.reply.head.root,U d.letter.reply.head.prev,I d.letter.reply.head.at_,Sr d.letter.reply.proof.name,Sl a3 d.letter.reply.proof.entries.length c3,Sl a4 d.letter.reply.proof.sides.length c4] 74 (fun b1=>Jc (Ja (Jg [0,2] [(0,Pt b 0),(3,Pt b1 0),(8,I d.kind)] (Jz (Jg [0,0] [(0,Pt b 0),(3,Pt b1 0),(8,I d.kind),(9,Bo (decide (d.kind=1)))] (Jo (decide (d.kind=1)) (fun h1=>?_) (fun h1=>?_)))))))))
 try simp only [BB] at h1
 refine Jb (Jd [0,2] [(11,Pt b 0),(12,(JaH d a1 c1 a2 c2 a3 c3 a4 c4))] (JG 5 (JG 5 (JG 5 (JG 5 (JG 5 (Qr (Ls:=[[Sg b 0 (JT t a_1 c_1 a_5 c_5 a_6 c_6 a_7 c_7 a_8 c_8 a_10 c_10 a_12 c_12 a_13 c_13)],r_7,r_8,r_12,r_13]) (Lr:=([Sg b1 0 (Wk d a1 c1 a2 c2 a3 c3 a4 c4)]::Lr)) 13 (Jkn G b t a_1 c_1 a_5 c_5 a_6 c_6 a_7 c_7 a_8 c_8 a_10 c_10 a_12 c_12 a_13 c_13 r_7 r_8 r_12 r_13 h_0 h_1 h_2 h_3 h_4 h_5 h_6 h_7 h_8 h_9 h_10 h_11 h_12 h_13 (Wk d a1 c1 a2 c2 a3 c3 a4 c4) d (⟨a1,c1,a2,c2,a3,c3,a4,c4,rfl,w1,w2,w3,hs1,w4,w5,w6,w7,hs2,w8,w9,w10,w11,w12,hs3,hs4⟩) (by omega)) (fun v G1 L1 hl1 hp=>?_))))))))
 obtain ⟨a5,c5,a6,c6,a7,c7,a8,c8,a9,c9,a10,c10,a11,c11,a12,c12,r1,r2,r3,r4,rfl,w13,hs5,w14,w15,w16,hs6,hs7,hr1,hr2,w17,hs8,w18,hr3,hr4,rfl⟩:=hp
 refine Jc (JM (Jj 4 (Jj 4 (Jj 4 (Jj 4 (Jj 4 ?_))))))
 have hf1:ZJ t d=(Qp t d):=by
  exact tDo1 ‹_›
 refine Zu [] [] (Q3 (Lr:=Lr) [[Sg b 0 (JT (Qp t d) a5 c5 a6 c6 a7 c7 a8 c8 a9 c9 a10 c10 a11 c11 a12 c12)],r1,r2,r3,r4] (.cons_cons _ (.cons_cons _ (.cons_cons _ (.cons_cons _ (.cons_cons _ (.cons _ (List.Sublist.refl _))))))) hl1 ?_)
 rw [hf1];try dsimp only
 exact ⟨a5,c5,a6,c6,a7,c7,a8,c8,a9,c9,a10,c10,a11,c11,a12,c12,r1,r2,r3,r4,rfl,w13,hs5,w14,w15,w16,hs6,hs7,hr1,hr2,w17,hs8,w18,hr3,hr4,rfl⟩
 try simp only [BB] at h1
 refine Jg [0,0] [(0,Pt b 0),(3,Pt b1 0),(8,I d.kind),(14,Bo (decide (d.kind=2)))] (Jo (decide (d.kind=2)) (fun h2=>?_) (fun h2=>?_))
 try simp only [BB] at h2
 refine KB [7,8,9,12] (Wr [(0,Pt b 0),(1,Pt b 0),(2,Pt b 0),(3,Pt b 12),(4,Sl a_12 t.fates.length c_12),(5,Pt b1 3),(6,Sl a1 d.fates.length c1)] (J1 [] [(0,0),(1,0),(2,0),(3,0),(4,4),(5,0),(6,2)] [] [7] (List.forall_mem_nil _) (List.forall_mem_cons.2 ⟨?_,List.forall_mem_nil _⟩)))
 refine JS 7 [(22,Sl a1 d.fates.length c1)] (fun X=>?_)
 refine JQ 23 (JjJ G a1 c1 d.fates hs1) (fun v G2 L1 hl2 hp=>?_)
 obtain ⟨a13,c13,_,rfl,hr5,rfl⟩:=hp
 refine JW [(7,Sl a13 d.fates.length c13)] (J1 [5,6] [(0,0),(1,0),(2,0),(3,0),(4,6)] [] [8] (List.forall_mem_nil _) (List.forall_mem_cons.2 ⟨?_,List.forall_mem_nil _⟩))
 refine JS 8 [(23,Sl a13 d.fates.length c13)] (fun X=>?_)
 refine KH 24 1 #[Sl a13 d.fates.length c13] 65 (fun b2=>JW [(8,Sl (At b2 0) 1 1)] (J1 [5,6] [(0,0),(1,0),(2,0),(3,0),(4,8)] [] [9] (List.forall_mem_nil _) (List.forall_mem_cons.2 ⟨?_,List.forall_mem_nil _⟩)))
 refine JS 9 [(20,Sl a_12 t.fates.length c_12),(24,Sl (At b2 0) 1 1)] (fun X=>?_)
 refine YB (E:=EI) 1 hr5 (by exact (hs1).fit) (fun G3 hl3 hs9=>QJ (b:=b2) (cs:=[Sl a13 d.fates.length c13]) 25 65 6 0 (E:=YT) d.fates (h_12.mono (Jt.le_trans hl2 hl3)) ⟨a13,c13,rfl,hs9⟩ (by (try simp only [YT,List.length_append,List.length_cons,List.length_nil]);omega) (by (try simp only [YT,List.length_append,List.length_cons,List.length_nil]);omega) (fun a14 c14 r6 hr6=>JW [(9,Sl a14 ((t.fates++[d.fates]).length) c14),(10,Pt b 0),(11,Pt b 12)] (J1 [1,2,3,4,5,6] [(0,0),(10,0),(11,0)] [] [12] (List.forall_mem_nil _) (List.forall_mem_cons.2 ⟨?_,List.forall_mem_nil _⟩))))
 refine JS 12 [(25,Sl a14 ((t.fates++[d.fates]).length) c14),(27,Pt b 12)] (fun X=>?_)
 refine K2 3 ([Sg b2 0 [Sl a13 d.fates.length c13]]::[]::[Sg b1 0 (Wk d a1 c1 a2 c2 a3 c3 a4 c4)]::[Sg b 0 (JT (⟨t.town,t.reach,(t.fates++[d.fates]),t.events⟩:JC) a_1 c_1 a_5 c_5 a_6 c_6 a_7 c_7 a_8 c_8 a_10 c_10 a14 c14 a_13 c_13)]::r_7::r_8::r6::r_13::Lr) (Kp [] (KA [0,1,2,3,4,5,6,10,11] [] [] [] (List.forall_mem_nil _) (JM (Jj 7 (Jj 7 (Jj 7 (Jj 7 (Jj 7 ?_))))))))
 have hf2:ZJ t d=(⟨t.town,t.reach,t.fates++[d.fates],t.events⟩:JC):=by
  exact tDo2 ‹_›
 refine Zu [] [] (Q3 (Lr:=Lr) [[Sg b 0 (JT (⟨t.town,t.reach,(t.fates++[d.fates]),t.events⟩:JC) a_1 c_1 a_5 c_5 a_6 c_6 a_7 c_7 a_8 c_8 a_10 c_10 a14 c14 a_13 c_13)],r_7,r_8,r6,r_13] (.cons_cons _ (.cons_cons _ (.cons_cons _ (.cons_cons _ (.cons_cons _ (.cons _ (.cons _ (.cons _ (List.Sublist.refl _))))))))) (Jt.le_trans hl2 hl3) ?_)
 rw [hf2];try dsimp only
 exact ⟨a_1,c_1,a_5,c_5,a_6,c_6,a_7,c_7,a_8,c_8,a_10,c_10,a14,c14,a_13,c_13,r_7,r_8,r6,r_13,rfl,h_0,(h_1.mono (Jt.le_trans hl2 hl3)),h_2,h_3,h_4,(h_5.mono (Jt.le_trans hl2 hl3)),(h_6.mono (Jt.le_trans hl2 hl3)),(h_7.mono (Jt.le_trans hl2 hl3)),(h_8.mono (Jt.le_trans hl2 hl3)),h_9,(h_10.mono (Jt.le_trans hl2 hl3)),h_11,hr6,(h_13.mono (Jt.le_trans hl2 hl3)),rfl⟩
 try simp only [BB] at h2
 refine Jg [0,0] [(0,Pt b 0),(3,Pt b1 0),(8,I d.kind),(28,Bo (decide (d.kind=3)))] (Jo (decide (d.kind=3)) (fun h3=>?_) (fun h3=>?_))
 try simp only [BB] at h3
 refine Je (Jb (Jd [0,0,2] [(0,Pt b 0),(3,Pt b1 0),(30,Pt b 0),(32,I d.who)] (JG 5 (JG 5 (JG 5 (JG 5 (JG 5 (Qr (Ls:=[[Sg b 0 (JT t a_1 c_1 a_5 c_5 a_6 c_6 a_7 c_7 a_8 c_8 a_10 c_10 a_12 c_12 a_13 c_13)],r_7,r_8,r_12,r_13]) (Lr:=([Sg b1 0 (Wk d a1 c1 a2 c2 a3 c3 a4 c4)]::Lr)) 33 (Ja7 G b t a_1 c_1 a_5 c_5 a_6 c_6 a_7 c_7 a_8 c_8 a_10 c_10 a_12 c_12 a_13 c_13 r_7 r_8 r_12 r_13 h_0 h_1 h_2 h_3 h_4 h_5 h_6 h_7 h_8 h_9 h_10 h_11 h_12 h_13 d.who) (fun v G4 L1 hl4 hp=>?_)))))))))
 obtain ⟨a15,c15,a16,c16,a17,c17,a18,c18,a19,c19,a20,c20,a21,c21,a22,c22,r7,r8,r9,r10,rfl,w19,hs10,w20,w21,w22,hs11,hs12,hr7,hr8,w23,hs13,w24,hr9,hr10,rfl⟩:=hp
 refine Jc (Ja (Jo (Wt t d.who) (fun h4=>?_) (fun h4=>?_)))
 try simp only [BB] at h4
 refine Je (Jb (Jd [0,12] [(0,Pt b 0),(3,Pt b1 0),(35,(K3 d.letter a2 c2 a3 c3 a4 c4))] (Ju 4 #[I 0,I 0,I 0,I 0,Sl none 0 0,I 0,U 0,U 0,I 0,Sr ([]),Sl none 0 0,Sl none 0 0] 72 (fun b3=>Kd [3] [(0,Pt b 0),(3,Pt b1 0),(4,Pt b3 0)] ([Sg b3 0 (J4 d.letter a2 c2 a3 c3 a4 c4)]::[Sg b 0 (JT t a15 c15 a16 c16 a17 c17 a18 c18 a19 c19 a20 c20 a21 c21 a22 c22)]::r7::r8::r9::r10::[Sg b1 0 (Wk d a1 c1 a2 c2 a3 c3 a4 c4)]::Lr) (Jc (Ja (WM [0,14,0,3] [(0,Pt b 0),(4,Pt b3 0)] ([Sg b3 0 (J4 (JaM d) a2 c2 a3 c3 a4 c4)]::[Sg b 0 (JT t a15 c15 a16 c16 a17 c17 a18 c18 a19 c19 a20 c20 a21 c21 a22 c22)]::r7::r8::r9::r10::[Sg b1 0 (Wk d a1 c1 a2 c2 a3 c3 a4 c4)]::Lr) ?_)))))))
 refine VT (σ:=Nat×(Option Addr)×Nat×Jt) (fun q_=>(Jt.le G4 q_.2.2.2)∧(rI (((WF d t).1).now))∧(RS Ki q_.2.2.2 q_.2.1 q_.2.2.1 (((WF d t).1).way))) (fun q_=>[(0,Pt b 0),(5,Pt q_.1 0),(6,I ((WF d t).2))]) (fun q_=>q_.2.2.2) (fun q_=>([Sg q_.1 0 [I (((WF d t).1).now),Sl q_.2.1 ((((WF d t).1).way).length) q_.2.2.1]]::[]::[Sg b3 0 (J4 (JaM d) a2 c2 a3 c3 a4 c4)]::[Sg b 0 (JT t a15 c15 a16 c16 a17 c17 a18 c18 a19 c19 a20 c20 a21 c21 a22 c22)]::r7::r8::r9::r10::[Sg b1 0 (Wk d a1 c1 a2 c2 a3 c3 a4 c4)]::Lr)) ?_ (fun q_ hs=>?_)
 refine KB [6,7,11,12] (Wr [(0,Pt b 0),(1,Pt b 0),(2,Pt b 0),(3,Pt b 9),(4,.agg #[I t.town.net.now,Sl a20 t.town.net.way.length c20]),(5,(K3 (JaM d) a2 c2 a3 c3 a4 c4))] (J1 [] [(0,0),(1,0),(2,0),(3,0),(4,4),(5,2)] [] [6,11] (List.forall_mem_nil _) (List.forall_mem_cons.2 ⟨?_,(List.forall_mem_cons.2 ⟨?_,List.forall_mem_nil _⟩)⟩)))
 refine JS 6 [] (fun X=>?_)
 refine KH 46 1 #[I 1] 3 (fun b4=>JW [(6,Sl (At b4 0) 1 1)] (J1 [] [(0,0),(1,0),(2,0),(3,0),(4,6),(5,4)] [] [7,11] (List.forall_mem_nil _) (List.forall_mem_cons.2 ⟨?_,(List.forall_mem_cons.2 ⟨?_,List.forall_mem_nil _⟩)⟩)))
 refine JS 7 [(44,.agg #[I t.town.net.now,Sl a20 t.town.net.way.length c20]),(45,(K3 (JaM d) a2 c2 a3 c3 a4 c4)),(46,Sl (At b4 0) 1 1)] (fun X=>?_)
 refine QQ (b:=b4) (o:=0) (cs:=[I 1]) 0 (fun G5 hl5 hz1=>?_)
 have hs14:RS EI G5 (At b4 0) 1 [1]:=RS.lit [[I 1]] [1] ⟨⟨rfl,(by omega)⟩,trivial⟩ hz1 (Nat.le_of_ble_eq_true rfl) (Nat.le_of_ble_eq_true rfl)
 refine JQ 47 (Ya G5 [I t.town.net.now,Sl a20 t.town.net.way.length c20] t.town.net (⟨a20,c20,rfl,w23,(hs13.mono hl5)⟩) (J4 (JaM d) a2 c2 a3 c3 a4 c4) (JaM d) (⟨a2,c2,a3,c3,a4,c4,rfl,w2,w5,w6,w7,(hs2.mono (Jt.le_trans hl4 hl5)),w8,w9,w10,w11,w12,(hs3.mono (Jt.le_trans hl4 hl5)),(hs4.mono (Jt.le_trans hl4 hl5))⟩) (At b4 0) 1 ([1]) hs14) (fun v G6 L1 hl6 hp=>?_)
 obtain ⟨a23,c23,rfl,w25,hs15,rfl⟩:=hp
 refine JW [(7,.tuple #[.agg #[I (((WF d t).1).now),Sl a23 ((((WF d t).1).way).length) c23],I ((WF d t).2)]),(8,.tuple #[.agg #[I (((WF d t).1).now),Sl a23 ((((WF d t).1).way).length) c23],I ((WF d t).2)]),(9,.agg #[I (((WF d t).1).now),Sl a23 ((((WF d t).1).way).length) c23]),(10,I ((WF d t).2))] (J1 [0,1,2,3,4,5] [(8,0),(9,0),(10,0)] [] [11] (List.forall_mem_nil _) (List.forall_mem_cons.2 ⟨?_,List.forall_mem_nil _⟩))
 refine JS 11 [] (fun X=>?_)
 refine Ju 5 #[I 0,Sl none 0 0] 39 (fun b5=>JW [(11,Pt b5 0)] (J1 [0,1,2,3,4,5] [(8,0),(9,0),(10,0)] [] [12] (List.forall_mem_nil _) (List.forall_mem_cons.2 ⟨?_,List.forall_mem_nil _⟩)))
 refine JS 12 [(5,Pt b5 0),(48,.agg #[I (((WF d t).1).now),Sl a23 ((((WF d t).1).way).length) c23])] (fun X=>?_)
 exact K2 0 ([Sg b5 0 [I (((WF d t).1).now),Sl a23 ((((WF d t).1).way).length) c23]]::[]::[Sg b3 0 (J4 (JaM d) a2 c2 a3 c3 a4 c4)]::[Sg b 0 (JT t a15 c15 a16 c16 a17 c17 a18 c18 a19 c19 a20 c20 a21 c21 a22 c22)]::r7::r8::r9::r10::[Sg b1 0 (Wk d a1 c1 a2 c2 a3 c3 a4 c4)]::Lr) (Kp [(13,I ((WF d t).2))] (KA [0,1,2,3,4,5,8,9] [(10,0),(13,0)] [] [(0,Pt b 0),(5,Pt b5 0),(6,I ((WF d t).2))] (List.forall_mem_nil _) (WS (b5,a23,c23,G6) ⟨(Jt.le_trans hl5 hl6),w25,hs15⟩)))
 refine JS 11 [] (fun X=>?_)
 refine Ju 5 #[I 0,Sl none 0 0] 39 (fun b6=>JW [(11,Pt b6 0)] (J1 [] [(0,0),(1,0),(2,0),(3,0),(4,8),(5,6)] [] [7] (List.forall_mem_nil _) (List.forall_mem_cons.2 ⟨?_,List.forall_mem_nil _⟩)))
 refine JS 7 [(44,.agg #[I t.town.net.now,Sl a20 t.town.net.way.length c20]),(45,(K3 (JaM d) a2 c2 a3 c3 a4 c4)),(46,Sl (At b4 0) 1 1)] (fun X=>?_)
 refine QQ (b:=b4) (o:=0) (cs:=[I 1]) 1 (fun G7 hl7 hz2=>?_)
 have hs16:RS EI G7 (At b4 0) 1 [1]:=RS.lit [[I 1]] [1] ⟨⟨rfl,(by omega)⟩,trivial⟩ hz2 (Nat.le_of_ble_eq_true rfl) (Nat.le_of_ble_eq_true rfl)
 refine JQ 47 (Ya G7 [I t.town.net.now,Sl a20 t.town.net.way.length c20] t.town.net (⟨a20,c20,rfl,w23,(hs13.mono hl7)⟩) (J4 (JaM d) a2 c2 a3 c3 a4 c4) (JaM d) (⟨a2,c2,a3,c3,a4,c4,rfl,w2,w5,w6,w7,(hs2.mono (Jt.le_trans hl4 hl7)),w8,w9,w10,w11,w12,(hs3.mono (Jt.le_trans hl4 hl7)),(hs4.mono (Jt.le_trans hl4 hl7))⟩) (At b4 0) 1 ([1]) hs16) (fun v G8 L1 hl8 hp=>?_)
 obtain ⟨a24,c24,rfl,w26,hs17,rfl⟩:=hp
 refine JW [(7,.tuple #[.agg #[I (((WF d t).1).now),Sl a24 ((((WF d t).1).way).length) c24],I ((WF d t).2)]),(8,.tuple #[.agg #[I (((WF d t).1).now),Sl a24 ((((WF d t).1).way).length) c24],I ((WF d t).2)]),(9,.agg #[I (((WF d t).1).now),Sl a24 ((((WF d t).1).way).length) c24]),(10,I ((WF d t).2))] (J1 [0,1,2,3,4,5] [(8,0),(9,0),(10,0)] [] [12] (List.forall_mem_nil _) (List.forall_mem_cons.2 ⟨?_,List.forall_mem_nil _⟩))
 refine JS 12 [(5,Pt b6 0),(48,.agg #[I (((WF d t).1).now),Sl a24 ((((WF d t).1).way).length) c24])] (fun X=>?_)
 exact K2 0 ([Sg b6 0 [I (((WF d t).1).now),Sl a24 ((((WF d t).1).way).length) c24]]::[]::[Sg b3 0 (J4 (JaM d) a2 c2 a3 c3 a4 c4)]::[Sg b 0 (JT t a15 c15 a16 c16 a17 c17 a18 c18 a19 c19 a20 c20 a21 c21 a22 c22)]::r7::r8::r9::r10::[Sg b1 0 (Wk d a1 c1 a2 c2 a3 c3 a4 c4)]::Lr) (Kp [(13,I ((WF d t).2))] (KA [0,1,2,3,4,5,8,9] [(10,0),(13,0)] [] [(0,Pt b 0),(5,Pt b6 0),(6,I ((WF d t).2))] (List.forall_mem_nil _) (WS (b6,a24,c24,G8) ⟨(Jt.le_trans hl7 hl8),w26,hs17⟩)))
 refine JS 11 [] (fun X=>?_)
 refine Ju 5 #[I 0,Sl none 0 0] 39 (fun b7=>JW [(11,Pt b7 0)] (J1 [] [(0,0),(1,0),(2,0),(3,0),(4,6),(5,4)] [] [6] (List.forall_mem_nil _) (List.forall_mem_cons.2 ⟨?_,List.forall_mem_nil _⟩)))
 refine JS 6 [] (fun X=>?_)
 refine KH 46 1 #[I 1] 3 (fun b8=>JW [(6,Sl (At b8 0) 1 1)] (J1 [] [(0,0),(1,0),(2,0),(3,0),(4,8),(5,6)] [] [7] (List.forall_mem_nil _) (List.forall_mem_cons.2 ⟨?_,List.forall_mem_nil _⟩)))
 refine JS 7 [(44,.agg #[I t.town.net.now,Sl a20 t.town.net.way.length c20]),(45,(K3 (JaM d) a2 c2 a3 c3 a4 c4)),(46,Sl (At b8 0) 1 1)] (fun X=>?_)
 refine QQ (b:=b8) (o:=0) (cs:=[I 1]) 0 (fun G9 hl9 hz3=>?_)
 have hs18:RS EI G9 (At b8 0) 1 [1]:=RS.lit [[I 1]] [1] ⟨⟨rfl,(by omega)⟩,trivial⟩ hz3 (Nat.le_of_ble_eq_true rfl) (Nat.le_of_ble_eq_true rfl)
 refine JQ 47 (Ya G9 [I t.town.net.now,Sl a20 t.town.net.way.length c20] t.town.net (⟨a20,c20,rfl,w23,(hs13.mono hl9)⟩) (J4 (JaM d) a2 c2 a3 c3 a4 c4) (JaM d) (⟨a2,c2,a3,c3,a4,c4,rfl,w2,w5,w6,w7,(hs2.mono (Jt.le_trans hl4 hl9)),w8,w9,w10,w11,w12,(hs3.mono (Jt.le_trans hl4 hl9)),(hs4.mono (Jt.le_trans hl4 hl9))⟩) (At b8 0) 1 ([1]) hs18) (fun v G10 L1 hl10 hp=>?_)
 obtain ⟨a25,c25,rfl,w27,hs19,rfl⟩:=hp
 refine JW [(7,.tuple #[.agg #[I (((WF d t).1).now),Sl a25 ((((WF d t).1).way).length) c25],I ((WF d t).2)]),(8,.tuple #[.agg #[I (((WF d t).1).now),Sl a25 ((((WF d t).1).way).length) c25],I ((WF d t).2)]),(9,.agg #[I (((WF d t).1).now),Sl a25 ((((WF d t).1).way).length) c25]),(10,I ((WF d t).2))] (J1 [0,1,2,3,4,5] [(8,0),(9,0),(10,0)] [] [12] (List.forall_mem_nil _) (List.forall_mem_cons.2 ⟨?_,List.forall_mem_nil _⟩))
 refine JS 12 [(5,Pt b7 0),(48,.agg #[I (((WF d t).1).now),Sl a25 ((((WF d t).1).way).length) c25])] (fun X=>?_)
 refine K2 1 ([]::[Sg b7 0 [I (((WF d t).1).now),Sl a25 ((((WF d t).1).way).length) c25]]::[Sg b3 0 (J4 (JaM d) a2 c2 a3 c3 a4 c4)]::[Sg b 0 (JT t a15 c15 a16 c16 a17 c17 a18 c18 a19 c19 a20 c20 a21 c21 a22 c22)]::r7::r8::r9::r10::[Sg b1 0 (Wk d a1 c1 a2 c2 a3 c3 a4 c4)]::Lr) (Kp [(13,I ((WF d t).2))] (KA [0,1,2,3,4,5,8,9] [(10,0),(13,0)] [] [(0,Pt b 0),(5,Pt b7 0),(6,I ((WF d t).2))] (List.forall_mem_nil _) (Jj 8 (Jj 8 (Jj 8 (Jj 8 (Jj 8 (Jj 8 (Jj 8 (Jj 7 ?_))))))))))
 exact Jj 8 (WS (b7,a25,c25,G10) ⟨(Jt.le_trans hl9 hl10),w27,hs19⟩)
 obtain ⟨b5,a23,c23,G6⟩:=q_
 obtain ⟨hle1,hj1,hj2⟩:=hs
 dsimp only at hle1 hj1 hj2
 refine KQ (fr':=[(0,Pt b 0),(5,Pt b5 0),(6,I ((WF d t).2))]) (L':=([Sg b5 0 [I (((WF d t).1).now),Sl a23 ((((WF d t).1).way).length) c23]]::[]::[Sg b3 0 (J4 (JaM d) a2 c2 a3 c3 a4 c4)]::[Sg b 0 (JT t a15 c15 a16 c16 a17 c17 a18 c18 a19 c19 a20 c20 a21 c21 a22 c22)]::r7::r8::r9::r10::[Sg b1 0 (Wk d a1 c1 a2 c2 a3 c3 a4 c4)]::Lr)) rfl rfl (Jg [0,0] [(0,Pt b 0),(5,Pt b5 0),(51,Bo (decide ((WF d t).2=0)))] (Jo (decide ((WF d t).2=0)) (fun h5=>?_) (fun h5=>?_)))
 try simp only [BB] at h5
 refine Jb (Kd [0,2,0,0,0,9] [] ([Sg b5 0 [I (((WF d t).1).now),Sl a23 ((((WF d t).1).way).length) c23]]::[]::[Sg b3 0 (J4 (JaM d) a2 c2 a3 c3 a4 c4)]::[Sg b 0 (JT (⟨(⟨t.town.clerk,t.town.owners,t.town.polls,(WF d t).1⟩:QU),t.reach,t.fates,t.events⟩:JC) a15 c15 a16 c16 a17 c17 a18 c18 a19 c19 a23 c23 a21 c21 a22 c22)]::r7::r8::r9::r10::[Sg b1 0 (Wk d a1 c1 a2 c2 a3 c3 a4 c4)]::Lr) (Jc (JM (Jj 7 (Jj 7 (Jj 7 (Jj 7 (Jj 7 ?_))))))))
 have hf3:ZJ t d=(⟨(⟨t.town.clerk,t.town.owners,t.town.polls,((WF d t).1)⟩:QU),t.reach,t.fates,t.events⟩:JC):=by
  exact tDo31 ‹_› ‹_› ‹_›
 refine Zu [] [] (Q3 (Lr:=Lr) [[Sg b 0 (JT (⟨(⟨t.town.clerk,t.town.owners,t.town.polls,(WF d t).1⟩:QU),t.reach,t.fates,t.events⟩:JC) a15 c15 a16 c16 a17 c17 a18 c18 a19 c19 a23 c23 a21 c21 a22 c22)],r7,r8,r9,r10] (.cons_cons _ (.cons_cons _ (.cons_cons _ (.cons_cons _ (.cons_cons _ (.cons _ (.cons _ (.cons _ (.cons _ (List.Sublist.refl _)))))))))) (Jt.le_trans hl4 hle1) ?_)
 rw [hf3];try dsimp only
 exact ⟨a15,c15,a16,c16,a17,c17,a18,c18,a19,c19,a23,c23,a21,c21,a22,c22,r7,r8,r9,r10,rfl,w19,(hs10.mono hle1),w20,w21,w22,(hs11.mono hle1),(hs12.mono hle1),(hr7.mono hle1),(hr8.mono hle1),hj1,hj2,w24,(hr9.mono hle1),(hr10.mono hle1),rfl⟩
 try simp only [BB] at h5
 refine Jm (JM (Jj 7 (Jj 7 (Jj 7 (Jj 7 (Jj 7 ?_))))))
 have hf4:ZJ t d=t:=by
  exact tDo32 ‹_› ‹_› ‹_›
 refine Zu [] [] (Q3 (Lr:=Lr) [[Sg b 0 (JT t a15 c15 a16 c16 a17 c17 a18 c18 a19 c19 a20 c20 a21 c21 a22 c22)],r7,r8,r9,r10] (.cons_cons _ (.cons_cons _ (.cons_cons _ (.cons_cons _ (.cons_cons _ (.cons _ (.cons _ (.cons _ (.cons _ (List.Sublist.refl _)))))))))) (Jt.le_trans hl4 hle1) ?_)
 rw [hf4];try dsimp only
 exact ⟨a15,c15,a16,c16,a17,c17,a18,c18,a19,c19,a20,c20,a21,c21,a22,c22,r7,r8,r9,r10,rfl,w19,(hs10.mono hle1),w20,w21,w22,(hs11.mono hle1),(hs12.mono hle1),(hr7.mono hle1),(hr8.mono hle1),w23,(hs13.mono hle1),w24,(hr9.mono hle1),(hr10.mono hle1),rfl⟩
 try simp only [BB] at h4
 refine Jm (JM (Jj 4 (Jj 4 (Jj 4 (Jj 4 (Jj 4 ?_))))))
 have hf5:ZJ t d=t:=by
  exact tDo30 ‹_› ‹_›
 refine Zu [] [] (Q3 (Lr:=Lr) [[Sg b 0 (JT t a15 c15 a16 c16 a17 c17 a18 c18 a19 c19 a20 c20 a21 c21 a22 c22)],r7,r8,r9,r10] (.cons_cons _ (.cons_cons _ (.cons_cons _ (.cons_cons _ (.cons_cons _ (.cons _ (List.Sublist.refl _))))))) hl4 ?_)
 rw [hf5];try dsimp only
 exact ⟨a15,c15,a16,c16,a17,c17,a18,c18,a19,c19,a20,c20,a21,c21,a22,c22,r7,r8,r9,r10,rfl,w19,hs10,w20,w21,w22,hs11,hs12,hr7,hr8,w23,hs13,w24,hr9,hr10,rfl⟩
 try simp only [BB] at h3
 refine Jg [0,0] [(0,Pt b 0),(57,Bo (decide (d.kind=4)))] (Jo (decide (d.kind=4)) (fun h6=>?_) (fun h6=>?_))
 try simp only [BB] at h6
 refine Jb (Jd [0] [(59,Pt b 0)] (JG 5 (JG 5 (JG 5 (JG 5 (JG 5 (Qr (Ls:=[[Sg b 0 (JT t a_1 c_1 a_5 c_5 a_6 c_6 a_7 c_7 a_8 c_8 a_10 c_10 a_12 c_12 a_13 c_13)],r_7,r_8,r_12,r_13]) (Lr:=([Sg b1 0 (Wk d a1 c1 a2 c2 a3 c3 a4 c4)]::Lr)) 60 (Jko G b t a_1 c_1 a_5 c_5 a_6 c_6 a_7 c_7 a_8 c_8 a_10 c_10 a_12 c_12 a_13 c_13 r_7 r_8 r_12 r_13 h_0 h_1 h_2 h_3 h_4 h_5 h_6 h_7 h_8 h_9 h_10 h_11 h_12 h_13 ‹_› ‹_›) (fun v G11 L1 hl11 hp=>?_))))))))
 obtain ⟨a26,c26,a27,c27,a28,c28,a29,c29,a30,c30,a31,c31,a32,c32,a33,c33,r11,r12,r13,r14,rfl,w28,hs20,w29,w30,w31,hs21,hs22,hr11,hr12,w32,hs23,w33,hr13,hr14,rfl⟩:=hp
 refine Jc (JM (Jj 4 (Jj 4 (Jj 4 (Jj 4 (Jj 4 ?_))))))
 have hf6:ZJ t d=(Q8 t):=by
  exact tDo4 ‹_›
 refine Zu [] [] (Q3 (Lr:=Lr) [[Sg b 0 (JT (Q8 t) a26 c26 a27 c27 a28 c28 a29 c29 a30 c30 a31 c31 a32 c32 a33 c33)],r11,r12,r13,r14] (.cons_cons _ (.cons_cons _ (.cons_cons _ (.cons_cons _ (.cons_cons _ (.cons _ (List.Sublist.refl _))))))) hl11 ?_)
 rw [hf6];try dsimp only
 exact ⟨a26,c26,a27,c27,a28,c28,a29,c29,a30,c30,a31,c31,a32,c32,a33,c33,r11,r12,r13,r14,rfl,w28,hs20,w29,w30,w31,hs21,hs22,hr11,hr12,w32,hs23,w33,hr13,hr14,rfl⟩
 try simp only [BB] at h6
 refine Jm (JM (Jj 5 (Jj 5 (Jj 5 (Jj 5 (Jj 5 ?_))))))
 have hf7:ZJ t d=t:=by
  exact tDo5 ‹_› ‹_› ‹_› ‹_›
 refine Zu [] [] (Q3 (Lr:=Lr) [[Sg b 0 (JT t a_1 c_1 a_5 c_5 a_6 c_6 a_7 c_7 a_8 c_8 a_10 c_10 a_12 c_12 a_13 c_13)],r_7,r_8,r_12,r_13] (.cons_cons _ (.cons_cons _ (.cons_cons _ (.cons_cons _ (.cons_cons _ (.cons _ (List.Sublist.refl _))))))) (Jt.le_refl _) ?_)
 rw [hf7];try dsimp only
 exact ⟨a_1,c_1,a_5,c_5,a_6,c_6,a_7,c_7,a_8,c_8,a_10,c_10,a_12,c_12,a_13,c_13,r_7,r_8,r_12,r_13,rfl,h_0,h_1,h_2,h_3,h_4,h_5,h_6,h_7,h_8,h_9,h_10,h_11,h_12,h_13,rfl⟩
end Go.Proofs.YtnnlpbjdignhaaaGreatDoor
