import Derived.Test.YtnnlpbjdignhaaaGreatDoorTfTownW
import Derived.Test.YtnnlpbjdignhaaaGreatDoorTfTownA
namespace Go.Proofs.YtnnlpbjdignhaaaGreatDoor
open Go.Tx
set_option linter.unusedVariables false
set_option linter.unusedSimpArgs false
open Go.Tx Go.Proofs
structure YI (t:JG):Prop where
 I:∃ s,Zp s t
 W:Wo t
 polls:t.town.polls.length=t.town.owners.length
 len:t.town.owners.length≤4
 reach:1≤t.reach∧t.reach≤40
theorem YI.epoch {t:JG} (h:YI t) (i:Nat) (o:KX) (ho:t.town.owners[i]? = some o):o.head.epoch≤1000000:=by
 obtain ⟨s,h⟩:=h.I
 have:=WY (K1.1 (h.own i o ho).1).2.1
 omega
theorem YI.grew {t u:JG} {k:Nat} (h:YI t) (g:ZI t u k) (hI:∃ s,Zp s u) (hW:Wo u):YI u :=
 ⟨hI,hW,by rw [g.polls,g.own];exact h.polls,by rw [g.own];exact h.len,by rw [g.reach];exact h.reach⟩
theorem JlF {s:KI} {t:JG} (h:Zp s t) (h1:¬ (Kc t.town.clerk).1.now=t.town.clerk.now):Zp s (Yq t):=by
 obtain ⟨t0,tk⟩:=JbL h.clerk
 have hnn:(Kc t.town.clerk).1.now=t.town.clerk.now+1:=by
  rcases Ja3 h.clerk with q | q
  ·
   exact absurd q.1 h1
  ·
   exact q.2
 have hc:=tk.ok.now
 have hn:=h.now
 have hr:=Ja9 h.net (by omega)
 refine ⟨tk.ok,hr.1,?_,h.own,h.poll⟩
 show (JX t.town.net).1.now=(Kc t.town.clerk).1.now
 rw [hr.2];omega
theorem WU {t:JG} (h:YI t) (h1:¬ (Kc t.town.clerk).1.now=t.town.clerk.now) {jt:JG} {i:Nat} (hJ:jt=WP (Yq t) ((JX t.town.net).2.1.take i)) :
  YI jt∧jt.events.length≤t.events.length+60∧jt.town.owners.length=t.town.owners.length:=by
 obtain ⟨s,hI⟩:=h.I
 subst hJ
 have hm:∀ x∈(JX t.town.net).2.1.take i,x∈(JX t.town.net).2.1:=fun x hx=>List.mem_of_mem_take hx
 have g:=Jcj ((JX t.town.net).2.1.take i) (Yq t)
 have hl:((JX t.town.net).2.1.take i).length≤60:=by have:=JgM t.town.net;rw [List.length_take];omega
 have g2:ZI t (WP (Yq t) ((JX t.town.net).2.1.take i)) 60:=(⟨g.ev,g.own,g.polls,g.reach⟩:ZI t _ _).mono hl
 exact ⟨h.grew g2 ⟨s,Jcl _ (JlF hI h1) (fun x hx=>h.W x (JdQ (hm x hx)))⟩ (Jck _ (Jir h.W)),g2.len.1,g2.own⟩
theorem JdR {t:JG} (h:YI t) {i:Nat} {x:JV} (hx:(JX t.town.net).2.1[i]? = some x):x.to_<t.town.owners.length:=h.W x (JdQ (List.mem_of_getElem? hx))
theorem Jco {t:JG} (h:YI t) {kt:JG} {i:Nat} (hK:kt=JaE t i):YI kt∧kt.events.length≤t.events.length+i∧kt.town.owners.length=t.town.owners.length:=by
 obtain ⟨s,hI⟩:=h.I
 subst hK
 have g:=JhH t i
 exact ⟨h.grew g ⟨s,JhL hI i⟩ (JhI h.W i),g.len.1,g.own⟩
theorem JhN {t:JG} (h:(Kc t.town.clerk).1.now=t.town.clerk.now):Q7 t=t:=by unfold Q7;rw [if_pos h]
theorem Jk8 {t jt kt:JG} {i k:Nat} (h:¬ (Kc t.town.clerk).1.now=t.town.clerk.now) (hJ:jt=WP (Yq t) ((JX t.town.net).2.1.take i)) (hi:(JX t.town.net).2.1.length≤i) (hK:kt=JaE jt k) (hk:k=jt.town.owners.length):Q7 t=kt:=by
 unfold Q7
 rw [List.take_of_length_le hi] at hJ
 rw [if_neg h,hK,hk,hJ]
theorem do_H {t:JG} (h:YI t) (d:QM):YI (ZC t d)∧(ZC t d).events.length≤t.events.length+64:=by
 obtain ⟨s,hI⟩:=h.I
 have g:=g_do h.len d
 exact ⟨h.grew g ⟨s,i_do hI h.W d⟩ (w_do h.W d),g.len.1⟩
set_option maxRecDepth 20000 in
abbrev YY (t:JG):=Kc t.town.clerk
set_option maxHeartbeats 1600000 in
theorem Jjx (G:Jt) (b:Nat) (t:JG) (a_1:Option Addr) (c_1:Nat) (a_5:Option Addr) (c_5:Nat) (a_6:Option Addr) (c_6:Nat) (a_7:Option Addr) (c_7:Nat) (a_8:Option Addr) (c_8:Nat) (a_10:Option Addr) (c_10:Nat) (a_12:Option Addr) (c_12:Nat) (a_13:Option Addr) (c_13:Nat) (r_7:List Kq) (r_8:List Kq) (r_12:List Kq) (r_13:List Kq) (h_0:rI t.town.clerk.queue.most) (h_1:RS QO G a_1 c_1 t.town.clerk.queue.wait) (h_2:rI t.town.clerk.batch) (h_3:rI t.town.clerk.every) (h_4:rI t.town.clerk.now) (h_5:RS KA G a_5 c_5 t.town.clerk.heads) (h_6:RS Qf G a_6 c_6 t.town.clerk.books) (h_7:J8 QI G a_7 c_7 t.town.owners r_7) (h_8:J8 Wi G a_8 c_8 t.town.polls r_8) (h_9:rI t.town.net.now) (h_10:RS Ki G a_10 c_10 t.town.net.way) (h_11:rI t.reach) (h_12:J8 YG G a_12 c_12 t.fates r_12) (h_13:J8 Q0 G a_13 c_13 t.events r_13)  (hH:YI t) (hev:t.events.length≤900000):Jar Tryz.prog 75 #[Pt b 0] G [[Sg b 0 [I t.town.clerk.queue.most,Sl a_1 t.town.clerk.queue.wait.length c_1,I t.town.clerk.batch,I t.town.clerk.every,I t.town.clerk.now,Sl a_5 t.town.clerk.heads.length c_5,Sl a_6 t.town.clerk.books.length c_6,Sl a_7 t.town.owners.length c_7,Sl a_8 t.town.polls.length c_8,I t.town.net.now,Sl a_10 t.town.net.way.length c_10,I t.reach,Sl a_12 t.fates.length c_12,Sl a_13 t.events.length c_13]],r_7,r_8,r_12,r_13] (fun u G' L'=>∃ (a_z1:Option Addr) (c_z1:Nat) (a_z5:Option Addr) (c_z5:Nat) (a_z6:Option Addr) (c_z6:Nat) (a_z7:Option Addr) (c_z7:Nat) (a_z8:Option Addr) (c_z8:Nat) (a_z10:Option Addr) (c_z10:Nat) (a_z12:Option Addr) (c_z12:Nat) (a_z13:Option Addr) (c_z13:Nat) (r_z7:List Kq) (r_z8:List Kq) (r_z12:List Kq) (r_z13:List Kq),u=.tuple #[]∧(rI ((Q7 t).town.clerk.queue.most))∧(RS QO G' a_z1 c_z1 ((Q7 t).town.clerk.queue.wait))∧(rI ((Q7 t).town.clerk.batch))∧(rI ((Q7 t).town.clerk.every))∧(rI ((Q7 t).town.clerk.now))∧(RS KA G' a_z5 c_z5 ((Q7 t).town.clerk.heads))∧(RS Qf G' a_z6 c_z6 ((Q7 t).town.clerk.books))∧(J8 QI G' a_z7 c_z7 ((Q7 t).town.owners) r_z7)∧(J8 Wi G' a_z8 c_z8 ((Q7 t).town.polls) r_z8)∧(rI ((Q7 t).town.net.now))∧(RS Ki G' a_z10 c_z10 ((Q7 t).town.net.way))∧(rI ((Q7 t).reach))∧(J8 YG G' a_z12 c_z12 ((Q7 t).fates) r_z12)∧(J8 Q0 G' a_z13 c_z13 ((Q7 t).events) r_z13)∧L'=[[Sg b 0 [I ((Q7 t).town.clerk.queue.most),Sl a_z1 (((Q7 t).town.clerk.queue.wait).length) c_z1,I ((Q7 t).town.clerk.batch),I ((Q7 t).town.clerk.every),I ((Q7 t).town.clerk.now),Sl a_z5 (((Q7 t).town.clerk.heads).length) c_z5,Sl a_z6 (((Q7 t).town.clerk.books).length) c_z6,Sl a_z7 (((Q7 t).town.owners).length) c_z7,Sl a_z8 (((Q7 t).town.polls).length) c_z8,I ((Q7 t).town.net.now),Sl a_z10 (((Q7 t).town.net.way).length) c_z10,I ((Q7 t).reach),Sl a_z12 (((Q7 t).fates).length) c_z12,Sl a_z13 (((Q7 t).events).length) c_z13]],r_z7,r_z8,r_z12,r_z13]):=by
 intro Lr
 refine JL Tryz.func75 79 [(0,Pt b 0)] rfl (fun w0 G0=>?_)
 show TC _ _ _ _ _ ([Sg b 0 (JR t a_1 c_1 a_5 c_5 a_6 c_6 a_7 c_7 a_8 c_8 a_10 c_10 a_12 c_12 a_13 c_13)]::r_7::r_8::r_12::r_13::Lr)
 refine Je (Jb ?_)
 refine Jc [0,0,0,0,2] [(0,Pt b 0),(16,(KP t.town.clerk a_1 c_1 a_5 c_5 a_6 c_6))] ?_
 refine JN 17 (Jei G (Kn t.town.clerk a_1 c_1 a_5 c_5 a_6 c_6) t.town.clerk (⟨a_1,c_1,a_5,c_5,a_6,c_6,rfl,h_0,h_1,h_2,h_3,h_4,h_5,h_6⟩)) (fun v G1 L1 hl1 hp=>?_)
 obtain ⟨a1,c1,a2,c2,a3,c3,rfl,w1,hs1,w2,w3,w4,hs2,hs3,rfl⟩:=hp
 refine Jc [0,0,0,0] [(0,Pt b 0),(18,(KP (YY t).1 a1 c1 a2 c2 a3 c3)),(19,Bo ((YY t).2.1)),(20,I ((YY t).2.2))] ?_
 refine Ju 2 #[I 0,Sl none 0 0,I 0,I 0,I 0,Sl none 0 0,Sl none 0 0] 34 (fun b1=>?_)
 refine Kb [3,0,0] [(0,Pt b 0),(2,Pt b1 0)] ([Sg b1 0 (Kn (YY t).1 a1 c1 a2 c2 a3 c3)]::[Sg b 0 (JR t a_1 c_1 a_5 c_5 a_6 c_6 a_7 c_7 a_8 c_8 a_10 c_10 a_12 c_12 a_13 c_13)]::r_7::r_8::r_12::r_13::Lr) (Jd (Ja (Je (Je ?_))))
 refine Kw [] ?_
 refine Wa [(0,Pt b1 4),(1,I (((YY t).1).now)),(2,Pt b 0),(3,Pt b 0),(4,Pt b 0),(5,Pt b 0),(6,Pt b 4),(7,I t.town.clerk.now),(8,Bo (decide (((YY t).1).now=t.town.clerk.now)))] ?_
 refine Kv [] [(0,0),(1,2),(2,0),(3,0),(4,0),(5,0),(6,0),(7,4),(8,0)] [] [(0,Pt b 0),(2,Pt b1 0),(29,Bo (decide (((YY t).1).now=t.town.clerk.now)))] (List.forall_mem_nil _) ?_
 refine Ja ?_
 refine Jo (decide (((YY t).1).now=t.town.clerk.now)) (fun h1=>?_) (fun h1=>?_)
 try simp only [BB] at h1
 refine Jk (Jh ?_)
 refine Jj 5 ?_
 refine Jj 5 ?_
 refine Jj 5 ?_
 refine Jj 5 ?_
 refine Jj 5 ?_
 have hf1:Q7 t=t:=by
  exact JhN ‹_›
 refine Jl [] [] (QW (Lr:=Lr) [[Sg b 0 (JR t a_1 c_1 a_5 c_5 a_6 c_6 a_7 c_7 a_8 c_8 a_10 c_10 a_12 c_12 a_13 c_13)],r_7,r_8,r_12,r_13] (.cons_cons _ (.cons_cons _ (.cons_cons _ (.cons_cons _ (.cons_cons _ (.cons _ (List.Sublist.refl _))))))) hl1 ?_)
 rw [hf1];try dsimp only
 exact ⟨a_1,c_1,a_5,c_5,a_6,c_6,a_7,c_7,a_8,c_8,a_10,c_10,a_12,c_12,a_13,c_13,r_7,r_8,r_12,r_13,rfl,h_0,(h_1.mono hl1),h_2,h_3,h_4,(h_5.mono hl1),(h_6.mono hl1),(h_7.mono hl1),(h_8.mono hl1),h_9,(h_10.mono hl1),h_11,(h_12.mono hl1),(h_13.mono hl1),rfl⟩
 try simp only [BB] at h1
 refine Jm (Ja ?_)
 refine WC [0,2,0,0,0,5] [(0,Pt b 0)] ([Sg b1 0 (Kn (YY t).1 a1 c1 a2 c2 a3 c3)]::[Sg b 0 (JR (⟨(⟨(YY t).1,t.town.owners,t.town.polls,t.town.net⟩:QN),t.reach,t.fates,t.events⟩:JG) a1 c1 a2 c2 a3 c3 a_7 c_7 a_8 c_8 a_10 c_10 a_12 c_12 a_13 c_13)]::r_7::r_8::r_12::r_13::Lr) ?_
 refine Je (Jb ?_)
 refine Jc [0,0,0,0,4] [(0,Pt b 0),(40,.agg #[I t.town.net.now,Sl a_10 t.town.net.way.length c_10])] ?_
 refine JN 41 (JgJ G1 [I t.town.net.now,Sl a_10 t.town.net.way.length c_10] t.town.net (⟨a_10,c_10,rfl,h_9,(h_10.mono hl1)⟩)) (fun v G2 L1 hl2 hp=>?_)
 obtain ⟨a4,c4,a5,c5,rfl,w5,hs4,hs5,rfl⟩:=hp
 refine Jc [0,0,0,0] [(0,Pt b 0),(42,.agg #[I (((JX t.town.net).1).now),Sl a4 ((((JX t.town.net).1).way).length) c4]),(43,Sl a5 (((JX t.town.net).2.1).length) c5),(44,I ((JX t.town.net).2.2))] ?_
 refine Ju 5 #[I 0,Sl none 0 0] 39 (fun b2=>?_)
 refine Kb [3,0,0] [(0,Pt b 0),(5,Pt b2 0),(6,Sl a5 (((JX t.town.net).2.1).length) c5)] ([Sg b2 0 [I (((JX t.town.net).1).now),Sl a4 ((((JX t.town.net).1).way).length) c4]]::[Sg b1 0 (Kn (YY t).1 a1 c1 a2 c2 a3 c3)]::[Sg b 0 (JR (⟨(⟨(YY t).1,t.town.owners,t.town.polls,t.town.net⟩:QN),t.reach,t.fates,t.events⟩:JG) a1 c1 a2 c2 a3 c3 a_7 c_7 a_8 c_8 a_10 c_10 a_12 c_12 a_13 c_13)]::r_7::r_8::r_12::r_13::Lr) (Jd (Ja ?_))
 refine WC [0,2,0,0,0,7] [(0,Pt b 0),(6,Sl a5 (((JX t.town.net).2.1).length) c5)] ([Sg b2 0 [I (((JX t.town.net).1).now),Sl a4 ((((JX t.town.net).1).way).length) c4]]::[Sg b1 0 (Kn (YY t).1 a1 c1 a2 c2 a3 c3)]::[Sg b 0 (JR (⟨(⟨(YY t).1,t.town.owners,t.town.polls,(JX t.town.net).1⟩:QN),t.reach,t.fates,t.events⟩:JG) a1 c1 a2 c2 a3 c3 a_7 c_7 a_8 c_8 a4 c4 a_12 c_12 a_13 c_13)]::r_7::r_8::r_12::r_13::Lr) ?_
 refine Je ?_
 refine Jg [0,0,0] [(0,Pt b 0),(50,Sl a5 (((JX t.town.net).2.1).length) c5),(51,I (((JX t.town.net).2.1).length:Int)),(52,I 0)] (Jy ?_)
 have hlm_hs5:((JX t.town.net).2.1).length≤9223372036854775807:=Nat.le_trans (hs5).le (hs5).max
 refine Qb (σ:=Nat×JG×Option Addr×Nat×Option Addr×Nat×Option Addr×Nat×Option Addr×Nat×List Kq×Option Addr×Nat×List Kq×Option Addr×Nat×Option Addr×Nat×List Kq×Option Addr×Nat×List Kq×Jt) (fun q_=>(Jt.le G2 q_.2.2.2.2.2.2.2.2.2.2.2.2.2.2.2.2.2.2.2.2.2.2)∧(q_.1≤((JX t.town.net).2.1).length)∧(RS QO q_.2.2.2.2.2.2.2.2.2.2.2.2.2.2.2.2.2.2.2.2.2.2 q_.2.2.1 q_.2.2.2.1 q_.2.1.town.clerk.queue.wait)∧(RS KA q_.2.2.2.2.2.2.2.2.2.2.2.2.2.2.2.2.2.2.2.2.2.2 q_.2.2.2.2.1 q_.2.2.2.2.2.1 q_.2.1.town.clerk.heads)∧(RS Qf q_.2.2.2.2.2.2.2.2.2.2.2.2.2.2.2.2.2.2.2.2.2.2 q_.2.2.2.2.2.2.1 q_.2.2.2.2.2.2.2.1 q_.2.1.town.clerk.books)∧(J8 QI q_.2.2.2.2.2.2.2.2.2.2.2.2.2.2.2.2.2.2.2.2.2.2 q_.2.2.2.2.2.2.2.2.1 q_.2.2.2.2.2.2.2.2.2.1 q_.2.1.town.owners q_.2.2.2.2.2.2.2.2.2.2.1)∧(J8 Wi q_.2.2.2.2.2.2.2.2.2.2.2.2.2.2.2.2.2.2.2.2.2.2 q_.2.2.2.2.2.2.2.2.2.2.2.1 q_.2.2.2.2.2.2.2.2.2.2.2.2.1 q_.2.1.town.polls q_.2.2.2.2.2.2.2.2.2.2.2.2.2.1)∧(RS Ki q_.2.2.2.2.2.2.2.2.2.2.2.2.2.2.2.2.2.2.2.2.2.2 q_.2.2.2.2.2.2.2.2.2.2.2.2.2.2.1 q_.2.2.2.2.2.2.2.2.2.2.2.2.2.2.2.1 q_.2.1.town.net.way)∧(J8 YG q_.2.2.2.2.2.2.2.2.2.2.2.2.2.2.2.2.2.2.2.2.2.2 q_.2.2.2.2.2.2.2.2.2.2.2.2.2.2.2.2.1 q_.2.2.2.2.2.2.2.2.2.2.2.2.2.2.2.2.2.1 q_.2.1.fates q_.2.2.2.2.2.2.2.2.2.2.2.2.2.2.2.2.2.2.1)∧(J8 Q0 q_.2.2.2.2.2.2.2.2.2.2.2.2.2.2.2.2.2.2.2.2.2.2 q_.2.2.2.2.2.2.2.2.2.2.2.2.2.2.2.2.2.2.2.1 q_.2.2.2.2.2.2.2.2.2.2.2.2.2.2.2.2.2.2.2.2.1 q_.2.1.events q_.2.2.2.2.2.2.2.2.2.2.2.2.2.2.2.2.2.2.2.2.2.1)∧(rI q_.2.1.town.clerk.queue.most)∧(rI q_.2.1.town.clerk.batch)∧(rI q_.2.1.town.clerk.every)∧(rI q_.2.1.town.clerk.now)∧(rI q_.2.1.town.net.now)∧(rI q_.2.1.reach)∧(q_.2.1=WP (Yq t) ((JX t.town.net).2.1.take q_.1))) (fun q_=>[(0,Pt b 0),(50,Sl a5 (((JX t.town.net).2.1).length) c5),(51,I (((JX t.town.net).2.1).length:Int)),(52,I (q_.1:Int))]) (fun q_=>q_.2.2.2.2.2.2.2.2.2.2.2.2.2.2.2.2.2.2.2.2.2.2) (fun q_=>([Sg b2 0 [I (((JX t.town.net).1).now),Sl a4 ((((JX t.town.net).1).way).length) c4]]::[Sg b1 0 (Kn (YY t).1 a1 c1 a2 c2 a3 c3)]::[Sg b 0 (JR q_.2.1 q_.2.2.1 q_.2.2.2.1 q_.2.2.2.2.1 q_.2.2.2.2.2.1 q_.2.2.2.2.2.2.1 q_.2.2.2.2.2.2.2.1 q_.2.2.2.2.2.2.2.2.1 q_.2.2.2.2.2.2.2.2.2.1 q_.2.2.2.2.2.2.2.2.2.2.2.1 q_.2.2.2.2.2.2.2.2.2.2.2.2.1 q_.2.2.2.2.2.2.2.2.2.2.2.2.2.2.1 q_.2.2.2.2.2.2.2.2.2.2.2.2.2.2.2.1 q_.2.2.2.2.2.2.2.2.2.2.2.2.2.2.2.2.1 q_.2.2.2.2.2.2.2.2.2.2.2.2.2.2.2.2.2.1 q_.2.2.2.2.2.2.2.2.2.2.2.2.2.2.2.2.2.2.2.1 q_.2.2.2.2.2.2.2.2.2.2.2.2.2.2.2.2.2.2.2.2.1)]::q_.2.2.2.2.2.2.2.2.2.2.1::q_.2.2.2.2.2.2.2.2.2.2.2.2.2.1::q_.2.2.2.2.2.2.2.2.2.2.2.2.2.2.2.2.2.2.1::q_.2.2.2.2.2.2.2.2.2.2.2.2.2.2.2.2.2.2.2.2.2.1::Lr)) (fun q_=>((JX t.town.net).2.1).length-q_.1) (0,(⟨(⟨((YY t).1),t.town.owners,t.town.polls,((JX t.town.net).1)⟩:QN),t.reach,t.fates,t.events⟩:JG),a1,c1,a2,c2,a3,c3,a_7,c_7,r_7,a_8,c_8,r_8,a4,c4,a_12,c_12,r_12,a_13,c_13,r_13,G2) ⟨(Jt.le_refl _),(by (try dsimp only);omega),(hs1.mono hl2),(hs2.mono hl2),(hs3.mono hl2),(h_7.mono (Jt.le_trans hl1 hl2)),(h_8.mono (Jt.le_trans hl1 hl2)),hs4,(h_12.mono (Jt.le_trans hl1 hl2)),(h_13.mono (Jt.le_trans hl1 hl2)),w1,w2,w3,w4,w5,h_11,(by (try dsimp only);rfl)⟩ (fun q_ hs=>?_)
 obtain ⟨i,jt,ajt0,cjt0,ajt1,cjt1,ajt2,cjt2,ajt3,cjt3,rjt7,ajt4,cjt4,rjt8,ajt5,cjt5,ajt6,cjt6,rjt12,ajt7,cjt7,rjt13,g⟩:=q_
 obtain ⟨hle,hi,hjt1,hjt5,hjt6,hjt7,hjt8,hjt10,hjt12,hjt13,hjt0,hjt2,hjt3,hjt4,hjt9,hjt11,hJ⟩:=hs
 dsimp only at hle hi hjt1 hjt5 hjt6 hjt7 hjt8 hjt10 hjt12 hjt13 hjt0 hjt2 hjt3 hjt4 hjt9 hjt11 hJ
 refine KJ (fr':=[(0,Pt b 0),(50,Sl a5 (((JX t.town.net).2.1).length) c5),(51,I (((JX t.town.net).2.1).length:Int)),(52,I (i:Int))]) (L':=([Sg b2 0 [I (((JX t.town.net).1).now),Sl a4 ((((JX t.town.net).1).way).length) c4]]::[Sg b1 0 (Kn (YY t).1 a1 c1 a2 c2 a3 c3)]::[Sg b 0 (JR jt ajt0 cjt0 ajt1 cjt1 ajt2 cjt2 ajt3 cjt3 ajt4 cjt4 ajt5 cjt5 ajt6 cjt6 ajt7 cjt7)]::rjt7::rjt8::rjt12::rjt13::Lr)) rfl rfl ?_
 refine Jg [0] [(0,Pt b 0),(50,Sl a5 (((JX t.town.net).2.1).length) c5),(51,I (((JX t.town.net).2.1).length:Int)),(52,I (i:Int)),(53,Bo (decide ((i:Int)<(((JX t.town.net).2.1).length:Int))))] (Je ?_)
 refine Jo (decide ((i:Int)<(((JX t.town.net).2.1).length:Int))) (fun h2=>?_) (fun h2=>?_)
 try simp only [BB] at h2
 refine Jm (Ja (Je (Jy (Je (Jb ?_)))))
 obtain ⟨b3,o1,rfl⟩:=RS.addr (hs5.mono hle) (k:=i) (by omega)
 obtain ⟨x1,hx1⟩:=Q8 (l:=(JX t.town.net).2.1) (k:=i) (by omega)
 obtain ⟨_,⟨a6,c6,a7,c7,a8,c8,rfl,w6,w7,w8,w9,hs6,w10,w11,w12,w13,w14,hs7,hs8⟩,hc1⟩:=RS.get (hs5.mono hle) hx1
 refine Kh (b:=b3) (off:=o1) (len:=((JX t.town.net).2.1).length) (cap:=c5) (ik:=.i64) 54 72 12 i (by omega) ?_
 refine J9 55 72 (cs:=(J4 x1 a6 c6 a7 c7 a8 c8)) 0 (KV x1 a6 c6 a7 c7 a8 c8) hc1 ?_
 refine Ju 9 #[I 0,I 0,I 0,I 0,Sl none 0 0,I 0,U 0,U 0,I 0,Sr ([]),Sl none 0 0,Sl none 0 0] 72 (fun b4=>?_)
 refine Kb [3] [(0,Pt b 0),(9,Pt b4 0),(50,Sl (At b3 o1) (((JX t.town.net).2.1).length) c5),(51,I (((JX t.town.net).2.1).length:Int)),(52,I (i:Int))] ([Sg b4 0 (J4 x1 a6 c6 a7 c7 a8 c8)]::[Sg b2 0 [I (((JX t.town.net).1).now),Sl a4 ((((JX t.town.net).1).way).length) c4]]::[Sg b1 0 (Kn (YY t).1 a1 c1 a2 c2 a3 c3)]::[Sg b 0 (JR jt ajt0 cjt0 ajt1 cjt1 ajt2 cjt2 ajt3 cjt3 ajt4 cjt4 ajt5 cjt5 ajt6 cjt6 ajt7 cjt7)]::rjt7::rjt8::rjt12::rjt13::Lr) (Jd (Ja ?_))
 refine Jg [0,2,0] [(0,Pt b 0),(9,Pt b4 0),(50,Sl (At b3 o1) (((JX t.town.net).2.1).length) c5),(51,I (((JX t.town.net).2.1).length:Int)),(52,I (i:Int)),(58,Bo (decide (x1.to_<0)))] ?_
 refine Jo (decide (x1.to_<0)) (fun h3=>?_) (fun h3=>?_)
 try simp only [BB] at h3
 refine Jb ?_
 refine Jc [0,2] [(0,Pt b 0),(50,Sl (At b3 o1) (((JX t.town.net).2.1).length) c5),(51,I (((JX t.town.net).2.1).length:Int)),(52,I (i:Int)),(59,Pt b 0),(60,(KV x1 a6 c6 a7 c7 a8 c8))] ?_
 refine JF 7 ?_
 refine JF 7 ?_
 refine JF 7 ?_
 refine JF 7 ?_
 refine JF 7 ?_
 refine Qk (Ls:=[[Sg b 0 (JR jt ajt0 cjt0 ajt1 cjt1 ajt2 cjt2 ajt3 cjt3 ajt4 cjt4 ajt5 cjt5 ajt6 cjt6 ajt7 cjt7)],rjt7,rjt8,rjt12,rjt13]) (Lr:=([Sg b4 0 (J4 x1 a6 c6 a7 c7 a8 c8)]::[Sg b2 0 [I (((JX t.town.net).1).now),Sl a4 ((((JX t.town.net).1).way).length) c4]]::[Sg b1 0 (Kn (YY t).1 a1 c1 a2 c2 a3 c3)]::Lr)) 61 (JgQ g b jt ajt0 cjt0 ajt1 cjt1 ajt2 cjt2 ajt3 cjt3 ajt4 cjt4 ajt5 cjt5 ajt6 cjt6 ajt7 cjt7 rjt7 rjt8 rjt12 rjt13 hjt0 hjt1 hjt2 hjt3 hjt4 hjt5 hjt6 hjt7 hjt8 hjt9 hjt10 hjt11 hjt12 hjt13 (J4 x1 a6 c6 a7 c7 a8 c8) x1 (⟨a6,c6,a7,c7,a8,c8,rfl,w6,w7,w8,w9,hs6,w10,w11,w12,w13,w14,hs7,hs8⟩) (by exact (WU hH ‹_› hJ).1.reach)) (fun v G3 L1 hl3 hp=>?_)
 obtain ⟨a9,c9,a10,c10,a11,c11,a12,c12,a13,c13,a14,c14,a15,c15,a16,c16,r1,r2,r3,r4,rfl,_,hs9,_,_,_,hs10,hs11,hr1,hr2,_,hs12,_,hr3,hr4,rfl⟩:=hp
 refine Jd (JK (Ja (Jb ?_)))
 refine Jc [0,0] [(0,Pt b 0),(50,Sl (At b3 o1) (((JX t.town.net).2.1).length) c5),(51,I (((JX t.town.net).2.1).length:Int)),(52,I (IntKind.i64.wrap ((i:Int)+1)))] ?_
 have e1:IntKind.i64.wrap ((i:Int)+1)=(i:Int)+1:=IntWalk.i64_in _ (by omega)
 refine J2 (fr':=[(0,Pt b 0),(50,Sl (At b3 o1) (((JX t.town.net).2.1).length) c5),(51,I (((JX t.town.net).2.1).length:Int)),(52,I ((i:Int)+1))]) (L':=([Sg b 0 [I ((KG jt x1).town.clerk.queue.most),Sl a9 (((KG jt x1).town.clerk.queue.wait).length) c9,I ((KG jt x1).town.clerk.batch),I ((KG jt x1).town.clerk.every),I ((KG jt x1).town.clerk.now),Sl a10 (((KG jt x1).town.clerk.heads).length) c10,Sl a11 (((KG jt x1).town.clerk.books).length) c11,Sl a12 (((KG jt x1).town.owners).length) c12,Sl a13 (((KG jt x1).town.polls).length) c13,I ((KG jt x1).town.net.now),Sl a14 (((KG jt x1).town.net.way).length) c14,I ((KG jt x1).reach),Sl a15 (((KG jt x1).fates).length) c15,Sl a16 (((KG jt x1).events).length) c16]]::r1::r2::r3::r4::[Sg b4 0 [I x1.to_,I x1.from_,I x1.since,I x1.due,Sl a6 x1.heads.length c6,I x1.reply.head.epoch,U x1.reply.head.root,U x1.reply.head.prev,I x1.reply.head.at_,Sr x1.reply.proof.name,Sl a7 x1.reply.proof.entries.length c7,Sl a8 x1.reply.proof.sides.length c8]]::[Sg b2 0 [I (((JX t.town.net).1).now),Sl a4 ((((JX t.town.net).1).way).length) c4]]::[Sg b1 0 [I (((Kc t.town.clerk).1).queue.most),Sl a1 ((((Kc t.town.clerk).1).queue.wait).length) c1,I (((Kc t.town.clerk).1).batch),I (((Kc t.town.clerk).1).every),I (((Kc t.town.clerk).1).now),Sl a2 ((((Kc t.town.clerk).1).heads).length) c2,Sl a3 ((((Kc t.town.clerk).1).books).length) c3]]::Lr)) (by simp only [Kn,J4,JR,KP,KV,e1];first | done | rfl) (by rfl) ?_
 clear e1
 refine Jd ?_
 refine Jj 4 ?_
 refine Jj 4 ?_
 refine Jj 4 ?_
 refine Jj 4 ?_
 refine Jj 4 ?_
 refine Jj 7 ?_
 refine Jj 7 ?_
 refine QY ([Sg b2 0 [I (((JX t.town.net).1).now),Sl a4 ((((JX t.town.net).1).way).length) c4]]::[Sg b1 0 (Kn (YY t).1 a1 c1 a2 c2 a3 c3)]::[Sg b 0 (JR (KG jt x1) a9 c9 a10 c10 a11 c11 a12 c12 a13 c13 a14 c14 a15 c15 a16 c16)]::r1::r2::r3::r4::Lr) (.cons_cons _ (.cons_cons _ (.cons_cons _ (.cons_cons _ (.cons_cons _ (.cons_cons _ (.cons_cons _ (.cons _ (List.Sublist.refl _))))))))) ?_
 exact Qd (i+1,(KG jt x1),a9,c9,a10,c10,a11,c11,a12,c12,r1,a13,c13,r2,a14,c14,a15,c15,r3,a16,c16,r4,G3) ⟨(Jt.le_trans hle hl3),(by omega),hs9,hs10,hs11,hr1,hr2,hs12,hr3,hr4,‹_›,‹_›,‹_›,‹_›,‹_›,‹_›,(by (try dsimp only);rw [← Ja8 hx1,← hJ];unfold ZS;rw [if_pos (by omega)])⟩ (by (try dsimp only);omega)
 try simp only [BB] at h3
 refine Jb ?_
 refine Jc [0,2] [(0,Pt b 0),(50,Sl (At b3 o1) (((JX t.town.net).2.1).length) c5),(51,I (((JX t.town.net).2.1).length:Int)),(52,I (i:Int)),(62,Pt b 0),(63,(KV x1 a6 c6 a7 c7 a8 c8))] ?_
 refine JF 7 ?_
 refine JF 7 ?_
 refine JF 7 ?_
 refine JF 7 ?_
 refine JF 7 ?_
 refine Qk (Ls:=[[Sg b 0 (JR jt ajt0 cjt0 ajt1 cjt1 ajt2 cjt2 ajt3 cjt3 ajt4 cjt4 ajt5 cjt5 ajt6 cjt6 ajt7 cjt7)],rjt7,rjt8,rjt12,rjt13]) (Lr:=([Sg b4 0 (J4 x1 a6 c6 a7 c7 a8 c8)]::[Sg b2 0 [I (((JX t.town.net).1).now),Sl a4 ((((JX t.town.net).1).way).length) c4]]::[Sg b1 0 (Kn (YY t).1 a1 c1 a2 c2 a3 c3)]::Lr)) 64 (Jk6 g b jt ajt0 cjt0 ajt1 cjt1 ajt2 cjt2 ajt3 cjt3 ajt4 cjt4 ajt5 cjt5 ajt6 cjt6 ajt7 cjt7 rjt7 rjt8 rjt12 rjt13 hjt0 hjt1 hjt2 hjt3 hjt4 hjt5 hjt6 hjt7 hjt8 hjt9 hjt10 hjt11 hjt12 hjt13 (J4 x1 a6 c6 a7 c7 a8 c8) x1 (⟨a6,c6,a7,c7,a8,c8,rfl,w6,w7,w8,w9,hs6,w10,w11,w12,w13,w14,hs7,hs8⟩) (by (have q_:=(WU hH ‹_› hJ);have q2_:=JdR hH ‹_›;omega)) (by (have q_:=(WU hH ‹_› hJ);have q2_:=JdR hH ‹_›;omega)) (by exact (WU hH ‹_› hJ).1.polls)) (fun v G4 L1 hl4 hp=>?_)
 obtain ⟨a17,c17,a18,c18,a19,c19,a20,c20,a21,c21,a22,c22,a23,c23,a24,c24,r5,r6,r7,r8,rfl,_,hs13,_,_,_,hs14,hs15,hr5,hr6,_,hs16,_,hr7,hr8,rfl⟩:=hp
 refine Jd (JK (Ja (Jb ?_)))
 refine Jc [0,0] [(0,Pt b 0),(50,Sl (At b3 o1) (((JX t.town.net).2.1).length) c5),(51,I (((JX t.town.net).2.1).length:Int)),(52,I (IntKind.i64.wrap ((i:Int)+1)))] ?_
 have e2:IntKind.i64.wrap ((i:Int)+1)=(i:Int)+1:=IntWalk.i64_in _ (by omega)
 refine J2 (fr':=[(0,Pt b 0),(50,Sl (At b3 o1) (((JX t.town.net).2.1).length) c5),(51,I (((JX t.town.net).2.1).length:Int)),(52,I ((i:Int)+1))]) (L':=([Sg b 0 [I ((WE jt x1).town.clerk.queue.most),Sl a17 (((WE jt x1).town.clerk.queue.wait).length) c17,I ((WE jt x1).town.clerk.batch),I ((WE jt x1).town.clerk.every),I ((WE jt x1).town.clerk.now),Sl a18 (((WE jt x1).town.clerk.heads).length) c18,Sl a19 (((WE jt x1).town.clerk.books).length) c19,Sl a20 (((WE jt x1).town.owners).length) c20,Sl a21 (((WE jt x1).town.polls).length) c21,I ((WE jt x1).town.net.now),Sl a22 (((WE jt x1).town.net.way).length) c22,I ((WE jt x1).reach),Sl a23 (((WE jt x1).fates).length) c23,Sl a24 (((WE jt x1).events).length) c24]]::r5::r6::r7::r8::[Sg b4 0 [I x1.to_,I x1.from_,I x1.since,I x1.due,Sl a6 x1.heads.length c6,I x1.reply.head.epoch,U x1.reply.head.root,U x1.reply.head.prev,I x1.reply.head.at_,Sr x1.reply.proof.name,Sl a7 x1.reply.proof.entries.length c7,Sl a8 x1.reply.proof.sides.length c8]]::[Sg b2 0 [I (((JX t.town.net).1).now),Sl a4 ((((JX t.town.net).1).way).length) c4]]::[Sg b1 0 [I (((Kc t.town.clerk).1).queue.most),Sl a1 ((((Kc t.town.clerk).1).queue.wait).length) c1,I (((Kc t.town.clerk).1).batch),I (((Kc t.town.clerk).1).every),I (((Kc t.town.clerk).1).now),Sl a2 ((((Kc t.town.clerk).1).heads).length) c2,Sl a3 ((((Kc t.town.clerk).1).books).length) c3]]::Lr)) (by simp only [Kn,J4,JR,KP,KV,e2];first | done | rfl) (by rfl) ?_
 clear e2
 refine Jd ?_
 refine Jj 4 ?_
 refine Jj 4 ?_
 refine Jj 4 ?_
 refine Jj 4 ?_
 refine Jj 4 ?_
 refine Jj 7 ?_
 refine Jj 7 ?_
 refine QY ([Sg b2 0 [I (((JX t.town.net).1).now),Sl a4 ((((JX t.town.net).1).way).length) c4]]::[Sg b1 0 (Kn (YY t).1 a1 c1 a2 c2 a3 c3)]::[Sg b 0 (JR (WE jt x1) a17 c17 a18 c18 a19 c19 a20 c20 a21 c21 a22 c22 a23 c23 a24 c24)]::r5::r6::r7::r8::Lr) (.cons_cons _ (.cons_cons _ (.cons_cons _ (.cons_cons _ (.cons_cons _ (.cons_cons _ (.cons_cons _ (.cons _ (List.Sublist.refl _))))))))) ?_
 exact Qd (i+1,(WE jt x1),a17,c17,a18,c18,a19,c19,a20,c20,r5,a21,c21,r6,a22,c22,a23,c23,r7,a24,c24,r8,G4) ⟨(Jt.le_trans hle hl4),(by omega),hs13,hs14,hs15,hr5,hr6,hs16,hr7,hr8,‹_›,‹_›,‹_›,‹_›,‹_›,‹_›,(by (try dsimp only);rw [← Ja8 hx1,← hJ];unfold ZS;rw [if_neg (by omega)])⟩ (by (try dsimp only);omega)
 try simp only [BB] at h2
 refine KU (J3 (Ke (JW (Ja ?_))))
 refine Jg [0,0,0,0,6,0,0] [(0,Pt b 0),(71,I (jt.town.owners.length:Int)),(72,I 0)] (Jy ?_)
 refine Qb (σ:=Nat×JG×Option Addr×Nat×Option Addr×Nat×Option Addr×Nat×Option Addr×Nat×List Kq×Option Addr×Nat×List Kq×Option Addr×Nat×Option Addr×Nat×List Kq×Option Addr×Nat×List Kq×Jt) (fun q_=>(Jt.le g q_.2.2.2.2.2.2.2.2.2.2.2.2.2.2.2.2.2.2.2.2.2.2)∧(q_.1≤jt.town.owners.length)∧(RS QO q_.2.2.2.2.2.2.2.2.2.2.2.2.2.2.2.2.2.2.2.2.2.2 q_.2.2.1 q_.2.2.2.1 q_.2.1.town.clerk.queue.wait)∧(RS KA q_.2.2.2.2.2.2.2.2.2.2.2.2.2.2.2.2.2.2.2.2.2.2 q_.2.2.2.2.1 q_.2.2.2.2.2.1 q_.2.1.town.clerk.heads)∧(RS Qf q_.2.2.2.2.2.2.2.2.2.2.2.2.2.2.2.2.2.2.2.2.2.2 q_.2.2.2.2.2.2.1 q_.2.2.2.2.2.2.2.1 q_.2.1.town.clerk.books)∧(J8 QI q_.2.2.2.2.2.2.2.2.2.2.2.2.2.2.2.2.2.2.2.2.2.2 q_.2.2.2.2.2.2.2.2.1 q_.2.2.2.2.2.2.2.2.2.1 q_.2.1.town.owners q_.2.2.2.2.2.2.2.2.2.2.1)∧(J8 Wi q_.2.2.2.2.2.2.2.2.2.2.2.2.2.2.2.2.2.2.2.2.2.2 q_.2.2.2.2.2.2.2.2.2.2.2.1 q_.2.2.2.2.2.2.2.2.2.2.2.2.1 q_.2.1.town.polls q_.2.2.2.2.2.2.2.2.2.2.2.2.2.1)∧(RS Ki q_.2.2.2.2.2.2.2.2.2.2.2.2.2.2.2.2.2.2.2.2.2.2 q_.2.2.2.2.2.2.2.2.2.2.2.2.2.2.1 q_.2.2.2.2.2.2.2.2.2.2.2.2.2.2.2.1 q_.2.1.town.net.way)∧(J8 YG q_.2.2.2.2.2.2.2.2.2.2.2.2.2.2.2.2.2.2.2.2.2.2 q_.2.2.2.2.2.2.2.2.2.2.2.2.2.2.2.2.1 q_.2.2.2.2.2.2.2.2.2.2.2.2.2.2.2.2.2.1 q_.2.1.fates q_.2.2.2.2.2.2.2.2.2.2.2.2.2.2.2.2.2.2.1)∧(J8 Q0 q_.2.2.2.2.2.2.2.2.2.2.2.2.2.2.2.2.2.2.2.2.2.2 q_.2.2.2.2.2.2.2.2.2.2.2.2.2.2.2.2.2.2.2.1 q_.2.2.2.2.2.2.2.2.2.2.2.2.2.2.2.2.2.2.2.2.1 q_.2.1.events q_.2.2.2.2.2.2.2.2.2.2.2.2.2.2.2.2.2.2.2.2.2.1)∧(rI q_.2.1.town.clerk.queue.most)∧(rI q_.2.1.town.clerk.batch)∧(rI q_.2.1.town.clerk.every)∧(rI q_.2.1.town.clerk.now)∧(rI q_.2.1.town.net.now)∧(rI q_.2.1.reach)∧(q_.2.1=JaE jt q_.1)) (fun q_=>[(0,Pt b 0),(71,I (jt.town.owners.length:Int)),(72,I (q_.1:Int))]) (fun q_=>q_.2.2.2.2.2.2.2.2.2.2.2.2.2.2.2.2.2.2.2.2.2.2) (fun q_=>([Sg b2 0 [I (((JX t.town.net).1).now),Sl a4 ((((JX t.town.net).1).way).length) c4]]::[Sg b1 0 (Kn (YY t).1 a1 c1 a2 c2 a3 c3)]::[Sg b 0 (JR q_.2.1 q_.2.2.1 q_.2.2.2.1 q_.2.2.2.2.1 q_.2.2.2.2.2.1 q_.2.2.2.2.2.2.1 q_.2.2.2.2.2.2.2.1 q_.2.2.2.2.2.2.2.2.1 q_.2.2.2.2.2.2.2.2.2.1 q_.2.2.2.2.2.2.2.2.2.2.2.1 q_.2.2.2.2.2.2.2.2.2.2.2.2.1 q_.2.2.2.2.2.2.2.2.2.2.2.2.2.2.1 q_.2.2.2.2.2.2.2.2.2.2.2.2.2.2.2.1 q_.2.2.2.2.2.2.2.2.2.2.2.2.2.2.2.2.1 q_.2.2.2.2.2.2.2.2.2.2.2.2.2.2.2.2.2.1 q_.2.2.2.2.2.2.2.2.2.2.2.2.2.2.2.2.2.2.2.1 q_.2.2.2.2.2.2.2.2.2.2.2.2.2.2.2.2.2.2.2.2.1)]::q_.2.2.2.2.2.2.2.2.2.2.1::q_.2.2.2.2.2.2.2.2.2.2.2.2.2.1::q_.2.2.2.2.2.2.2.2.2.2.2.2.2.2.2.2.2.2.1::q_.2.2.2.2.2.2.2.2.2.2.2.2.2.2.2.2.2.2.2.2.2.1::Lr)) (fun q_=>jt.town.owners.length-q_.1) (0,jt,ajt0,cjt0,ajt1,cjt1,ajt2,cjt2,ajt3,cjt3,rjt7,ajt4,cjt4,rjt8,ajt5,cjt5,ajt6,cjt6,rjt12,ajt7,cjt7,rjt13,g) ⟨(Jt.le_refl _),(by (try dsimp only);omega),hjt1,hjt5,hjt6,hjt7,hjt8,hjt10,hjt12,hjt13,hjt0,hjt2,hjt3,hjt4,hjt9,hjt11,(by (try dsimp only);rfl)⟩ (fun q_ hs=>?_)
 obtain ⟨k,kt,akt0,ckt0,akt1,ckt1,akt2,ckt2,akt3,ckt3,rkt7,akt4,ckt4,rkt8,akt5,ckt5,akt6,ckt6,rkt12,akt7,ckt7,rkt13,g1_⟩:=q_
 obtain ⟨hle1_,hi,hkt1,hkt5,hkt6,hkt7,hkt8,hkt10,hkt12,hkt13,hkt0,hkt2,hkt3,hkt4,hkt9,hkt11,hK⟩:=hs
 dsimp only at hle1_ hi hkt1 hkt5 hkt6 hkt7 hkt8 hkt10 hkt12 hkt13 hkt0 hkt2 hkt3 hkt4 hkt9 hkt11 hK
 refine KJ (fr':=[(0,Pt b 0),(71,I (jt.town.owners.length:Int)),(72,I (k:Int))]) (L':=([Sg b2 0 [I (((JX t.town.net).1).now),Sl a4 ((((JX t.town.net).1).way).length) c4]]::[Sg b1 0 (Kn (YY t).1 a1 c1 a2 c2 a3 c3)]::[Sg b 0 (JR kt akt0 ckt0 akt1 ckt1 akt2 ckt2 akt3 ckt3 akt4 ckt4 akt5 ckt5 akt6 ckt6 akt7 ckt7)]::rkt7::rkt8::rkt12::rkt13::Lr)) rfl rfl ?_
 refine Jg [0] [(0,Pt b 0),(71,I (jt.town.owners.length:Int)),(72,I (k:Int)),(73,Bo (decide ((k:Int)<(jt.town.owners.length:Int))))] (Je ?_)
 refine Jo (decide ((k:Int)<(jt.town.owners.length:Int))) (fun h4=>?_) (fun h4=>?_)
 try simp only [BB] at h4
 refine Jm (Ja (Je (Jy ?_)))
 refine Jg [0,0] [(0,Pt b 0),(10,I (k:Int)),(71,I (jt.town.owners.length:Int)),(72,I (k:Int))] (Jb ?_)
 refine Jc [0,0] [(0,Pt b 0),(71,I (jt.town.owners.length:Int)),(72,I (k:Int)),(75,Pt b 0),(76,I (k:Int))] ?_
 refine JF 6 ?_
 refine JF 6 ?_
 refine JF 6 ?_
 refine JF 6 ?_
 refine JF 6 ?_
 refine Qk (Ls:=[[Sg b 0 (JR kt akt0 ckt0 akt1 ckt1 akt2 ckt2 akt3 ckt3 akt4 ckt4 akt5 ckt5 akt6 ckt6 akt7 ckt7)],rkt7,rkt8,rkt12,rkt13]) (Lr:=([Sg b2 0 [I (((JX t.town.net).1).now),Sl a4 ((((JX t.town.net).1).way).length) c4]]::[Sg b1 0 (Kn (YY t).1 a1 c1 a2 c2 a3 c3)]::Lr)) 77 (Jk7 g1_ b kt akt0 ckt0 akt1 ckt1 akt2 ckt2 akt3 ckt3 akt4 ckt4 akt5 ckt5 akt6 ckt6 akt7 ckt7 rkt7 rkt8 rkt12 rkt13 hkt0 hkt1 hkt2 hkt3 hkt4 hkt5 hkt6 hkt7 hkt8 hkt9 hkt10 hkt11 hkt12 hkt13 (k:Int) (by (have q_:=(WU hH ‹_› hJ);have q2_:=(Jco (WU hH ‹_› hJ).1 hK);have q3_:=hH.len;omega)) (by (have q_:=(WU hH ‹_› hJ);have q2_:=(Jco (WU hH ‹_› hJ).1 hK);have q3_:=hH.len;omega)) (by (have q_:=(WU hH ‹_› hJ);have q2_:=(Jco (WU hH ‹_› hJ).1 hK);have q3_:=hH.len;omega)) (by exact (Jco (WU hH ‹_› hJ).1 hK).1.polls) (by exact (Jco (WU hH ‹_› hJ).1 hK).1.epoch)) (fun v G5 L1 hl5 hp=>?_)
 obtain ⟨a25,c25,a26,c26,a27,c27,a28,c28,a29,c29,a30,c30,a31,c31,a32,c32,r9,r10,r11,r12,rfl,_,hs17,_,_,_,hs18,hs19,hr9,hr10,_,hs20,_,hr11,hr12,rfl⟩:=hp
 refine Jd (JK (Ja (Jb ?_)))
 refine Jc [0,0] [(0,Pt b 0),(71,I (jt.town.owners.length:Int)),(72,I (IntKind.i64.wrap ((k:Int)+1)))] ?_
 have e3:IntKind.i64.wrap ((k:Int)+1)=(k:Int)+1:=IntWalk.i64_in _ (by (have q_:=(WU hH ‹_› hJ);have q2_:=(Jco (WU hH ‹_› hJ).1 hK);have q3_:=hH.len;omega))
 refine J2 (fr':=[(0,Pt b 0),(71,I (jt.town.owners.length:Int)),(72,I ((k:Int)+1))]) (L':=([Sg b 0 [I ((Wq kt (k:Int)).town.clerk.queue.most),Sl a25 (((Wq kt (k:Int)).town.clerk.queue.wait).length) c25,I ((Wq kt (k:Int)).town.clerk.batch),I ((Wq kt (k:Int)).town.clerk.every),I ((Wq kt (k:Int)).town.clerk.now),Sl a26 (((Wq kt (k:Int)).town.clerk.heads).length) c26,Sl a27 (((Wq kt (k:Int)).town.clerk.books).length) c27,Sl a28 (((Wq kt (k:Int)).town.owners).length) c28,Sl a29 (((Wq kt (k:Int)).town.polls).length) c29,I ((Wq kt (k:Int)).town.net.now),Sl a30 (((Wq kt (k:Int)).town.net.way).length) c30,I ((Wq kt (k:Int)).reach),Sl a31 (((Wq kt (k:Int)).fates).length) c31,Sl a32 (((Wq kt (k:Int)).events).length) c32]]::r9::r10::r11::r12::[Sg b2 0 [I (((JX t.town.net).1).now),Sl a4 ((((JX t.town.net).1).way).length) c4]]::[Sg b1 0 [I (((Kc t.town.clerk).1).queue.most),Sl a1 ((((Kc t.town.clerk).1).queue.wait).length) c1,I (((Kc t.town.clerk).1).batch),I (((Kc t.town.clerk).1).every),I (((Kc t.town.clerk).1).now),Sl a2 ((((Kc t.town.clerk).1).heads).length) c2,Sl a3 ((((Kc t.town.clerk).1).books).length) c3]]::Lr)) (by simp only [Kn,J4,JR,KP,KV,e3];first | done | rfl) (by rfl) ?_
 clear e3
 refine Jd ?_
 refine Jj 4 ?_
 refine Jj 4 ?_
 refine Jj 4 ?_
 refine Jj 4 ?_
 refine Jj 4 ?_
 refine Jj 6 ?_
 refine Jj 6 ?_
 refine QY ([Sg b2 0 [I (((JX t.town.net).1).now),Sl a4 ((((JX t.town.net).1).way).length) c4]]::[Sg b1 0 (Kn (YY t).1 a1 c1 a2 c2 a3 c3)]::[Sg b 0 (JR (Wq kt (k:Int)) a25 c25 a26 c26 a27 c27 a28 c28 a29 c29 a30 c30 a31 c31 a32 c32)]::r9::r10::r11::r12::Lr) (.cons_cons _ (.cons_cons _ (.cons_cons _ (.cons_cons _ (.cons_cons _ (.cons_cons _ (.cons_cons _ (List.Sublist.refl _)))))))) ?_
 exact Qd (k+1,(Wq kt (k:Int)),a25,c25,a26,c26,a27,c27,a28,c28,r9,a29,c29,r10,a30,c30,a31,c31,r11,a32,c32,r12,G5) ⟨(Jt.le_trans hle1_ hl5),(by omega),hs17,hs18,hs19,hr9,hr10,hs20,hr11,hr12,‹_›,‹_›,‹_›,‹_›,‹_›,‹_›,(by (try dsimp only);rw [← Vy,← hK])⟩ (by (try dsimp only);omega)
 try simp only [BB] at h4
 refine KU (J3 (Ke (JW ?_)))
 refine Jj 6 ?_
 refine Jj 6 ?_
 refine Jj 6 ?_
 refine Jj 6 ?_
 refine Jj 6 ?_
 have hf2:Q7 t=kt:=by
  exact Jk8 ‹_› hJ (by omega) hK (by omega)
 refine Zj [] [] (QW (Lr:=Lr) [[Sg b 0 (JR kt akt0 ckt0 akt1 ckt1 akt2 ckt2 akt3 ckt3 akt4 ckt4 akt5 ckt5 akt6 ckt6 akt7 ckt7)],rkt7,rkt8,rkt12,rkt13] (.cons_cons _ (.cons_cons _ (.cons_cons _ (.cons_cons _ (.cons_cons _ (.cons _ (.cons _ (List.Sublist.refl _)))))))) (Jt.le_trans (Jt.le_trans (Jt.le_trans hl1 hl2) hle) hle1_) ?_)
 rw [hf2];try dsimp only
 exact ⟨akt0,ckt0,akt1,ckt1,akt2,ckt2,akt3,ckt3,akt4,ckt4,akt5,ckt5,akt6,ckt6,akt7,ckt7,rkt7,rkt8,rkt12,rkt13,rfl,hkt0,hkt1,hkt2,hkt3,hkt4,hkt5,hkt6,hkt7,hkt8,hkt9,hkt10,hkt11,hkt12,hkt13,rfl⟩
end Go.Proofs.YtnnlpbjdignhaaaGreatDoor
