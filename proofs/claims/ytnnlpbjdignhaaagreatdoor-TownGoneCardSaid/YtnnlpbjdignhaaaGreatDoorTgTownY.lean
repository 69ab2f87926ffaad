import Derived.Test.YtnnlpbjdignhaaaGreatDoorTgTownB
import Derived.Test.YtnnlpbjdignhaaaGreatDoorTgTownC
namespace Go.Proofs.YtnnlpbjdignhaaaGreatDoor
open Go.Tx
set_option linter.unusedVariables false
set_option linter.unusedSimpArgs false
open Go.Tx Go.Proofs
theorem JmU {s:KK} (h:Qm s=0):Y2 (Qd s):=by
 obtain ⟨b1,b2,b3,b4⟩:=Jdn h
 obtain ⟨e1,e2,e3,e4,e5,e6,e7⟩:=Jar h
 exact ⟨⟨s,b1⟩,b2,by rw [b3,b4],by rw [b3];exact e1,e6,e7⟩
theorem f_do (t:JA) (d:Qb):(ZD t d).fates.length≤t.fates.length+1:=by
 have hs:∀ (t:JA) l,(QW t l).fates.length≤t.fates.length:=fun t l=>by simp [QW]
 have hl:∀ (l:List JI) (t:JA),(WL t l).fates.length≤t.fates.length:=by
  intro l
  induction l with
  | nil=>intro t;exact Nat.le_refl _
  | cons x l ih =>
   intro t
   refine Nat.le_trans (ih (W9 t x)) ?_
   unfold W9
   split
   ·
    unfold KC
    split
    ·
     exact Nat.le_refl _
    ·
     exact hs _ _
   ·
    exact Nat.le_refl _
 have ha:∀ n (t:JA),(Jaq t n).fates.length≤t.fates.length:=by
  intro n t
  induction n with
  | zero=>exact Nat.le_refl _
  | succ n ih =>
   rw [← YH]
   refine Nat.le_trans ?_ ih
   have hq:∀ u k,(Vn u k).fates.length≤u.fates.length:=fun u k=>by unfold Vn;exact hs _ _
   unfold Wo
   split
   ·
    exact Nat.le_refl _
   split
   ·
    exact hq _ _
   ·
    exact hq _ _
 have ht:(Q6 t).fates.length≤t.fates.length:=by
  unfold Q6
  split
  ·
   exact Nat.le_refl _
  ·
   exact Nat.le_trans (ha _ _) (hl _ _)
 unfold ZD
 split
 ·
  unfold Qo;(repeat' split) <;> simp
 split
 ·
  simp
 split
 ·
  unfold JeY;split <;> simp
 split
 ·
  omega
 ·
  omega
theorem JfC {s:KK} (h:Qm s=0) {jt:JA} {l:List Qb} {i:Nat} (hJ:jt=JaS (Qd s) (l.take i)):Y2 jt∧jt.events.length≤64*i∧jt.fates.length≤i:=by
 subst hJ
 have key:∀ (m:List Qb) (t:JA),Y2 t→Y2 (JaS t m)∧(JaS t m).events.length≤t.events.length+64*m.length∧(JaS t m).fates.length≤t.fates.length+m.length:=by
  intro m
  induction m with
  | nil=>intro t h;exact ⟨h,by simp [JaS],by simp [JaS]⟩
  | cons d m ih =>
   intro t h
   obtain ⟨q1,q2⟩:=do_H h d
   obtain ⟨r1,r2,r3⟩:=ih (ZD t d) q1
   have:=f_do t d
   refine ⟨r1,?_,?_⟩
   ·
    show (JaS (ZD t d) m).events.length≤_;simp only [List.length_cons];omega
   ·
    show (JaS (ZD t d) m).fates.length≤_;simp only [List.length_cons];omega
 obtain ⟨k1,k2,k3⟩:=key (l.take i) (Qd s) (JmU h)
 have e1:(Qd s).events.length=0:=rfl
 have e2:(Qd s).fates.length=0:=rfl
 have e3:(l.take i).length≤i:=by rw [List.length_take];omega
 exact ⟨k1,by omega,by omega⟩
theorem JhL {s:KK} {l:List Qb} (h:¬ Qm s=0):K6 s l=(JlZ,[],Qm s):=by
 have e:Jcm s l=Qm s:=by unfold Jcm;rw [if_pos h]
 unfold K6;rw [e,if_pos h]
theorem JiG {s:KK} {l:List Qb} (h:Qm s=0) (hl:l.length > 200):K6 s l=(JlZ,[],2):=by
 have e:Jcm s l=2:=by unfold Jcm;rw [if_neg (by omega),if_pos hl]
 unfold K6;rw [e,if_pos (by decide)]
theorem Jmj {s:KK} {l:List Qb} {jt:JA} {i:Nat} (h:Qm s=0) (hl:¬ l.length > 200) (hJ:jt=JaS (Qd s) (l.take i)) (hi:l.length≤i):K6 s l=(⟨jt.town.clerk,jt.town.owners,jt.town.polls,jt.town.net⟩,jt.events,0):=by
 rw [List.take_of_length_le hi] at hJ
 subst hJ
 have e:Jcm s l=0:=by unfold Jcm;rw [if_neg (by omega),if_neg hl]
 unfold K6;rw [e,if_neg (by decide)]
set_option maxRecDepth 20000 in
set_option maxHeartbeats 1600000 in
theorem JfD (G:Jt) (vs_s:List Value) (s:KK) (h_s:Jd0.R G vs_s s) (a_l:Option Addr) (c_l:Nat) (l:List Qb) (h_l:RS VZ G a_l c_l l) :QI Tryz.prog 10 #[.agg vs_s.toArray,Sl a_l l.length c_l] G [] (fun u G' L'=>∃ (a1:Option Addr) (c2:Nat) (a3:Option Addr) (c4:Nat) (a5:Option Addr) (c6:Nat) (a7:Option Addr) (c8:Nat) (a9:Option Addr) (c10:Nat) (a11:Option Addr) (c12:Nat) (a13:Option Addr) (c14:Nat),u=.tuple #[.agg #[I (((K6 s l).1).clerk.queue.most),Sl a1 ((((K6 s l).1).clerk.queue.wait).length) c2,I (((K6 s l).1).clerk.batch),I (((K6 s l).1).clerk.every),I (((K6 s l).1).clerk.now),Sl a3 ((((K6 s l).1).clerk.heads).length) c4,Sl a5 ((((K6 s l).1).clerk.books).length) c6,Sl a7 ((((K6 s l).1).owners).length) c8,Sl a9 ((((K6 s l).1).polls).length) c10,I (((K6 s l).1).net.now),Sl a11 ((((K6 s l).1).net.way).length) c12],Sl a13 (((K6 s l).2.1).length) c14,I ((K6 s l).2.2)]∧(rI (((K6 s l).1).clerk.queue.most))∧(RS QV G' a1 c2 (((K6 s l).1).clerk.queue.wait))∧(rI (((K6 s l).1).clerk.batch))∧(rI (((K6 s l).1).clerk.every))∧(rI (((K6 s l).1).clerk.now))∧(RS KE G' a3 c4 (((K6 s l).1).clerk.heads))∧(RS Qp G' a5 c6 (((K6 s l).1).clerk.books))∧(RS QQ G' a7 c8 (((K6 s l).1).owners))∧(RS Wt G' a9 c10 (((K6 s l).1).polls))∧(rI (((K6 s l).1).net.now))∧(RS Kj G' a11 c12 (((K6 s l).1).net.way))∧(RS Q2 G' a13 c14 ((K6 s l).2.1))∧L'=[]):=by
 obtain ⟨a1,c1,a2,c2,rfl,hs1,hs2,w1,w2,w3,w4,w5,w6,w7⟩:=h_s
 refine JK Tryz.func10 45 [(0,(V9 s a1 c1 a2 c2)),(1,Sl a_l l.length c_l)] rfl (fun w0 G0=>?_)
 refine Je (Jb (Ju 2 #[Sl a1 s.names.length c1,Sl a2 s.keys.length c2,I s.most,I s.batch,I s.every,I s.least,I s.top,I s.lost,I s.reach] 25 (fun b1=>Ju 4 #[I 0,Sl none 0 0,I 0,I 0,I 0,Sl none 0 0,Sl none 0 0,Sl none 0 0,Sl none 0 0,I 0,Sl none 0 0] 41 (fun b2=>Jd [0,0] [(1,Sl a_l l.length c_l),(2,Pt b1 0),(4,Pt b2 0)] (Jc (Ja (Je (Jb (Jd [4] [(1,Sl a_l l.length c_l),(4,Pt b2 0),(12,(V9 s a1 c1 a2 c2))] (JQ 13 (Jkz G (W6 s a1 c1 a2 c2) s (⟨a1,c1,a2,c2,rfl,hs1,hs2,w1,w2,w3,w4,w5,w6,w7⟩)) (fun v G1 L1 hl1 hp=>?_)))))))))))
 rcases hp with ⟨hbe,rfl,rfl⟩ | ⟨hbe,b3,a3,c3,a4,c4,a5,c5,a6,c6,a7,c7,a8,c8,a9,c9,a10,c10,r1,r2,r3,r4,rfl,w8,hs3,w9,w10,w11,hs4,hs5,hr1,hr2,w12,hs6,w13,hr3,hr4,rfl⟩
 refine Jd [0,0,0,0,0] [(1,Sl a_l l.length c_l),(4,Pt b2 0),(7,.pointer none),(8,I (Qm s))] (Jc (Ja (Je (Je (Jb (Jd [0,0,0] [(1,Sl a_l l.length c_l),(4,Pt b2 0),(7,.pointer none),(8,I (Qm s)),(18,Bo (decide (Qm s=0)))] (KD (decide (Qm s=0)) (fun bb=>[(1,Sl a_l l.length c_l),(4,Pt b2 0),(7,.pointer none),(8,I (Qm s)),(18,Bo bb)]) [0,0,0,0] [1,1,1,0] (fun bb=>[(1,Sl a_l l.length c_l),(4,Pt b2 0),(7,.pointer none),(8,I (Qm s)),(22,Bo (bb && (decide ((l.length:Int) > 200))))]) (Jc (Ja (Jo ((decide (Qm s=0)) && (decide ((l.length:Int) > 200))) (fun h1=>?_) (fun h1=>?_)))))))))))
 try simp only [BB] at h1
 refine Jb (Jd [0] [(1,Sl a_l l.length c_l),(4,Pt b2 0),(7,.pointer none),(8,I 2)] (Jc (Ja (Je (Jg [0,0] [(1,Sl a_l l.length c_l),(4,Pt b2 0),(7,.pointer none),(8,I 2),(24,Bo true)] (JZ (Jg [0,0,3,0,0] [(4,Pt b2 0),(5,Sl none 0 0),(6,I 2)] (Jk (Jh ?_)))))))))
 have hf1:K6 s l=((⟨(⟨(⟨0,[]⟩:QN),0,0,0,[],[]⟩:Kw),[],[],(⟨0,[]⟩:Z5)⟩:QU),[],2):=by
  (exfalso;omega)
 refine Jl [0,0,0] [.agg #[I 0,Sl none 0 0,I 0,I 0,I 0,Sl none 0 0,Sl none 0 0,Sl none 0 0,Sl none 0 0,I 0,Sl none 0 0],Sl none 0 0,I 2] (JY [] (.cons _ (.cons _ .slnil)) hl1 ?_)
 rw [hf1]
 try dsimp only
 exact ⟨none,0,none,0,none,0,none,0,none,0,none,0,none,0,rfl,(by omega),(RS.nil' QV G1),(by omega),(by omega),(by omega),(RS.nil' KE G1),(RS.nil' Qp G1),(RS.nil' QQ G1),(RS.nil' Wt G1),(by omega),(RS.nil' Kj G1),(RS.nil' Q2 G1),rfl⟩
 try simp only [BB] at h1
 refine Jn (Ja (Je (Jg [0,0] [(1,Sl a_l l.length c_l),(4,Pt b2 0),(7,.pointer none),(8,I (Qm s)),(24,Bo (!decide (Qm s=0)))] (Jo (!decide (Qm s=0)) (fun h2=>?_) (fun h2=>?_)))))
 try simp only [BB] at h2
 refine Jg [0,0,3,0,0] [(4,Pt b2 0),(5,Sl none 0 0),(6,I (Qm s))] (Jk (Jh ?_))
 have hf2:K6 s l=((⟨(⟨(⟨0,[]⟩:QN),0,0,0,[],[]⟩:Kw),[],[],(⟨0,[]⟩:Z5)⟩:QU),[],Qm s):=by
  (rw [JhL ‹_›];rfl)
 refine Jl [0,0,0] [.agg #[I 0,Sl none 0 0,I 0,I 0,I 0,Sl none 0 0,Sl none 0 0,Sl none 0 0,Sl none 0 0,I 0,Sl none 0 0],Sl none 0 0,I (Qm s)] (JY [] (.cons _ (.cons _ .slnil)) hl1 ?_)
 rw [hf2]
 try dsimp only
 exact ⟨none,0,none,0,none,0,none,0,none,0,none,0,none,0,rfl,(by omega),(RS.nil' QV G1),(by omega),(by omega),(by omega),(RS.nil' KE G1),(RS.nil' Qp G1),(RS.nil' QQ G1),(RS.nil' Wt G1),(by omega),(RS.nil' Kj G1),(RS.nil' Q2 G1),rfl⟩
 try simp only [BB] at h2
 refine Jn (Ja (Je ?_))
 exfalso;omega
 refine Jd [0,0,0,0,0] [(1,Sl a_l l.length c_l),(4,Pt b2 0),(7,Pt b3 0),(8,I 0)] (Jc (Ja (Je (Jg [0,0,0,0,0,0,0] [(1,Sl a_l l.length c_l),(4,Pt b2 0),(7,Pt b3 0),(8,I 0),(22,Bo (decide ((l.length:Int) > 200)))] (Jo (decide ((l.length:Int) > 200)) (fun h3=>?_) (fun h3=>?_))))))
 try simp only [BB] at h3
 refine Jb (Jd [0] [(1,Sl a_l l.length c_l),(4,Pt b2 0),(7,Pt b3 0),(8,I 2)] (Jc (Ja (Je (Jg [0,0] [(1,Sl a_l l.length c_l),(4,Pt b2 0),(7,Pt b3 0),(8,I 2),(24,Bo true)] (JZ (Jg [0,0,13,0,0] [(4,Pt b2 0),(5,Sl none 0 0),(6,I 2)] (Jk (Jh ?_)))))))))
 have hf3:K6 s l=((⟨(⟨(⟨0,[]⟩:QN),0,0,0,[],[]⟩:Kw),[],[],(⟨0,[]⟩:Z5)⟩:QU),[],2):=by
  (rw [JiG ‹_› (by omega)];rfl)
 refine Jl [5,0,0] [.agg #[I 0,Sl none 0 0,I 0,I 0,I 0,Sl none 0 0,Sl none 0 0,Sl none 0 0,Sl none 0 0,I 0,Sl none 0 0],Sl none 0 0,I 2] (JY [] (.cons _ (.cons _ (.cons _ (.cons _ (.cons _ (.cons _ (.cons _ .slnil))))))) hl1 ?_)
 rw [hf3]
 try dsimp only
 exact ⟨none,0,none,0,none,0,none,0,none,0,none,0,none,0,rfl,‹_›,(RS.nil' QV G1),‹_›,‹_›,‹_›,(RS.nil' KE G1),(RS.nil' Qp G1),(RS.nil' QQ G1),(RS.nil' Wt G1),‹_›,(RS.nil' Kj G1),(RS.nil' Q2 G1),rfl⟩
 try simp only [BB] at h3
 refine Jn (Ja (Je (Jg [0,0] [(1,Sl a_l l.length c_l),(4,Pt b2 0),(7,Pt b3 0),(8,I 0),(24,Bo false)] (Qw (Jn (Ja (Je (Jg [0,0,0] [(4,Pt b2 0),(7,Pt b3 0),(27,Sl a_l l.length c_l),(28,I (l.length:Int)),(29,I 0)] (Jz ?_)))))))))
 have hlm_h_l:l.length≤9223372036854775807:=Nat.le_trans (h_l).le (h_l).max
 refine Qe (σ:=Nat×JA×Option Addr×Nat×Option Addr×Nat×Option Addr×Nat×Option Addr×Nat×List Ks×Option Addr×Nat×List Ks×Option Addr×Nat×Option Addr×Nat×List Ks×Option Addr×Nat×List Ks×Jt) (fun q_=>(Jt.le G1 q_.2.2.2.2.2.2.2.2.2.2.2.2.2.2.2.2.2.2.2.2.2.2)∧(q_.1≤l.length)∧(RS QV q_.2.2.2.2.2.2.2.2.2.2.2.2.2.2.2.2.2.2.2.2.2.2 q_.2.2.1 q_.2.2.2.1 q_.2.1.town.clerk.queue.wait)∧(RS KE q_.2.2.2.2.2.2.2.2.2.2.2.2.2.2.2.2.2.2.2.2.2.2 q_.2.2.2.2.1 q_.2.2.2.2.2.1 q_.2.1.town.clerk.heads)∧(RS Qp q_.2.2.2.2.2.2.2.2.2.2.2.2.2.2.2.2.2.2.2.2.2.2 q_.2.2.2.2.2.2.1 q_.2.2.2.2.2.2.2.1 q_.2.1.town.clerk.books)∧(J9 QQ q_.2.2.2.2.2.2.2.2.2.2.2.2.2.2.2.2.2.2.2.2.2.2 q_.2.2.2.2.2.2.2.2.1 q_.2.2.2.2.2.2.2.2.2.1 q_.2.1.town.owners q_.2.2.2.2.2.2.2.2.2.2.1)∧(J9 Wt q_.2.2.2.2.2.2.2.2.2.2.2.2.2.2.2.2.2.2.2.2.2.2 q_.2.2.2.2.2.2.2.2.2.2.2.1 q_.2.2.2.2.2.2.2.2.2.2.2.2.1 q_.2.1.town.polls q_.2.2.2.2.2.2.2.2.2.2.2.2.2.1)∧(RS Kj q_.2.2.2.2.2.2.2.2.2.2.2.2.2.2.2.2.2.2.2.2.2.2 q_.2.2.2.2.2.2.2.2.2.2.2.2.2.2.1 q_.2.2.2.2.2.2.2.2.2.2.2.2.2.2.2.1 q_.2.1.town.net.way)∧(J9 YZ q_.2.2.2.2.2.2.2.2.2.2.2.2.2.2.2.2.2.2.2.2.2.2 q_.2.2.2.2.2.2.2.2.2.2.2.2.2.2.2.2.1 q_.2.2.2.2.2.2.2.2.2.2.2.2.2.2.2.2.2.1 q_.2.1.fates q_.2.2.2.2.2.2.2.2.2.2.2.2.2.2.2.2.2.2.1)∧(J9 Q2 q_.2.2.2.2.2.2.2.2.2.2.2.2.2.2.2.2.2.2.2.2.2.2 q_.2.2.2.2.2.2.2.2.2.2.2.2.2.2.2.2.2.2.2.1 q_.2.2.2.2.2.2.2.2.2.2.2.2.2.2.2.2.2.2.2.2.1 q_.2.1.events q_.2.2.2.2.2.2.2.2.2.2.2.2.2.2.2.2.2.2.2.2.2.1)∧(rI q_.2.1.town.clerk.queue.most)∧(rI q_.2.1.town.clerk.batch)∧(rI q_.2.1.town.clerk.every)∧(rI q_.2.1.town.clerk.now)∧(rI q_.2.1.town.net.now)∧(rI q_.2.1.reach)∧(q_.2.1=JaS (Qd s) (l.take q_.1))) (fun q_=>[(4,Pt b2 0),(7,Pt b3 0),(27,Sl a_l l.length c_l),(28,I (l.length:Int)),(29,I (q_.1:Int))]) (fun q_=>q_.2.2.2.2.2.2.2.2.2.2.2.2.2.2.2.2.2.2.2.2.2.2) (fun q_=>[[Sg b3 0 (JU q_.2.1 q_.2.2.1 q_.2.2.2.1 q_.2.2.2.2.1 q_.2.2.2.2.2.1 q_.2.2.2.2.2.2.1 q_.2.2.2.2.2.2.2.1 q_.2.2.2.2.2.2.2.2.1 q_.2.2.2.2.2.2.2.2.2.1 q_.2.2.2.2.2.2.2.2.2.2.2.1 q_.2.2.2.2.2.2.2.2.2.2.2.2.1 q_.2.2.2.2.2.2.2.2.2.2.2.2.2.2.1 q_.2.2.2.2.2.2.2.2.2.2.2.2.2.2.2.1 q_.2.2.2.2.2.2.2.2.2.2.2.2.2.2.2.2.1 q_.2.2.2.2.2.2.2.2.2.2.2.2.2.2.2.2.2.1 q_.2.2.2.2.2.2.2.2.2.2.2.2.2.2.2.2.2.2.2.1 q_.2.2.2.2.2.2.2.2.2.2.2.2.2.2.2.2.2.2.2.2.1)],q_.2.2.2.2.2.2.2.2.2.2.1,q_.2.2.2.2.2.2.2.2.2.2.2.2.2.1,q_.2.2.2.2.2.2.2.2.2.2.2.2.2.2.2.2.2.2.1,q_.2.2.2.2.2.2.2.2.2.2.2.2.2.2.2.2.2.2.2.2.2.1,[Sg b2 0 [I 0,Sl none 0 0,I 0,I 0,I 0,Sl none 0 0,Sl none 0 0,Sl none 0 0,Sl none 0 0,I 0,Sl none 0 0]],[Sg b1 0 (W6 s a1 c1 a2 c2)]]) (fun q_=>l.length-q_.1) (0,(Qd s),a3,c3,a4,c4,a5,c5,a6,c6,r1,a7,c7,r2,a8,c8,a9,c9,r3,a10,c10,r4,G1) ⟨(Jt.le_refl _),(by (try dsimp only);exact Nat.zero_le _),hs3,hs4,hs5,hr1,hr2,hs6,hr3,hr4,w8,w9,w10,w11,w12,w13,(by (try dsimp only);rfl)⟩ (fun q_ hs=>?_)
 obtain ⟨i,jt,ajt0,cjt0,ajt1,cjt1,ajt2,cjt2,ajt3,cjt3,rjt7,ajt4,cjt4,rjt8,ajt5,cjt5,ajt6,cjt6,rjt12,ajt7,cjt7,rjt13,g⟩:=q_
 obtain ⟨hle,hi,hjt1,hjt5,hjt6,hjt7,hjt8,hjt10,hjt12,hjt13,hjt0,hjt2,hjt3,hjt4,hjt9,hjt11,hJ⟩:=hs
 dsimp only at hle hi hjt1 hjt5 hjt6 hjt7 hjt8 hjt10 hjt12 hjt13 hjt0 hjt2 hjt3 hjt4 hjt9 hjt11 hJ
 refine KP (fr':=[(4,Pt b2 0),(7,Pt b3 0),(27,Sl a_l l.length c_l),(28,I (l.length:Int)),(29,I (i:Int))]) (L':=[[Sg b3 0 (JU jt ajt0 cjt0 ajt1 cjt1 ajt2 cjt2 ajt3 cjt3 ajt4 cjt4 ajt5 cjt5 ajt6 cjt6 ajt7 cjt7)],rjt7,rjt8,rjt12,rjt13,[Sg b2 0 [I 0,Sl none 0 0,I 0,I 0,I 0,Sl none 0 0,Sl none 0 0,Sl none 0 0,Sl none 0 0,I 0,Sl none 0 0]],[Sg b1 0 (W6 s a1 c1 a2 c2)]]) rfl rfl (Jg [0] [(4,Pt b2 0),(7,Pt b3 0),(27,Sl a_l l.length c_l),(28,I (l.length:Int)),(29,I (i:Int)),(30,Bo (decide ((i:Int)<(l.length:Int))))] (Je (Jo (decide ((i:Int)<(l.length:Int))) (fun h4=>?_) (fun h4=>?_))))
 try simp only [BB] at h4
 refine Jn (Ja (Je (Jz (Je (Jb ?_)))))
 obtain ⟨b4,o1,rfl⟩:=RS.addr (h_l.mono (Jt.le_trans hl1 hle)) (k:=i) (by omega)
 obtain ⟨x1,hx1⟩:=Wj (l:=l) (k:=i) (by omega)
 obtain ⟨_,⟨a11,c11,a12,c12,a13,c13,a14,c14,rfl,w14,w15,w16,hs7,w17,w18,w19,w20,hs8,w21,w22,w23,w24,w25,hs9,hs10⟩,hc1⟩:=RS.get (h_l.mono (Jt.le_trans hl1 hle)) hx1
 refine Ki (b:=b4) (off:=o1) (len:=l.length) (cap:=c_l) (ik:=.i64) 31 74 16 i (by omega) (Ka 32 74 (cs:=(Wh x1 a11 c11 a12 c12 a13 c13 a14 c14)) 0 (Jam x1 a11 c11 a12 c12 a13 c13 a14 c14) hc1 (Ju 10 #[I 0,I 0,Sr ([]),Sl none 0 0,I 0,I 0,I 0,I 0,Sl none 0 0,I 0,U 0,U 0,I 0,Sr ([]),Sl none 0 0,Sl none 0 0] 74 (fun b5=>Kd [3] [(4,Pt b2 0),(7,Pt b3 0),(10,Pt b5 0),(27,Sl (At b4 o1) l.length c_l),(28,I (l.length:Int)),(29,I (i:Int))] [[Sg b5 0 (Wh x1 a11 c11 a12 c12 a13 c13 a14 c14)],[Sg b3 0 (JU jt ajt0 cjt0 ajt1 cjt1 ajt2 cjt2 ajt3 cjt3 ajt4 cjt4 ajt5 cjt5 ajt6 cjt6 ajt7 cjt7)],rjt7,rjt8,rjt12,rjt13,[Sg b2 0 [I 0,Sl none 0 0,I 0,I 0,I 0,Sl none 0 0,Sl none 0 0,Sl none 0 0,Sl none 0 0,I 0,Sl none 0 0]],[Sg b1 0 (W6 s a1 c1 a2 c2)]] (Jc (Ja (Jb (Jd [0,2] [(4,Pt b2 0),(7,Pt b3 0),(27,Sl (At b4 o1) l.length c_l),(28,I (l.length:Int)),(29,I (i:Int)),(33,Pt b3 0),(34,(Jam x1 a11 c11 a12 c12 a13 c13 a14 c14))] (JG 5 (JG 5 (JG 5 (JG 5 (JG 5 (Qs (Ls:=[[Sg b3 0 (JU jt ajt0 cjt0 ajt1 cjt1 ajt2 cjt2 ajt3 cjt3 ajt4 cjt4 ajt5 cjt5 ajt6 cjt6 ajt7 cjt7)],rjt7,rjt8,rjt12,rjt13]) (Lr:=[[Sg b5 0 (Wh x1 a11 c11 a12 c12 a13 c13 a14 c14)],[Sg b2 0 [I 0,Sl none 0 0,I 0,I 0,I 0,Sl none 0 0,Sl none 0 0,Sl none 0 0,Sl none 0 0,I 0,Sl none 0 0]],[Sg b1 0 (W6 s a1 c1 a2 c2)]]) 35 (JmQ g b3 jt ajt0 cjt0 ajt1 cjt1 ajt2 cjt2 ajt3 cjt3 ajt4 cjt4 ajt5 cjt5 ajt6 cjt6 ajt7 cjt7 rjt7 rjt8 rjt12 rjt13 hjt0 hjt1 hjt2 hjt3 hjt4 hjt5 hjt6 hjt7 hjt8 hjt9 hjt10 hjt11 hjt12 hjt13 (Wh x1 a11 c11 a12 c12 a13 c13 a14 c14) x1 (⟨a11,c11,a12,c12,a13,c13,a14,c14,rfl,w14,w15,w16,hs7,w17,w18,w19,w20,hs8,w21,w22,w23,w24,w25,hs9,hs10⟩) (by exact (JfC hbe hJ).1) (by (have q_:=(JfC hbe hJ);omega)) (by (have q_:=(JfC hbe hJ);omega))) (fun v G2 L1 hl2 hp=>?_))))))))))))))
 obtain ⟨a15,c15,a16,c16,a17,c17,a18,c18,a19,c19,a20,c20,a21,c21,a22,c22,r5,r6,r7,r8,rfl,_,hs11,_,_,_,hs12,hs13,hr5,hr6,_,hs14,_,hr7,hr8,rfl⟩:=hp
 refine Jc (JN (Ja (Jb (Jd [0,0] [(4,Pt b2 0),(7,Pt b3 0),(27,Sl (At b4 o1) l.length c_l),(28,I (l.length:Int)),(29,I (IntKind.i64.wrap ((i:Int)+1)))] ?_))))
 have e1:IntKind.i64.wrap ((i:Int)+1)=(i:Int)+1:=IntWalk.i64_in _ (by omega)
 refine J4 (fr':=[(4,Pt b2 0),(7,Pt b3 0),(27,Sl (At b4 o1) l.length c_l),(28,I (l.length:Int)),(29,I ((i:Int)+1))]) (L':=[[Sg b3 0 [I ((ZD jt x1).town.clerk.queue.most),Sl a15 (((ZD jt x1).town.clerk.queue.wait).length) c15,I ((ZD jt x1).town.clerk.batch),I ((ZD jt x1).town.clerk.every),I ((ZD jt x1).town.clerk.now),Sl a16 (((ZD jt x1).town.clerk.heads).length) c16,Sl a17 (((ZD jt x1).town.clerk.books).length) c17,Sl a18 (((ZD jt x1).town.owners).length) c18,Sl a19 (((ZD jt x1).town.polls).length) c19,I ((ZD jt x1).town.net.now),Sl a20 (((ZD jt x1).town.net.way).length) c20,I ((ZD jt x1).reach),Sl a21 (((ZD jt x1).fates).length) c21,Sl a22 (((ZD jt x1).events).length) c22]],r5,r6,r7,r8,[Sg b5 0 [I x1.kind,I x1.who,Sr x1.value,Sl a11 x1.fates.length c11,I x1.letter.to_,I x1.letter.from_,I x1.letter.since,I x1.letter.due,Sl a12 x1.letter.heads.length c12,I x1.letter.reply.head.epoch,U x1.letter.reply.head.root,U x1.letter.reply.head.prev,I x1.letter.reply.head.at_,Sr x1.letter.reply.proof.name,Sl a13 x1.letter.reply.proof.entries.length c13,Sl a14 x1.letter.reply.proof.sides.length c14]],[Sg b2 0 [I 0,Sl none 0 0,I 0,I 0,I 0,Sl none 0 0,Sl none 0 0,Sl none 0 0,Sl none 0 0,I 0,Sl none 0 0]],[Sg b1 0 [Sl a1 s.names.length c1,Sl a2 s.keys.length c2,I s.most,I s.batch,I s.every,I s.least,I s.top,I s.lost,I s.reach]]]) (by simp only [Wh,W6,JiZ,JU,Jam,V9,Jfi,e1];first | done | rfl) (by rfl) ?_
 clear e1
 exact Jc (Jj 7 (Jj 7 (Jj 6 (Jj 6 (Jj 6 (Jj 6 (Jj 6 (Q4 [[Sg b3 0 (JU (ZD jt x1) a15 c15 a16 c16 a17 c17 a18 c18 a19 c19 a20 c20 a21 c21 a22 c22)],r5,r6,r7,r8,[Sg b2 0 [I 0,Sl none 0 0,I 0,I 0,I 0,Sl none 0 0,Sl none 0 0,Sl none 0 0,Sl none 0 0,I 0,Sl none 0 0]],[Sg b1 0 (W6 s a1 c1 a2 c2)]] (.cons_cons _ (.cons_cons _ (.cons_cons _ (.cons_cons _ (.cons_cons _ (.cons_cons _ (.cons_cons _ (.cons _ .slnil)))))))) (Qh (i+1,(ZD jt x1),a15,c15,a16,c16,a17,c17,a18,c18,r5,a19,c19,r6,a20,c20,a21,c21,r7,a22,c22,r8,G2) ⟨(Jt.le_trans hle hl2),(by omega),hs11,hs12,hs13,hr5,hr6,hs14,hr7,hr8,‹_›,‹_›,‹_›,‹_›,‹_›,‹_›,(by (try dsimp only);rw [← Jku hx1,← hJ])⟩ (by (try dsimp only);omega))))))))))
 try simp only [BB] at h4
 refine K2 (J3 (Kf (JV (Ja (Je (KA [8] (Ws [(0,Pt b3 0),(1,Pt b3 0),(2,Pt b3 0),(3,(Jfi jt.town ajt0 cjt0 ajt1 cjt1 ajt2 cjt2 ajt3 cjt3 ajt4 cjt4 ajt5 cjt5)),(4,Pt b3 0),(5,Pt b3 0),(6,Pt b3 13),(7,Sl ajt7 jt.events.length cjt7)] (J2 [] [(0,0),(1,0),(2,0),(3,2),(4,0),(5,0),(6,0),(7,2)] [] [8] (List.forall_mem_nil _) (List.forall_mem_cons.2 ⟨?_,List.forall_mem_nil _⟩)))))))))
 refine JT 8 [(4,Pt b2 0),(40,(Jfi jt.town ajt0 cjt0 ajt1 cjt1 ajt2 cjt2 ajt3 cjt3 ajt4 cjt4 ajt5 cjt5))] (fun X=>?_)
 refine K3 5 [[Sg b3 0 (JU jt ajt0 cjt0 ajt1 cjt1 ajt2 cjt2 ajt3 cjt3 ajt4 cjt4 ajt5 cjt5 ajt6 cjt6 ajt7 cjt7)],rjt7,rjt8,rjt12,rjt13,[Sg b2 0 (JiZ jt.town ajt0 cjt0 ajt1 cjt1 ajt2 cjt2 ajt3 cjt3 ajt4 cjt4 ajt5 cjt5)],[Sg b1 0 (W6 s a1 c1 a2 c2)]] (Kq [(9,Sl ajt7 jt.events.length cjt7),(10,I 0)] (Kz [0,1,2,3] [(4,0),(5,0),(6,0),(7,2),(9,0),(10,0)] [] [(4,Pt b2 0),(5,Sl ajt7 jt.events.length cjt7),(6,I 0)] (List.forall_mem_nil _) (Ja (Jk (Wn (E:=QQ) 1 hjt7 (by have q_:=(JfC hbe hJ);have q1_:=q_.1.len;have q2_:=q_.1.polls;simp only [QQ,Wt,Q2];omega) (fun G3 hl3 hs15=>Wn (E:=Wt) 2 (hjt8.mono hl3) (by have q_:=(JfC hbe hJ);have q1_:=q_.1.len;have q2_:=q_.1.polls;simp only [QQ,Wt,Q2];omega) (fun G4 hl4 hs16=>Wn (E:=Q2) 4 (hjt13.mono (Jt.le_trans hl3 hl4)) (by have q_:=(JfC hbe hJ);have q1_:=q_.1.len;have q2_:=q_.1.polls;simp only [QQ,Wt,Q2];omega) (fun G5 hl5 hs17=>?_))))))))
 have hf4:K6 s l=(jt.town,jt.events,0):=by
  (rw [Jmj ‹_› (by omega) hJ (by omega)];done)
 refine Jl [5,0,0] [(Jfi jt.town ajt0 cjt0 ajt1 cjt1 ajt2 cjt2 ajt3 cjt3 ajt4 cjt4 ajt5 cjt5),Sl ajt7 jt.events.length cjt7,I 0] (JY [] (.cons _ (.cons _ (.cons _ (.cons _ (.cons _ (.cons _ (.cons _ .slnil))))))) (Jt.le_trans (Jt.le_trans (Jt.le_trans (Jt.le_trans hl1 hle) hl3) hl4) hl5) ?_)
 rw [hf4]
 try dsimp only
 exact ⟨ajt0,cjt0,ajt1,cjt1,ajt2,cjt2,ajt3,cjt3,ajt4,cjt4,ajt5,cjt5,ajt7,cjt7,rfl,hjt0,(hjt1.mono (Jt.le_trans (Jt.le_trans hl3 hl4) hl5)),hjt2,hjt3,hjt4,(hjt5.mono (Jt.le_trans (Jt.le_trans hl3 hl4) hl5)),(hjt6.mono (Jt.le_trans (Jt.le_trans hl3 hl4) hl5)),(hs15.mono (Jt.le_trans hl4 hl5)),(hs16.mono hl5),hjt9,(hjt10.mono (Jt.le_trans (Jt.le_trans hl3 hl4) hl5)),hs17,rfl⟩
end Go.Proofs.YtnnlpbjdignhaaaGreatDoor
