import Derived.Test.YtnnlpbjdignhaaaGreatDoorTcTownB
import Derived.Test.YtnnlpbjdignhaaaGreatDoorTcTownC
namespace Go.Proofs.YtnnlpbjdignhaaaGreatDoor
open Go.Tx
set_option linter.unusedVariables false
set_option linter.unusedSimpArgs false
open Go.Tx Go.Proofs
theorem JmM {s:KI} (h:Ql s=0):YW (Qq s):=by
 obtain ⟨b1,b2,b3,b4⟩:=Jdg h
 obtain ⟨e1,e2,e3,e4,e5,e6,e7⟩:=Jbi h
 exact ⟨⟨s,b1⟩,b2,by rw [b3,b4],by rw [b3];exact e1,e6,e7⟩
theorem f_do (t:JC) (d:Qd):(ZJ t d).fates.length≤t.fates.length+1:=by
 have hs:∀ (t:JC) l,(QX t l).fates.length≤t.fates.length:=fun t l=>by simp [QX]
 have hl:∀ (l:List JP) (t:JC),(WP t l).fates.length≤t.fates.length:=by
  intro l
  induction l with
  | nil=>intro t;exact Nat.le_refl _
  | cons x l ih =>
   intro t
   refine Nat.le_trans (ih (Zr t x)) ?_
   unfold Zr
   split
   ·
    unfold KF
    split
    ·
     exact Nat.le_refl _
    ·
     exact hs _ _
   ·
    exact Nat.le_refl _
 have ha:∀ n (t:JC),(JaK t n).fates.length≤t.fates.length:=by
  intro n t
  induction n with
  | zero=>exact Nat.le_refl _
  | succ n ih =>
   rw [← Y4]
   refine Nat.le_trans ?_ ih
   have hq:∀ u k,(VO u k).fates.length≤u.fates.length:=fun u k=>by unfold VO;exact hs _ _
   unfold Wv
   split
   ·
    exact Nat.le_refl _
   split
   ·
    exact hq _ _
   ·
    exact hq _ _
 have ht:(Q8 t).fates.length≤t.fates.length:=by
  unfold Q8
  split
  ·
   exact Nat.le_refl _
  ·
   exact Nat.le_trans (ha _ _) (hl _ _)
 unfold ZJ
 split
 ·
  unfold Qp;(repeat' split) <;> simp
 split
 ·
  simp
 split
 ·
  unfold JeP;split <;> simp
 split
 ·
  omega
 ·
  omega
theorem Jft {s:KI} (h:Ql s=0) {jt:JC} {l:List Qd} {i:Nat} (hJ:jt=JaL (Qq s) (l.take i)):YW jt∧jt.events.length≤64*i∧jt.fates.length≤i:=by
 subst hJ
 have key:∀ (m:List Qd) (t:JC),YW t→YW (JaL t m)∧(JaL t m).events.length≤t.events.length+64*m.length∧(JaL t m).fates.length≤t.fates.length+m.length:=by
  intro m
  induction m with
  | nil=>intro t h;exact ⟨h,by simp [JaL],by simp [JaL]⟩
  | cons d m ih =>
   intro t h
   obtain ⟨q1,q2⟩:=do_H h d
   obtain ⟨r1,r2,r3⟩:=ih (ZJ t d) q1
   have:=f_do t d
   refine ⟨r1,?_,?_⟩
   ·
    show (JaL (ZJ t d) m).events.length≤_;simp only [List.length_cons];omega
   ·
    show (JaL (ZJ t d) m).fates.length≤_;simp only [List.length_cons];omega
 obtain ⟨k1,k2,k3⟩:=key (l.take i) (Qq s) (JmM h)
 have e1:(Qq s).events.length=0:=rfl
 have e2:(Qq s).fates.length=0:=rfl
 have e3:(l.take i).length≤i:=by rw [List.length_take];omega
 exact ⟨k1,by omega,by omega⟩
theorem JhC {s:KI} {l:List Qd} (h:¬ Ql s=0):Kz s l=(Jjg,[],Ql s):=by
 have e:Jbz s l=Ql s:=by unfold Jbz;rw [if_pos h]
 unfold Kz;rw [e,if_pos h]
theorem Jiy {s:KI} {l:List Qd} (h:Ql s=0) (hl:l.length > 200):Kz s l=(Jjg,[],2):=by
 have e:Jbz s l=2:=by unfold Jbz;rw [if_neg (by omega),if_pos hl]
 unfold Kz;rw [e,if_pos (by decide)]
theorem Jma {s:KI} {l:List Qd} {jt:JC} {i:Nat} (h:Ql s=0) (hl:¬ l.length > 200) (hJ:jt=JaL (Qq s) (l.take i)) (hi:l.length≤i):Kz s l=(⟨jt.town.clerk,jt.town.owners,jt.town.polls,jt.town.net⟩,jt.events,0):=by
 rw [List.take_of_length_le hi] at hJ
 subst hJ
 have e:Jbz s l=0:=by unfold Jbz;rw [if_neg (by omega),if_neg hl]
 unfold Kz;rw [e,if_neg (by decide)]
set_option maxRecDepth 20000 in
set_option maxHeartbeats 1600000 in
theorem Jfu (G:Jt) (vs_s:List Value) (s:KI) (h_s:JdS.R G vs_s s) (a_l:Option Addr) (c_l:Nat) (l:List Qd) (h_l:RS Jae G a_l c_l l) :QF Tryz.prog 10 #[.agg vs_s.toArray,Sl a_l l.length c_l] G [] (fun u G' L'=>∃ (a1:Option Addr) (c2:Nat) (a3:Option Addr) (c4:Nat) (a5:Option Addr) (c6:Nat) (a7:Option Addr) (c8:Nat) (a9:Option Addr) (c10:Nat) (a11:Option Addr) (c12:Nat) (a13:Option Addr) (c14:Nat),u=.tuple #[.agg #[I (((Kz s l).1).clerk.queue.most),Sl a1 ((((Kz s l).1).clerk.queue.wait).length) c2,I (((Kz s l).1).clerk.batch),I (((Kz s l).1).clerk.every),I (((Kz s l).1).clerk.now),Sl a3 ((((Kz s l).1).clerk.heads).length) c4,Sl a5 ((((Kz s l).1).clerk.books).length) c6,Sl a7 ((((Kz s l).1).owners).length) c8,Sl a9 ((((Kz s l).1).polls).length) c10,I (((Kz s l).1).net.now),Sl a11 ((((Kz s l).1).net.way).length) c12],Sl a13 (((Kz s l).2.1).length) c14,I ((Kz s l).2.2)]∧(rI (((Kz s l).1).clerk.queue.most))∧(RS QV G' a1 c2 (((Kz s l).1).clerk.queue.wait))∧(rI (((Kz s l).1).clerk.batch))∧(rI (((Kz s l).1).clerk.every))∧(rI (((Kz s l).1).clerk.now))∧(RS KE G' a3 c4 (((Kz s l).1).clerk.heads))∧(RS Qm G' a5 c6 (((Kz s l).1).clerk.books))∧(RS QO G' a7 c8 (((Kz s l).1).owners))∧(RS Ws G' a9 c10 (((Kz s l).1).polls))∧(rI (((Kz s l).1).net.now))∧(RS Ki G' a11 c12 (((Kz s l).1).net.way))∧(RS Q1 G' a13 c14 ((Kz s l).2.1))∧L'=[]):=by
 obtain ⟨a1,c1,a2,c2,rfl,hs1,hs2,w1,w2,w3,w4,w5,w6,w7⟩:=h_s
 refine JJ Tryz.func10 45 [(0,(V3 s a1 c1 a2 c2)),(1,Sl a_l l.length c_l)] rfl (fun w0 G0=>?_)
 refine Je (Jb (Ju 2 #[Sl a1 s.names.length c1,Sl a2 s.keys.length c2,I s.most,I s.batch,I s.every,I s.least,I s.top,I s.lost,I s.reach] 25 (fun b1=>Ju 4 #[I 0,Sl none 0 0,I 0,I 0,I 0,Sl none 0 0,Sl none 0 0,Sl none 0 0,Sl none 0 0,I 0,Sl none 0 0] 41 (fun b2=>Jd [0,0] [(1,Sl a_l l.length c_l),(2,Pt b1 0),(4,Pt b2 0)] (Jc (Ja (Je (Jb (Jd [4] [(1,Sl a_l l.length c_l),(4,Pt b2 0),(12,(V3 s a1 c1 a2 c2))] (JQ 13 (Jkr G (W4 s a1 c1 a2 c2) s (⟨a1,c1,a2,c2,rfl,hs1,hs2,w1,w2,w3,w4,w5,w6,w7⟩)) (fun v G1 L1 hl1 hp=>?_)))))))))))
 rcases hp with ⟨hbe,rfl,rfl⟩ | ⟨hbe,b3,a3,c3,a4,c4,a5,c5,a6,c6,a7,c7,a8,c8,a9,c9,a10,c10,r1,r2,r3,r4,rfl,w8,hs3,w9,w10,w11,hs4,hs5,hr1,hr2,w12,hs6,w13,hr3,hr4,rfl⟩
 refine Jd [0,0,0,0,0] [(1,Sl a_l l.length c_l),(4,Pt b2 0),(7,.pointer none),(8,I (Ql s))] (Jc (Ja (Je (Je (Jb (Jd [0,0,0] [(1,Sl a_l l.length c_l),(4,Pt b2 0),(7,.pointer none),(8,I (Ql s)),(18,Bo (decide (Ql s=0)))] (KD (decide (Ql s=0)) (fun bb=>[(1,Sl a_l l.length c_l),(4,Pt b2 0),(7,.pointer none),(8,I (Ql s)),(18,Bo bb)]) [0,0,0,0] [1,1,1,0] (fun bb=>[(1,Sl a_l l.length c_l),(4,Pt b2 0),(7,.pointer none),(8,I (Ql s)),(22,Bo (bb && (decide ((l.length:Int) > 200))))]) (Jc (Ja (Jo ((decide (Ql s=0)) && (decide ((l.length:Int) > 200))) (fun h1=>?_) (fun h1=>?_)))))))))))
 try simp only [BB] at h1
 refine Jb (Jd [0] [(1,Sl a_l l.length c_l),(4,Pt b2 0),(7,.pointer none),(8,I 2)] (Jc (Ja (Je (Jg [0,0] [(1,Sl a_l l.length c_l),(4,Pt b2 0),(7,.pointer none),(8,I 2),(24,Bo true)] (JZ (Jg [0,0,3,0,0] [(4,Pt b2 0),(5,Sl none 0 0),(6,I 2)] (Jk (Jh ?_)))))))))
 have hf1:Kz s l=((⟨(⟨(⟨0,[]⟩:QL),0,0,0,[],[]⟩:Kw),[],[],(⟨0,[]⟩:Yh)⟩:QU),[],2):=by
  (exfalso;omega)
 refine Jl [0,0,0] [.agg #[I 0,Sl none 0 0,I 0,I 0,I 0,Sl none 0 0,Sl none 0 0,Sl none 0 0,Sl none 0 0,I 0,Sl none 0 0],Sl none 0 0,I 2] (JY [] (.cons _ (.cons _ .slnil)) hl1 ?_)
 rw [hf1]
 try dsimp only
 exact ⟨none,0,none,0,none,0,none,0,none,0,none,0,none,0,rfl,(by omega),(RS.nil' QV G1),(by omega),(by omega),(by omega),(RS.nil' KE G1),(RS.nil' Qm G1),(RS.nil' QO G1),(RS.nil' Ws G1),(by omega),(RS.nil' Ki G1),(RS.nil' Q1 G1),rfl⟩
 try simp only [BB] at h1
 refine Jm (Ja (Je (Jg [0,0] [(1,Sl a_l l.length c_l),(4,Pt b2 0),(7,.pointer none),(8,I (Ql s)),(24,Bo (!decide (Ql s=0)))] (Jo (!decide (Ql s=0)) (fun h2=>?_) (fun h2=>?_)))))
 try simp only [BB] at h2
 refine Jg [0,0,3,0,0] [(4,Pt b2 0),(5,Sl none 0 0),(6,I (Ql s))] (Jk (Jh ?_))
 have hf2:Kz s l=((⟨(⟨(⟨0,[]⟩:QL),0,0,0,[],[]⟩:Kw),[],[],(⟨0,[]⟩:Yh)⟩:QU),[],Ql s):=by
  (rw [JhC ‹_›];rfl)
 refine Jl [0,0,0] [.agg #[I 0,Sl none 0 0,I 0,I 0,I 0,Sl none 0 0,Sl none 0 0,Sl none 0 0,Sl none 0 0,I 0,Sl none 0 0],Sl none 0 0,I (Ql s)] (JY [] (.cons _ (.cons _ .slnil)) hl1 ?_)
 rw [hf2]
 try dsimp only
 exact ⟨none,0,none,0,none,0,none,0,none,0,none,0,none,0,rfl,(by omega),(RS.nil' QV G1),(by omega),(by omega),(by omega),(RS.nil' KE G1),(RS.nil' Qm G1),(RS.nil' QO G1),(RS.nil' Ws G1),(by omega),(RS.nil' Ki G1),(RS.nil' Q1 G1),rfl⟩
 try simp only [BB] at h2
 refine Jm (Ja (Je ?_))
 exfalso;omega
 refine Jd [0,0,0,0,0] [(1,Sl a_l l.length c_l),(4,Pt b2 0),(7,Pt b3 0),(8,I 0)] (Jc (Ja (Je (Jg [0,0,0,0,0,0,0] [(1,Sl a_l l.length c_l),(4,Pt b2 0),(7,Pt b3 0),(8,I 0),(22,Bo (decide ((l.length:Int) > 200)))] (Jo (decide ((l.length:Int) > 200)) (fun h3=>?_) (fun h3=>?_))))))
 try simp only [BB] at h3
 refine Jb (Jd [0] [(1,Sl a_l l.length c_l),(4,Pt b2 0),(7,Pt b3 0),(8,I 2)] (Jc (Ja (Je (Jg [0,0] [(1,Sl a_l l.length c_l),(4,Pt b2 0),(7,Pt b3 0),(8,I 2),(24,Bo true)] (JZ (Jg [0,0,13,0,0] [(4,Pt b2 0),(5,Sl none 0 0),(6,I 2)] (Jk (Jh ?_)))))))))
 have hf3:Kz s l=((⟨(⟨(⟨0,[]⟩:QL),0,0,0,[],[]⟩:Kw),[],[],(⟨0,[]⟩:Yh)⟩:QU),[],2):=by
  (rw [Jiy ‹_› (by omega)];rfl)
 refine Jl [5,0,0] [.agg #[I 0,Sl none 0 0,I 0,I 0,I 0,Sl none 0 0,Sl none 0 0,Sl none 0 0,Sl none 0 0,I 0,Sl none 0 0],Sl none 0 0,I 2] (JY [] (.cons _ (.cons _ (.cons _ (.cons _ (.cons _ (.cons _ (.cons _ .slnil))))))) hl1 ?_)
 rw [hf3]
 try dsimp only
 exact ⟨none,0,none,0,none,0,none,0,none,0,none,0,none,0,rfl,‹_›,(RS.nil' QV G1),‹_›,‹_›,‹_›,(RS.nil' KE G1),(RS.nil' Qm G1),(RS.nil' QO G1),(RS.nil' Ws G1),‹_›,(RS.nil' Ki G1),(RS.nil' Q1 G1),rfl⟩
 try simp only [BB] at h3
 refine Jm (Ja (Je (Jg [0,0] [(1,Sl a_l l.length c_l),(4,Pt b2 0),(7,Pt b3 0),(8,I 0),(24,Bo false)] (Qv (Jm (Ja (Je (Jg [0,0,0] [(4,Pt b2 0),(7,Pt b3 0),(27,Sl a_l l.length c_l),(28,I (l.length:Int)),(29,I 0)] (Jz ?_)))))))))
 have hlm_h_l:l.length≤9223372036854775807:=Nat.le_trans (h_l).le (h_l).max
 refine Qc (σ:=Nat×JC×Option Addr×Nat×Option Addr×Nat×Option Addr×Nat×Option Addr×Nat×List Ks×Option Addr×Nat×List Ks×Option Addr×Nat×Option Addr×Nat×List Ks×Option Addr×Nat×List Ks×Jt) (fun q_=>(Jt.le G1 q_.2.2.2.2.2.2.2.2.2.2.2.2.2.2.2.2.2.2.2.2.2.2)∧(q_.1≤l.length)∧(RS QV q_.2.2.2.2.2.2.2.2.2.2.2.2.2.2.2.2.2.2.2.2.2.2 q_.2.2.1 q_.2.2.2.1 q_.2.1.town.clerk.queue.wait)∧(RS KE q_.2.2.2.2.2.2.2.2.2.2.2.2.2.2.2.2.2.2.2.2.2.2 q_.2.2.2.2.1 q_.2.2.2.2.2.1 q_.2.1.town.clerk.heads)∧(RS Qm q_.2.2.2.2.2.2.2.2.2.2.2.2.2.2.2.2.2.2.2.2.2.2 q_.2.2.2.2.2.2.1 q_.2.2.2.2.2.2.2.1 q_.2.1.town.clerk.books)∧(J9 QO q_.2.2.2.2.2.2.2.2.2.2.2.2.2.2.2.2.2.2.2.2.2.2 q_.2.2.2.2.2.2.2.2.1 q_.2.2.2.2.2.2.2.2.2.1 q_.2.1.town.owners q_.2.2.2.2.2.2.2.2.2.2.1)∧(J9 Ws q_.2.2.2.2.2.2.2.2.2.2.2.2.2.2.2.2.2.2.2.2.2.2 q_.2.2.2.2.2.2.2.2.2.2.2.1 q_.2.2.2.2.2.2.2.2.2.2.2.2.1 q_.2.1.town.polls q_.2.2.2.2.2.2.2.2.2.2.2.2.2.1)∧(RS Ki q_.2.2.2.2.2.2.2.2.2.2.2.2.2.2.2.2.2.2.2.2.2.2 q_.2.2.2.2.2.2.2.2.2.2.2.2.2.2.1 q_.2.2.2.2.2.2.2.2.2.2.2.2.2.2.2.1 q_.2.1.town.net.way)∧(J9 YT q_.2.2.2.2.2.2.2.2.2.2.2.2.2.2.2.2.2.2.2.2.2.2 q_.2.2.2.2.2.2.2.2.2.2.2.2.2.2.2.2.1 q_.2.2.2.2.2.2.2.2.2.2.2.2.2.2.2.2.2.1 q_.2.1.fates q_.2.2.2.2.2.2.2.2.2.2.2.2.2.2.2.2.2.2.1)∧(J9 Q1 q_.2.2.2.2.2.2.2.2.2.2.2.2.2.2.2.2.2.2.2.2.2.2 q_.2.2.2.2.2.2.2.2.2.2.2.2.2.2.2.2.2.2.2.1 q_.2.2.2.2.2.2.2.2.2.2.2.2.2.2.2.2.2.2.2.2.1 q_.2.1.events q_.2.2.2.2.2.2.2.2.2.2.2.2.2.2.2.2.2.2.2.2.2.1)∧(rI q_.2.1.town.clerk.queue.most)∧(rI q_.2.1.town.clerk.batch)∧(rI q_.2.1.town.clerk.every)∧(rI q_.2.1.town.clerk.now)∧(rI q_.2.1.town.net.now)∧(rI q_.2.1.reach)∧(q_.2.1=JaL (Qq s) (l.take q_.1))) (fun q_=>[(4,Pt b2 0),(7,Pt b3 0),(27,Sl a_l l.length c_l),(28,I (l.length:Int)),(29,I (q_.1:Int))]) (fun q_=>q_.2.2.2.2.2.2.2.2.2.2.2.2.2.2.2.2.2.2.2.2.2.2) (fun q_=>[[Sg b3 0 (JT q_.2.1 q_.2.2.1 q_.2.2.2.1 q_.2.2.2.2.1 q_.2.2.2.2.2.1 q_.2.2.2.2.2.2.1 q_.2.2.2.2.2.2.2.1 q_.2.2.2.2.2.2.2.2.1 q_.2.2.2.2.2.2.2.2.2.1 q_.2.2.2.2.2.2.2.2.2.2.2.1 q_.2.2.2.2.2.2.2.2.2.2.2.2.1 q_.2.2.2.2.2.2.2.2.2.2.2.2.2.2.1 q_.2.2.2.2.2.2.2.2.2.2.2.2.2.2.2.1 q_.2.2.2.2.2.2.2.2.2.2.2.2.2.2.2.2.1 q_.2.2.2.2.2.2.2.2.2.2.2.2.2.2.2.2.2.1 q_.2.2.2.2.2.2.2.2.2.2.2.2.2.2.2.2.2.2.2.1 q_.2.2.2.2.2.2.2.2.2.2.2.2.2.2.2.2.2.2.2.2.1)],q_.2.2.2.2.2.2.2.2.2.2.1,q_.2.2.2.2.2.2.2.2.2.2.2.2.2.1,q_.2.2.2.2.2.2.2.2.2.2.2.2.2.2.2.2.2.2.1,q_.2.2.2.2.2.2.2.2.2.2.2.2.2.2.2.2.2.2.2.2.2.1,[Sg b2 0 [I 0,Sl none 0 0,I 0,I 0,I 0,Sl none 0 0,Sl none 0 0,Sl none 0 0,Sl none 0 0,I 0,Sl none 0 0]],[Sg b1 0 (W4 s a1 c1 a2 c2)]]) (fun q_=>l.length-q_.1) (0,(Qq s),a3,c3,a4,c4,a5,c5,a6,c6,r1,a7,c7,r2,a8,c8,a9,c9,r3,a10,c10,r4,G1) ⟨(Jt.le_refl _),(by (try dsimp only);exact Nat.zero_le _),hs3,hs4,hs5,hr1,hr2,hs6,hr3,hr4,w8,w9,w10,w11,w12,w13,(by (try dsimp only);rfl)⟩ (fun q_ hs=>?_)
 obtain ⟨i,jt,ajt0,cjt0,ajt1,cjt1,ajt2,cjt2,ajt3,cjt3,rjt7,ajt4,cjt4,rjt8,ajt5,cjt5,ajt6,cjt6,rjt12,ajt7,cjt7,rjt13,g⟩:=q_
 obtain ⟨hle,hi,hjt1,hjt5,hjt6,hjt7,hjt8,hjt10,hjt12,hjt13,hjt0,hjt2,hjt3,hjt4,hjt9,hjt11,hJ⟩:=hs
 dsimp only at hle hi hjt1 hjt5 hjt6 hjt7 hjt8 hjt10 hjt12 hjt13 hjt0 hjt2 hjt3 hjt4 hjt9 hjt11 hJ
 refine KQ (fr':=[(4,Pt b2 0),(7,Pt b3 0),(27,Sl a_l l.length c_l),(28,I (l.length:Int)),(29,I (i:Int))]) (L':=[[Sg b3 0 (JT jt ajt0 cjt0 ajt1 cjt1 ajt2 cjt2 ajt3 cjt3 ajt4 cjt4 ajt5 cjt5 ajt6 cjt6 ajt7 cjt7)],rjt7,rjt8,rjt12,rjt13,[Sg b2 0 [I 0,Sl none 0 0,I 0,I 0,I 0,Sl none 0 0,Sl none 0 0,Sl none 0 0,Sl none 0 0,I 0,Sl none 0 0]],[Sg b1 0 (W4 s a1 c1 a2 c2)]]) rfl rfl (Jg [0] [(4,Pt b2 0),(7,Pt b3 0),(27,Sl a_l l.length c_l),(28,I (l.length:Int)),(29,I (i:Int)),(30,Bo (decide ((i:Int)<(l.length:Int))))] (Je (Jo (decide ((i:Int)<(l.length:Int))) (fun h4=>?_) (fun h4=>?_))))
 try simp only [BB] at h4
 refine Jm (Ja (Je (Jz (Je (Jb ?_)))))
 obtain ⟨b4,o1,rfl⟩:=RS.addr (h_l.mono (Jt.le_trans hl1 hle)) (k:=i) (by omega)
 obtain ⟨x1,hx1⟩:=Wh (l:=l) (k:=i) (by omega)
 obtain ⟨_,⟨a11,c11,a12,c12,a13,c13,a14,c14,rfl,w14,w15,w16,hs7,w17,w18,w19,w20,hs8,w21,w22,w23,w24,w25,hs9,hs10⟩,hc1⟩:=RS.get (h_l.mono (Jt.le_trans hl1 hle)) hx1
 refine Kh (b:=b4) (off:=o1) (len:=l.length) (cap:=c_l) (ik:=.i64) 31 74 16 i (by omega) (Ka 32 74 (cs:=(Wk x1 a11 c11 a12 c12 a13 c13 a14 c14)) 0 (JaH x1 a11 c11 a12 c12 a13 c13 a14 c14) hc1 (Ju 10 #[I 0,I 0,Sr ([]),Sl none 0 0,I 0,I 0,I 0,I 0,Sl none 0 0,I 0,U 0,U 0,I 0,Sr ([]),Sl none 0 0,Sl none 0 0] 74 (fun b5=>Kd [3] [(4,Pt b2 0),(7,Pt b3 0),(10,Pt b5 0),(27,Sl (At b4 o1) l.length c_l),(28,I (l.length:Int)),(29,I (i:Int))] [[Sg b5 0 (Wk x1 a11 c11 a12 c12 a13 c13 a14 c14)],[Sg b3 0 (JT jt ajt0 cjt0 ajt1 cjt1 ajt2 cjt2 ajt3 cjt3 ajt4 cjt4 ajt5 cjt5 ajt6 cjt6 ajt7 cjt7)],rjt7,rjt8,rjt12,rjt13,[Sg b2 0 [I 0,Sl none 0 0,I 0,I 0,I 0,Sl none 0 0,Sl none 0 0,Sl none 0 0,Sl none 0 0,I 0,Sl none 0 0]],[Sg b1 0 (W4 s a1 c1 a2 c2)]] (Jc (Ja (Jb (Jd [0,2] [(4,Pt b2 0),(7,Pt b3 0),(27,Sl (At b4 o1) l.length c_l),(28,I (l.length:Int)),(29,I (i:Int)),(33,Pt b3 0),(34,(JaH x1 a11 c11 a12 c12 a13 c13 a14 c14))] (JG 5 (JG 5 (JG 5 (JG 5 (JG 5 (Qr (Ls:=[[Sg b3 0 (JT jt ajt0 cjt0 ajt1 cjt1 ajt2 cjt2 ajt3 cjt3 ajt4 cjt4 ajt5 cjt5 ajt6 cjt6 ajt7 cjt7)],rjt7,rjt8,rjt12,rjt13]) (Lr:=[[Sg b5 0 (Wk x1 a11 c11 a12 c12 a13 c13 a14 c14)],[Sg b2 0 [I 0,Sl none 0 0,I 0,I 0,I 0,Sl none 0 0,Sl none 0 0,Sl none 0 0,Sl none 0 0,I 0,Sl none 0 0]],[Sg b1 0 (W4 s a1 c1 a2 c2)]]) 35 (JmI g b3 jt ajt0 cjt0 ajt1 cjt1 ajt2 cjt2 ajt3 cjt3 ajt4 cjt4 ajt5 cjt5 ajt6 cjt6 ajt7 cjt7 rjt7 rjt8 rjt12 rjt13 hjt0 hjt1 hjt2 hjt3 hjt4 hjt5 hjt6 hjt7 hjt8 hjt9 hjt10 hjt11 hjt12 hjt13 (Wk x1 a11 c11 a12 c12 a13 c13 a14 c14) x1 (⟨a11,c11,a12,c12,a13,c13,a14,c14,rfl,w14,w15,w16,hs7,w17,w18,w19,w20,hs8,w21,w22,w23,w24,w25,hs9,hs10⟩) (by exact (Jft hbe hJ).1) (by (have q_:=(Jft hbe hJ);omega)) (by (have q_:=(Jft hbe hJ);omega))) (fun v G2 L1 hl2 hp=>?_))))))))))))))
 obtain ⟨a15,c15,a16,c16,a17,c17,a18,c18,a19,c19,a20,c20,a21,c21,a22,c22,r5,r6,r7,r8,rfl,_,hs11,_,_,_,hs12,hs13,hr5,hr6,_,hs14,_,hr7,hr8,rfl⟩:=hp
 refine Jc (JM (Ja (Jb (Jd [0,0] [(4,Pt b2 0),(7,Pt b3 0),(27,Sl (At b4 o1) l.length c_l),(28,I (l.length:Int)),(29,I (IntKind.i64.wrap ((i:Int)+1)))] ?_))))
 have e1:IntKind.i64.wrap ((i:Int)+1)=(i:Int)+1:=IntWalk.i64_in _ (by omega)
 refine J3 (fr':=[(4,Pt b2 0),(7,Pt b3 0),(27,Sl (At b4 o1) l.length c_l),(28,I (l.length:Int)),(29,I ((i:Int)+1))]) (L':=[[Sg b3 0 [I ((ZJ jt x1).town.clerk.queue.most),Sl a15 (((ZJ jt x1).town.clerk.queue.wait).length) c15,I ((ZJ jt x1).town.clerk.batch),I ((ZJ jt x1).town.clerk.every),I ((ZJ jt x1).town.clerk.now),Sl a16 (((ZJ jt x1).town.clerk.heads).length) c16,Sl a17 (((ZJ jt x1).town.clerk.books).length) c17,Sl a18 (((ZJ jt x1).town.owners).length) c18,Sl a19 (((ZJ jt x1).town.polls).length) c19,I ((ZJ jt x1).town.net.now),Sl a20 (((ZJ jt x1).town.net.way).length) c20,I ((ZJ jt x1).reach),Sl a21 (((ZJ jt x1).fates).length) c21,Sl a22 (((ZJ jt x1).events).length) c22]],r5,r6,r7,r8,[Sg b5 0 [I x1.kind,I x1.who,Sr x1.value,Sl a11 x1.fates.length c11,I x1.letter.to_,I x1.letter.from_,I x1.letter.since,I x1.letter.due,Sl a12 x1.letter.heads.length c12,I x1.letter.reply.head.epoch,U x1.letter.reply.head.root,U x1.letter.reply.head.prev,I x1.letter.reply.head.at_,Sr x1.letter.reply.proof.name,Sl a13 x1.letter.reply.proof.entries.length c13,Sl a14 x1.letter.reply.proof.sides.length c14]],[Sg b2 0 [I 0,Sl none 0 0,I 0,I 0,I 0,Sl none 0 0,Sl none 0 0,Sl none 0 0,Sl none 0 0,I 0,Sl none 0 0]],[Sg b1 0 [Sl a1 s.names.length c1,Sl a2 s.keys.length c2,I s.most,I s.batch,I s.every,I s.least,I s.top,I s.lost,I s.reach]]]) (by simp only [Wk,W4,JiR,JT,JaH,V3,Jfa,e1];first | done | rfl) (by rfl) ?_
 clear e1
 exact Jc (Jj 7 (Jj 7 (Jj 6 (Jj 6 (Jj 6 (Jj 6 (Jj 6 (Q4 [[Sg b3 0 (JT (ZJ jt x1) a15 c15 a16 c16 a17 c17 a18 c18 a19 c19 a20 c20 a21 c21 a22 c22)],r5,r6,r7,r8,[Sg b2 0 [I 0,Sl none 0 0,I 0,I 0,I 0,Sl none 0 0,Sl none 0 0,Sl none 0 0,Sl none 0 0,I 0,Sl none 0 0]],[Sg b1 0 (W4 s a1 c1 a2 c2)]] (.cons_cons _ (.cons_cons _ (.cons_cons _ (.cons_cons _ (.cons_cons _ (.cons_cons _ (.cons_cons _ (.cons _ .slnil)))))))) (Qg (i+1,(ZJ jt x1),a15,c15,a16,c16,a17,c17,a18,c18,r5,a19,c19,r6,a20,c20,a21,c21,r7,a22,c22,r8,G2) ⟨(Jt.le_trans hle hl2),(by omega),hs11,hs12,hs13,hr5,hr6,hs14,hr7,hr8,‹_›,‹_›,‹_›,‹_›,‹_›,‹_›,(by (try dsimp only);rw [← Jkm hx1,← hJ])⟩ (by (try dsimp only);omega))))))))))
 try simp only [BB] at h4
 refine K0 (J2 (Kf (JU (Ja (Je (KB [8] (Wr [(0,Pt b3 0),(1,Pt b3 0),(2,Pt b3 0),(3,(Jfa jt.town ajt0 cjt0 ajt1 cjt1 ajt2 cjt2 ajt3 cjt3 ajt4 cjt4 ajt5 cjt5)),(4,Pt b3 0),(5,Pt b3 0),(6,Pt b3 13),(7,Sl ajt7 jt.events.length cjt7)] (J1 [] [(0,0),(1,0),(2,0),(3,2),(4,0),(5,0),(6,0),(7,2)] [] [8] (List.forall_mem_nil _) (List.forall_mem_cons.2 ⟨?_,List.forall_mem_nil _⟩)))))))))
 refine JS 8 [(4,Pt b2 0),(40,(Jfa jt.town ajt0 cjt0 ajt1 cjt1 ajt2 cjt2 ajt3 cjt3 ajt4 cjt4 ajt5 cjt5))] (fun X=>?_)
 refine K2 5 [[Sg b3 0 (JT jt ajt0 cjt0 ajt1 cjt1 ajt2 cjt2 ajt3 cjt3 ajt4 cjt4 ajt5 cjt5 ajt6 cjt6 ajt7 cjt7)],rjt7,rjt8,rjt12,rjt13,[Sg b2 0 (JiR jt.town ajt0 cjt0 ajt1 cjt1 ajt2 cjt2 ajt3 cjt3 ajt4 cjt4 ajt5 cjt5)],[Sg b1 0 (W4 s a1 c1 a2 c2)]] (Kp [(9,Sl ajt7 jt.events.length cjt7),(10,I 0)] (KA [0,1,2,3] [(4,0),(5,0),(6,0),(7,2),(9,0),(10,0)] [] [(4,Pt b2 0),(5,Sl ajt7 jt.events.length cjt7),(6,I 0)] (List.forall_mem_nil _) (Ja (Jk (Wn (E:=QO) 1 hjt7 (by have q_:=(Jft hbe hJ);have q1_:=q_.1.len;have q2_:=q_.1.polls;simp only [QO,Ws,Q1];omega) (fun G3 hl3 hs15=>Wn (E:=Ws) 2 (hjt8.mono hl3) (by have q_:=(Jft hbe hJ);have q1_:=q_.1.len;have q2_:=q_.1.polls;simp only [QO,Ws,Q1];omega) (fun G4 hl4 hs16=>Wn (E:=Q1) 4 (hjt13.mono (Jt.le_trans hl3 hl4)) (by have q_:=(Jft hbe hJ);have q1_:=q_.1.len;have q2_:=q_.1.polls;simp only [QO,Ws,Q1];omega) (fun G5 hl5 hs17=>?_))))))))
 have hf4:Kz s l=(jt.town,jt.events,0):=by
  (rw [Jma ‹_› (by omega) hJ (by omega)];done)
 refine Jl [5,0,0] [(Jfa jt.town ajt0 cjt0 ajt1 cjt1 ajt2 cjt2 ajt3 cjt3 ajt4 cjt4 ajt5 cjt5),Sl ajt7 jt.events.length cjt7,I 0] (JY [] (.cons _ (.cons _ (.cons _ (.cons _ (.cons _ (.cons _ (.cons _ .slnil))))))) (Jt.le_trans (Jt.le_trans (Jt.le_trans (Jt.le_trans hl1 hle) hl3) hl4) hl5) ?_)
 rw [hf4]
 try dsimp only
 exact ⟨ajt0,cjt0,ajt1,cjt1,ajt2,cjt2,ajt3,cjt3,ajt4,cjt4,ajt5,cjt5,ajt7,cjt7,rfl,hjt0,(hjt1.mono (Jt.le_trans (Jt.le_trans hl3 hl4) hl5)),hjt2,hjt3,hjt4,(hjt5.mono (Jt.le_trans (Jt.le_trans hl3 hl4) hl5)),(hjt6.mono (Jt.le_trans (Jt.le_trans hl3 hl4) hl5)),(hs15.mono (Jt.le_trans hl4 hl5)),(hs16.mono hl5),hjt9,(hjt10.mono (Jt.le_trans (Jt.le_trans hl3 hl4) hl5)),hs17,rfl⟩
end Go.Proofs.YtnnlpbjdignhaaaGreatDoor
