import Derived.Test.YtnnlpbjdignhaaaGreatDoorTfTownB
import Derived.Test.YtnnlpbjdignhaaaGreatDoorTfTownC
namespace Go.Proofs.YtnnlpbjdignhaaaGreatDoor
open Go.Tx
set_option linter.unusedVariables false
set_option linter.unusedSimpArgs false
open Go.Tx Go.Proofs
theorem JlJ {s:KI} (h:Qh s=0):YI (Qa s):=by
 obtain ⟨b1,b2,b3,b4⟩:=JgO h
 obtain ⟨e1,e2,e3,e4,e5,e6,e7⟩:=JaP h
 exact ⟨⟨s,b1⟩,b2,by rw [b3,b4],by rw [b3];exact e1,e6,e7⟩
theorem f_do (t:JG) (d:QM):(ZC t d).fates.length≤t.fates.length+1:=by
 have hs:∀ (t:JG) l,(QV t l).fates.length≤t.fates.length:=fun t l=>by simp [QV]
 have hl:∀ (l:List JV) (t:JG),(WP t l).fates.length≤t.fates.length:=by
  intro l
  induction l with
  | nil=>intro t;exact Nat.le_refl _
  | cons x l ih =>
   intro t
   refine Nat.le_trans (ih (ZS t x)) ?_
   unfold ZS
   split
   ·
    unfold KG
    split
    ·
     exact Nat.le_refl _
    ·
     exact hs _ _
   ·
    exact Nat.le_refl _
 have ha:∀ n (t:JG),(JaE t n).fates.length≤t.fates.length:=by
  intro n t
  induction n with
  | zero=>exact Nat.le_refl _
  | succ n ih =>
   rw [← Vy]
   refine Nat.le_trans ?_ ih
   have hq:∀ u k,(VU u k).fates.length≤u.fates.length:=fun u k=>by unfold VU;exact hs _ _
   unfold Wq
   split
   ·
    exact Nat.le_refl _
   split
   ·
    exact hq _ _
   ·
    exact hq _ _
 have ht:(Q7 t).fates.length≤t.fates.length:=by
  unfold Q7
  split
  ·
   exact Nat.le_refl _
  ·
   exact Nat.le_trans (ha _ _) (hl _ _)
 unfold ZC
 split
 ·
  unfold QT;(repeat' split) <;> simp
 split
 ·
  simp
 split
 ·
  unfold Jek;split <;> simp
 split
 ·
  omega
 ·
  omega
theorem JeV {s:KI} (h:Qh s=0) {jt:JG} {l:List QM} {i:Nat} (hJ:jt=Y0 (Qa s) (l.take i)):YI jt∧jt.events.length≤64*i∧jt.fates.length≤i:=by
 subst hJ
 have key:∀ (m:List QM) (t:JG),YI t→YI (Y0 t m)∧(Y0 t m).events.length≤t.events.length+64*m.length∧(Y0 t m).fates.length≤t.fates.length+m.length:=by
  intro m
  induction m with
  | nil=>intro t h;exact ⟨h,by simp [Y0],by simp [Y0]⟩
  | cons d m ih =>
   intro t h
   obtain ⟨q1,q2⟩:=do_H h d
   obtain ⟨r1,r2,r3⟩:=ih (ZC t d) q1
   have:=f_do t d
   refine ⟨r1,?_,?_⟩
   ·
    show (Y0 (ZC t d) m).events.length≤_;simp only [List.length_cons];omega
   ·
    show (Y0 (ZC t d) m).fates.length≤_;simp only [List.length_cons];omega
 obtain ⟨k1,k2,k3⟩:=key (l.take i) (Qa s) (JlJ h)
 have e1:(Qa s).events.length=0:=rfl
 have e2:(Qa s).fates.length=0:=rfl
 have e3:(l.take i).length≤i:=by rw [List.length_take];omega
 exact ⟨k1,by omega,by omega⟩
theorem JgX {s:KI} {l:List QM} (h:¬ Qh s=0):JC s l=(Jis,[],Qh s):=by
 have e:Jaj s l=Qh s:=by unfold Jaj;rw [if_pos h]
 unfold JC;rw [e,if_pos h]
theorem JhP {s:KI} {l:List QM} (h:Qh s=0) (hl:l.length > 200):JC s l=(Jis,[],2):=by
 have e:Jaj s l=2:=by unfold Jaj;rw [if_neg (by omega),if_pos hl]
 unfold JC;rw [e,if_pos (by decide)]
theorem Jld {s:KI} {l:List QM} {jt:JG} {i:Nat} (h:Qh s=0) (hl:¬ l.length > 200) (hJ:jt=Y0 (Qa s) (l.take i)) (hi:l.length≤i):JC s l=(⟨jt.town.clerk,jt.town.owners,jt.town.polls,jt.town.net⟩,jt.events,0):=by
 rw [List.take_of_length_le hi] at hJ
 subst hJ
 have e:Jaj s l=0:=by unfold Jaj;rw [if_neg (by omega),if_neg hl]
 unfold JC;rw [e,if_neg (by decide)]
set_option maxRecDepth 20000 in
set_option maxHeartbeats 1600000 in
theorem JaT (G:Jt) (vs_s:List Value) (s:KI) (h_s:Jfb.R G vs_s s) (a_l:Option Addr) (c_l:Nat) (l:List QM) (h_l:RS Jdq G a_l c_l l) :QE Tryz.prog 10 #[.agg vs_s.toArray,Sl a_l l.length c_l] G [] (fun u G' L'=>∃ (a1:Option Addr) (c2:Nat) (a3:Option Addr) (c4:Nat) (a5:Option Addr) (c6:Nat) (a7:Option Addr) (c8:Nat) (a9:Option Addr) (c10:Nat) (a11:Option Addr) (c12:Nat) (a13:Option Addr) (c14:Nat),u=.tuple #[.agg #[I (((JC s l).1).clerk.queue.most),Sl a1 ((((JC s l).1).clerk.queue.wait).length) c2,I (((JC s l).1).clerk.batch),I (((JC s l).1).clerk.every),I (((JC s l).1).clerk.now),Sl a3 ((((JC s l).1).clerk.heads).length) c4,Sl a5 ((((JC s l).1).clerk.books).length) c6,Sl a7 ((((JC s l).1).owners).length) c8,Sl a9 ((((JC s l).1).polls).length) c10,I (((JC s l).1).net.now),Sl a11 ((((JC s l).1).net.way).length) c12],Sl a13 (((JC s l).2.1).length) c14,I ((JC s l).2.2)]∧(rI (((JC s l).1).clerk.queue.most))∧(RS QO G' a1 c2 (((JC s l).1).clerk.queue.wait))∧(rI (((JC s l).1).clerk.batch))∧(rI (((JC s l).1).clerk.every))∧(rI (((JC s l).1).clerk.now))∧(RS KA G' a3 c4 (((JC s l).1).clerk.heads))∧(RS Qf G' a5 c6 (((JC s l).1).clerk.books))∧(RS QI G' a7 c8 (((JC s l).1).owners))∧(RS Wi G' a9 c10 (((JC s l).1).polls))∧(rI (((JC s l).1).net.now))∧(RS Ki G' a11 c12 (((JC s l).1).net.way))∧(RS Q0 G' a13 c14 ((JC s l).2.1))∧L'=[]):=by
 obtain ⟨a1,c1,a2,c2,rfl,hs1,hs2,w1,w2,w3,w4,w5,w6,w7⟩:=h_s
 refine JL Tryz.func10 45 [(0,(YZ s a1 c1 a2 c2)),(1,Sl a_l l.length c_l)] rfl (fun w0 G0=>?_)
 refine Je (Jb ?_)
 refine Ju 2 #[Sl a1 s.names.length c1,Sl a2 s.keys.length c2,I s.most,I s.batch,I s.every,I s.least,I s.top,I s.lost,I s.reach] 25 (fun b1=>?_)
 refine Ju 4 #[I 0,Sl none 0 0,I 0,I 0,I 0,Sl none 0 0,Sl none 0 0,Sl none 0 0,Sl none 0 0,I 0,Sl none 0 0] 41 (fun b2=>?_)
 refine Jc [0,0] [(1,Sl a_l l.length c_l),(2,Pt b1 0),(4,Pt b2 0)] (Jd (Ja (Je (Jb ?_))))
 refine Jc [4] [(1,Sl a_l l.length c_l),(4,Pt b2 0),(12,(YZ s a1 c1 a2 c2))] ?_
 refine JN 13 (JjA G (Ww s a1 c1 a2 c2) s (⟨a1,c1,a2,c2,rfl,hs1,hs2,w1,w2,w3,w4,w5,w6,w7⟩)) (fun v G1 L1 hl1 hp=>?_)
 rcases hp with ⟨hbe,rfl,rfl⟩ | ⟨hbe,b3,a3,c3,a4,c4,a5,c5,a6,c6,a7,c7,a8,c8,a9,c9,a10,c10,r1,r2,r3,r4,rfl,w8,hs3,w9,w10,w11,hs4,hs5,hr1,hr2,w12,hs6,w13,hr3,hr4,rfl⟩
 refine Jc [0,0,0,0,0] [(1,Sl a_l l.length c_l),(4,Pt b2 0),(7,.pointer none),(8,I (Qh s))] (Jd (Ja (Je (Je (Jb ?_)))))
 refine Jc [0,0,0] [(1,Sl a_l l.length c_l),(4,Pt b2 0),(7,.pointer none),(8,I (Qh s)),(18,Bo (decide (Qh s=0)))] ?_
 refine Ky (decide (Qh s=0)) (fun bb=>[(1,Sl a_l l.length c_l),(4,Pt b2 0),(7,.pointer none),(8,I (Qh s)),(18,Bo bb)]) [0,0,0,0] [1,1,1,0] (fun bb=>[(1,Sl a_l l.length c_l),(4,Pt b2 0),(7,.pointer none),(8,I (Qh s)),(22,Bo (bb && (decide ((l.length:Int) > 200))))]) ?_
 refine Jd (Ja ?_)
 refine Jo ((decide (Qh s=0)) && (decide ((l.length:Int) > 200))) (fun h1=>?_) (fun h1=>?_)
 try simp only [BB] at h1
 refine Jb ?_
 refine Jc [0] [(1,Sl a_l l.length c_l),(4,Pt b2 0),(7,.pointer none),(8,I 2)] (Jd (Ja (Je ?_)))
 refine Jg [0,0] [(1,Sl a_l l.length c_l),(4,Pt b2 0),(7,.pointer none),(8,I 2),(24,Bo true)] ?_
 refine J0 ?_
 refine Jg [0,0,3,0,0] [(4,Pt b2 0),(5,Sl none 0 0),(6,I 2)] (Jk (Jh ?_))
 have hf1:JC s l=((⟨(⟨(⟨0,[]⟩:QF),0,0,0,[],[]⟩:KF),[],[],(⟨0,[]⟩:Yc)⟩:QN),[],2):=by
  (exfalso;omega)
 refine Jl [0,0,0] [.agg #[I 0,Sl none 0 0,I 0,I 0,I 0,Sl none 0 0,Sl none 0 0,Sl none 0 0,Sl none 0 0,I 0,Sl none 0 0],Sl none 0 0,I 2] (JY [] (.cons _ (.cons _ .slnil)) hl1 ?_)
 rw [hf1]
 try dsimp only
 exact ⟨none,0,none,0,none,0,none,0,none,0,none,0,none,0,rfl,(by omega),(RS.nil' QO G1),(by omega),(by omega),(by omega),(RS.nil' KA G1),(RS.nil' Qf G1),(RS.nil' QI G1),(RS.nil' Wi G1),(by omega),(RS.nil' Ki G1),(RS.nil' Q0 G1),rfl⟩
 try simp only [BB] at h1
 refine Jm (Ja (Je ?_))
 refine Jg [0,0] [(1,Sl a_l l.length c_l),(4,Pt b2 0),(7,.pointer none),(8,I (Qh s)),(24,Bo (!decide (Qh s=0)))] ?_
 refine Jo (!decide (Qh s=0)) (fun h2=>?_) (fun h2=>?_)
 try simp only [BB] at h2
 refine Jg [0,0,3,0,0] [(4,Pt b2 0),(5,Sl none 0 0),(6,I (Qh s))] (Jk (Jh ?_))
 have hf2:JC s l=((⟨(⟨(⟨0,[]⟩:QF),0,0,0,[],[]⟩:KF),[],[],(⟨0,[]⟩:Yc)⟩:QN),[],Qh s):=by
  (rw [JgX ‹_›];rfl)
 refine Jl [0,0,0] [.agg #[I 0,Sl none 0 0,I 0,I 0,I 0,Sl none 0 0,Sl none 0 0,Sl none 0 0,Sl none 0 0,I 0,Sl none 0 0],Sl none 0 0,I (Qh s)] (JY [] (.cons _ (.cons _ .slnil)) hl1 ?_)
 rw [hf2]
 try dsimp only
 exact ⟨none,0,none,0,none,0,none,0,none,0,none,0,none,0,rfl,(by omega),(RS.nil' QO G1),(by omega),(by omega),(by omega),(RS.nil' KA G1),(RS.nil' Qf G1),(RS.nil' QI G1),(RS.nil' Wi G1),(by omega),(RS.nil' Ki G1),(RS.nil' Q0 G1),rfl⟩
 try simp only [BB] at h2
 refine Jm (Ja (Je ?_))
 exfalso;omega
 refine Jc [0,0,0,0,0] [(1,Sl a_l l.length c_l),(4,Pt b2 0),(7,Pt b3 0),(8,I 0)] (Jd (Ja (Je ?_)))
 refine Jg [0,0,0,0,0,0,0] [(1,Sl a_l l.length c_l),(4,Pt b2 0),(7,Pt b3 0),(8,I 0),(22,Bo (decide ((l.length:Int) > 200)))] ?_
 refine Jo (decide ((l.length:Int) > 200)) (fun h3=>?_) (fun h3=>?_)
 try simp only [BB] at h3
 refine Jb ?_
 refine Jc [0] [(1,Sl a_l l.length c_l),(4,Pt b2 0),(7,Pt b3 0),(8,I 2)] (Jd (Ja (Je ?_)))
 refine Jg [0,0] [(1,Sl a_l l.length c_l),(4,Pt b2 0),(7,Pt b3 0),(8,I 2),(24,Bo true)] ?_
 refine J0 ?_
 refine Jg [0,0,13,0,0] [(4,Pt b2 0),(5,Sl none 0 0),(6,I 2)] (Jk (Jh ?_))
 have hf3:JC s l=((⟨(⟨(⟨0,[]⟩:QF),0,0,0,[],[]⟩:KF),[],[],(⟨0,[]⟩:Yc)⟩:QN),[],2):=by
  (rw [JhP ‹_› (by omega)];rfl)
 refine Jl [5,0,0] [.agg #[I 0,Sl none 0 0,I 0,I 0,I 0,Sl none 0 0,Sl none 0 0,Sl none 0 0,Sl none 0 0,I 0,Sl none 0 0],Sl none 0 0,I 2] (JY [] (.cons _ (.cons _ (.cons _ (.cons _ (.cons _ (.cons _ (.cons _ .slnil))))))) hl1 ?_)
 rw [hf3]
 try dsimp only
 exact ⟨none,0,none,0,none,0,none,0,none,0,none,0,none,0,rfl,‹_›,(RS.nil' QO G1),‹_›,‹_›,‹_›,(RS.nil' KA G1),(RS.nil' Qf G1),(RS.nil' QI G1),(RS.nil' Wi G1),‹_›,(RS.nil' Ki G1),(RS.nil' Q0 G1),rfl⟩
 try simp only [BB] at h3
 refine Jm (Ja (Je ?_))
 refine Jg [0,0] [(1,Sl a_l l.length c_l),(4,Pt b2 0),(7,Pt b3 0),(8,I 0),(24,Bo false)] ?_
 refine Qm ?_
 refine Jm (Ja (Je ?_))
 refine Jg [0,0,0] [(4,Pt b2 0),(7,Pt b3 0),(27,Sl a_l l.length c_l),(28,I (l.length:Int)),(29,I 0)] (Jy ?_)
 have hlm_h_l:l.length≤9223372036854775807:=Nat.le_trans (h_l).le (h_l).max
 refine Qb (σ:=Nat×JG×Option Addr×Nat×Option Addr×Nat×Option Addr×Nat×Option Addr×Nat×List Kq×Option Addr×Nat×List Kq×Option Addr×Nat×Option Addr×Nat×List Kq×Option Addr×Nat×List Kq×Jt) (fun q_=>(Jt.le G1 q_.2.2.2.2.2.2.2.2.2.2.2.2.2.2.2.2.2.2.2.2.2.2)∧(q_.1≤l.length)∧(RS QO q_.2.2.2.2.2.2.2.2.2.2.2.2.2.2.2.2.2.2.2.2.2.2 q_.2.2.1 q_.2.2.2.1 q_.2.1.town.clerk.queue.wait)∧(RS KA q_.2.2.2.2.2.2.2.2.2.2.2.2.2.2.2.2.2.2.2.2.2.2 q_.2.2.2.2.1 q_.2.2.2.2.2.1 q_.2.1.town.clerk.heads)∧(RS Qf q_.2.2.2.2.2.2.2.2.2.2.2.2.2.2.2.2.2.2.2.2.2.2 q_.2.2.2.2.2.2.1 q_.2.2.2.2.2.2.2.1 q_.2.1.town.clerk.books)∧(J8 QI q_.2.2.2.2.2.2.2.2.2.2.2.2.2.2.2.2.2.2.2.2.2.2 q_.2.2.2.2.2.2.2.2.1 q_.2.2.2.2.2.2.2.2.2.1 q_.2.1.town.owners q_.2.2.2.2.2.2.2.2.2.2.1)∧(J8 Wi q_.2.2.2.2.2.2.2.2.2.2.2.2.2.2.2.2.2.2.2.2.2.2 q_.2.2.2.2.2.2.2.2.2.2.2.1 q_.2.2.2.2.2.2.2.2.2.2.2.2.1 q_.2.1.town.polls q_.2.2.2.2.2.2.2.2.2.2.2.2.2.1)∧(RS Ki q_.2.2.2.2.2.2.2.2.2.2.2.2.2.2.2.2.2.2.2.2.2.2 q_.2.2.2.2.2.2.2.2.2.2.2.2.2.2.1 q_.2.2.2.2.2.2.2.2.2.2.2.2.2.2.2.1 q_.2.1.town.net.way)∧(J8 YG q_.2.2.2.2.2.2.2.2.2.2.2.2.2.2.2.2.2.2.2.2.2.2 q_.2.2.2.2.2.2.2.2.2.2.2.2.2.2.2.2.1 q_.2.2.2.2.2.2.2.2.2.2.2.2.2.2.2.2.2.1 q_.2.1.fates q_.2.2.2.2.2.2.2.2.2.2.2.2.2.2.2.2.2.2.1)∧(J8 Q0 q_.2.2.2.2.2.2.2.2.2.2.2.2.2.2.2.2.2.2.2.2.2.2 q_.2.2.2.2.2.2.2.2.2.2.2.2.2.2.2.2.2.2.2.1 q_.2.2.2.2.2.2.2.2.2.2.2.2.2.2.2.2.2.2.2.2.1 q_.2.1.events q_.2.2.2.2.2.2.2.2.2.2.2.2.2.2.2.2.2.2.2.2.2.1)∧(rI q_.2.1.town.clerk.queue.most)∧(rI q_.2.1.town.clerk.batch)∧(rI q_.2.1.town.clerk.every)∧(rI q_.2.1.town.clerk.now)∧(rI q_.2.1.town.net.now)∧(rI q_.2.1.reach)∧(q_.2.1=Y0 (Qa s) (l.take q_.1))) (fun q_=>[(4,Pt b2 0),(7,Pt b3 0),(27,Sl a_l l.length c_l),(28,I (l.length:Int)),(29,I (q_.1:Int))]) (fun q_=>q_.2.2.2.2.2.2.2.2.2.2.2.2.2.2.2.2.2.2.2.2.2.2) (fun q_=>[[Sg b3 0 (JR q_.2.1 q_.2.2.1 q_.2.2.2.1 q_.2.2.2.2.1 q_.2.2.2.2.2.1 q_.2.2.2.2.2.2.1 q_.2.2.2.2.2.2.2.1 q_.2.2.2.2.2.2.2.2.1 q_.2.2.2.2.2.2.2.2.2.1 q_.2.2.2.2.2.2.2.2.2.2.2.1 q_.2.2.2.2.2.2.2.2.2.2.2.2.1 q_.2.2.2.2.2.2.2.2.2.2.2.2.2.2.1 q_.2.2.2.2.2.2.2.2.2.2.2.2.2.2.2.1 q_.2.2.2.2.2.2.2.2.2.2.2.2.2.2.2.2.1 q_.2.2.2.2.2.2.2.2.2.2.2.2.2.2.2.2.2.1 q_.2.2.2.2.2.2.2.2.2.2.2.2.2.2.2.2.2.2.2.1 q_.2.2.2.2.2.2.2.2.2.2.2.2.2.2.2.2.2.2.2.2.1)],q_.2.2.2.2.2.2.2.2.2.2.1,q_.2.2.2.2.2.2.2.2.2.2.2.2.2.1,q_.2.2.2.2.2.2.2.2.2.2.2.2.2.2.2.2.2.2.1,q_.2.2.2.2.2.2.2.2.2.2.2.2.2.2.2.2.2.2.2.2.2.1,[Sg b2 0 [I 0,Sl none 0 0,I 0,I 0,I 0,Sl none 0 0,Sl none 0 0,Sl none 0 0,Sl none 0 0,I 0,Sl none 0 0]],[Sg b1 0 (Ww s a1 c1 a2 c2)]]) (fun q_=>l.length-q_.1) (0,(Qa s),a3,c3,a4,c4,a5,c5,a6,c6,r1,a7,c7,r2,a8,c8,a9,c9,r3,a10,c10,r4,G1) ⟨(Jt.le_refl _),(by (try dsimp only);exact Nat.zero_le _),hs3,hs4,hs5,hr1,hr2,hs6,hr3,hr4,w8,w9,w10,w11,w12,w13,(by (try dsimp only);rfl)⟩ (fun q_ hs=>?_)
 obtain ⟨i,jt,ajt0,cjt0,ajt1,cjt1,ajt2,cjt2,ajt3,cjt3,rjt7,ajt4,cjt4,rjt8,ajt5,cjt5,ajt6,cjt6,rjt12,ajt7,cjt7,rjt13,g⟩:=q_
 obtain ⟨hle,hi,hjt1,hjt5,hjt6,hjt7,hjt8,hjt10,hjt12,hjt13,hjt0,hjt2,hjt3,hjt4,hjt9,hjt11,hJ⟩:=hs
 dsimp only at hle hi hjt1 hjt5 hjt6 hjt7 hjt8 hjt10 hjt12 hjt13 hjt0 hjt2 hjt3 hjt4 hjt9 hjt11 hJ
 refine KJ (fr':=[(4,Pt b2 0),(7,Pt b3 0),(27,Sl a_l l.length c_l),(28,I (l.length:Int)),(29,I (i:Int))]) (L':=[[Sg b3 0 (JR jt ajt0 cjt0 ajt1 cjt1 ajt2 cjt2 ajt3 cjt3 ajt4 cjt4 ajt5 cjt5 ajt6 cjt6 ajt7 cjt7)],rjt7,rjt8,rjt12,rjt13,[Sg b2 0 [I 0,Sl none 0 0,I 0,I 0,I 0,Sl none 0 0,Sl none 0 0,Sl none 0 0,Sl none 0 0,I 0,Sl none 0 0]],[Sg b1 0 (Ww s a1 c1 a2 c2)]]) rfl rfl ?_
 refine Jg [0] [(4,Pt b2 0),(7,Pt b3 0),(27,Sl a_l l.length c_l),(28,I (l.length:Int)),(29,I (i:Int)),(30,Bo (decide ((i:Int)<(l.length:Int))))] (Je ?_)
 refine Jo (decide ((i:Int)<(l.length:Int))) (fun h4=>?_) (fun h4=>?_)
 try simp only [BB] at h4
 refine Jm (Ja (Je (Jy (Je (Jb ?_)))))
 obtain ⟨b4,o1,rfl⟩:=RS.addr (h_l.mono (Jt.le_trans hl1 hle)) (k:=i) (by omega)
 obtain ⟨x1,hx1⟩:=Q8 (l:=l) (k:=i) (by omega)
 obtain ⟨_,⟨a11,c11,a12,c12,a13,c13,a14,c14,rfl,w14,w15,w16,hs7,w17,w18,w19,w20,hs8,w21,w22,w23,w24,w25,hs9,hs10⟩,hc1⟩:=RS.get (h_l.mono (Jt.le_trans hl1 hle)) hx1
 refine Kh (b:=b4) (off:=o1) (len:=l.length) (cap:=c_l) (ik:=.i64) 31 74 16 i (by omega) ?_
 refine J9 32 74 (cs:=(Wp x1 a11 c11 a12 c12 a13 c13 a14 c14)) 0 (Jcx x1 a11 c11 a12 c12 a13 c13 a14 c14) hc1 ?_
 refine Ju 10 #[I 0,I 0,Sr ([]),Sl none 0 0,I 0,I 0,I 0,I 0,Sl none 0 0,I 0,U 0,U 0,I 0,Sr ([]),Sl none 0 0,Sl none 0 0] 74 (fun b5=>?_)
 refine Kb [3] [(4,Pt b2 0),(7,Pt b3 0),(10,Pt b5 0),(27,Sl (At b4 o1) l.length c_l),(28,I (l.length:Int)),(29,I (i:Int))] [[Sg b5 0 (Wp x1 a11 c11 a12 c12 a13 c13 a14 c14)],[Sg b3 0 (JR jt ajt0 cjt0 ajt1 cjt1 ajt2 cjt2 ajt3 cjt3 ajt4 cjt4 ajt5 cjt5 ajt6 cjt6 ajt7 cjt7)],rjt7,rjt8,rjt12,rjt13,[Sg b2 0 [I 0,Sl none 0 0,I 0,I 0,I 0,Sl none 0 0,Sl none 0 0,Sl none 0 0,Sl none 0 0,I 0,Sl none 0 0]],[Sg b1 0 (Ww s a1 c1 a2 c2)]] (Jd (Ja (Jb ?_)))
 refine Jc [0,2] [(4,Pt b2 0),(7,Pt b3 0),(27,Sl (At b4 o1) l.length c_l),(28,I (l.length:Int)),(29,I (i:Int)),(33,Pt b3 0),(34,(Jcx x1 a11 c11 a12 c12 a13 c13 a14 c14))] ?_
 refine JF 5 ?_
 refine JF 5 ?_
 refine JF 5 ?_
 refine JF 5 ?_
 refine JF 5 ?_
 refine Qk (Ls:=[[Sg b3 0 (JR jt ajt0 cjt0 ajt1 cjt1 ajt2 cjt2 ajt3 cjt3 ajt4 cjt4 ajt5 cjt5 ajt6 cjt6 ajt7 cjt7)],rjt7,rjt8,rjt12,rjt13]) (Lr:=[[Sg b5 0 (Wp x1 a11 c11 a12 c12 a13 c13 a14 c14)],[Sg b2 0 [I 0,Sl none 0 0,I 0,I 0,I 0,Sl none 0 0,Sl none 0 0,Sl none 0 0,Sl none 0 0,I 0,Sl none 0 0]],[Sg b1 0 (Ww s a1 c1 a2 c2)]]) 35 (JlG g b3 jt ajt0 cjt0 ajt1 cjt1 ajt2 cjt2 ajt3 cjt3 ajt4 cjt4 ajt5 cjt5 ajt6 cjt6 ajt7 cjt7 rjt7 rjt8 rjt12 rjt13 hjt0 hjt1 hjt2 hjt3 hjt4 hjt5 hjt6 hjt7 hjt8 hjt9 hjt10 hjt11 hjt12 hjt13 (Wp x1 a11 c11 a12 c12 a13 c13 a14 c14) x1 (⟨a11,c11,a12,c12,a13,c13,a14,c14,rfl,w14,w15,w16,hs7,w17,w18,w19,w20,hs8,w21,w22,w23,w24,w25,hs9,hs10⟩) (by exact (JeV hbe hJ).1) (by (have q_:=(JeV hbe hJ);omega)) (by (have q_:=(JeV hbe hJ);omega))) (fun v G2 L1 hl2 hp=>?_)
 obtain ⟨a15,c15,a16,c16,a17,c17,a18,c18,a19,c19,a20,c20,a21,c21,a22,c22,r5,r6,r7,r8,rfl,_,hs11,_,_,_,hs12,hs13,hr5,hr6,_,hs14,_,hr7,hr8,rfl⟩:=hp
 refine Jd (JK (Ja (Jb ?_)))
 refine Jc [0,0] [(4,Pt b2 0),(7,Pt b3 0),(27,Sl (At b4 o1) l.length c_l),(28,I (l.length:Int)),(29,I (IntKind.i64.wrap ((i:Int)+1)))] ?_
 have e1:IntKind.i64.wrap ((i:Int)+1)=(i:Int)+1:=IntWalk.i64_in _ (by omega)
 refine J2 (fr':=[(4,Pt b2 0),(7,Pt b3 0),(27,Sl (At b4 o1) l.length c_l),(28,I (l.length:Int)),(29,I ((i:Int)+1))]) (L':=[[Sg b3 0 [I ((ZC jt x1).town.clerk.queue.most),Sl a15 (((ZC jt x1).town.clerk.queue.wait).length) c15,I ((ZC jt x1).town.clerk.batch),I ((ZC jt x1).town.clerk.every),I ((ZC jt x1).town.clerk.now),Sl a16 (((ZC jt x1).town.clerk.heads).length) c16,Sl a17 (((ZC jt x1).town.clerk.books).length) c17,Sl a18 (((ZC jt x1).town.owners).length) c18,Sl a19 (((ZC jt x1).town.polls).length) c19,I ((ZC jt x1).town.net.now),Sl a20 (((ZC jt x1).town.net.way).length) c20,I ((ZC jt x1).reach),Sl a21 (((ZC jt x1).fates).length) c21,Sl a22 (((ZC jt x1).events).length) c22]],r5,r6,r7,r8,[Sg b5 0 [I x1.kind,I x1.who,Sr x1.value,Sl a11 x1.fates.length c11,I x1.letter.to_,I x1.letter.from_,I x1.letter.since,I x1.letter.due,Sl a12 x1.letter.heads.length c12,I x1.letter.reply.head.epoch,U x1.letter.reply.head.root,U x1.letter.reply.head.prev,I x1.letter.reply.head.at_,Sr x1.letter.reply.proof.name,Sl a13 x1.letter.reply.proof.entries.length c13,Sl a14 x1.letter.reply.proof.sides.length c14]],[Sg b2 0 [I 0,Sl none 0 0,I 0,I 0,I 0,Sl none 0 0,Sl none 0 0,Sl none 0 0,Sl none 0 0,I 0,Sl none 0 0]],[Sg b1 0 [Sl a1 s.names.length c1,Sl a2 s.keys.length c2,I s.most,I s.batch,I s.every,I s.least,I s.top,I s.lost,I s.reach]]]) (by simp only [Wp,Ww,Jbt,JR,Jcx,YZ,Vp,e1];first | done | rfl) (by rfl) ?_
 clear e1
 refine Jd ?_
 refine Jj 7 ?_
 refine Jj 7 ?_
 refine Jj 6 ?_
 refine Jj 6 ?_
 refine Jj 6 ?_
 refine Jj 6 ?_
 refine Jj 6 ?_
 refine QY [[Sg b3 0 (JR (ZC jt x1) a15 c15 a16 c16 a17 c17 a18 c18 a19 c19 a20 c20 a21 c21 a22 c22)],r5,r6,r7,r8,[Sg b2 0 [I 0,Sl none 0 0,I 0,I 0,I 0,Sl none 0 0,Sl none 0 0,Sl none 0 0,Sl none 0 0,I 0,Sl none 0 0]],[Sg b1 0 (Ww s a1 c1 a2 c2)]] (.cons_cons _ (.cons_cons _ (.cons_cons _ (.cons_cons _ (.cons_cons _ (.cons_cons _ (.cons_cons _ (.cons _ .slnil)))))))) ?_
 exact Qd (i+1,(ZC jt x1),a15,c15,a16,c16,a17,c17,a18,c18,r5,a19,c19,r6,a20,c20,a21,c21,r7,a22,c22,r8,G2) ⟨(Jt.le_trans hle hl2),(by omega),hs11,hs12,hs13,hr5,hr6,hs14,hr7,hr8,‹_›,‹_›,‹_›,‹_›,‹_›,‹_›,(by (try dsimp only);rw [← Jju hx1,← hJ])⟩ (by (try dsimp only);omega)
 try simp only [BB] at h4
 refine KU (J3 (Ke (JW (Ja (Je ?_)))))
 refine Kw [8] ?_
 refine Wa [(0,Pt b3 0),(1,Pt b3 0),(2,Pt b3 0),(3,(Vp jt.town ajt0 cjt0 ajt1 cjt1 ajt2 cjt2 ajt3 cjt3 ajt4 cjt4 ajt5 cjt5)),(4,Pt b3 0),(5,Pt b3 0),(6,Pt b3 13),(7,Sl ajt7 jt.events.length cjt7)] ?_
 refine JZ [] [(0,0),(1,0),(2,0),(3,2),(4,0),(5,0),(6,0),(7,2)] [] [8] (List.forall_mem_nil _) (List.forall_mem_cons.2 ⟨?_,List.forall_mem_nil _⟩)
 refine JO 8 [(4,Pt b2 0),(40,(Vp jt.town ajt0 cjt0 ajt1 cjt1 ajt2 cjt2 ajt3 cjt3 ajt4 cjt4 ajt5 cjt5))] (fun X=>?_)
 refine KQ 5 [[Sg b3 0 (JR jt ajt0 cjt0 ajt1 cjt1 ajt2 cjt2 ajt3 cjt3 ajt4 cjt4 ajt5 cjt5 ajt6 cjt6 ajt7 cjt7)],rjt7,rjt8,rjt12,rjt13,[Sg b2 0 (Jbt jt.town ajt0 cjt0 ajt1 cjt1 ajt2 cjt2 ajt3 cjt3 ajt4 cjt4 ajt5 cjt5)],[Sg b1 0 (Ww s a1 c1 a2 c2)]] ?_
 refine Kj [(9,Sl ajt7 jt.events.length cjt7),(10,I 0)] ?_
 refine Kv [0,1,2,3] [(4,0),(5,0),(6,0),(7,2),(9,0),(10,0)] [] [(4,Pt b2 0),(5,Sl ajt7 jt.events.length cjt7),(6,I 0)] (List.forall_mem_nil _) ?_
 refine Ja (Jk ?_)
 refine We (E:=QI) 1 hjt7 (by have q_:=(JeV hbe hJ);have q1_:=q_.1.len;have q2_:=q_.1.polls;simp only [QI,Wi,Q0];omega) (fun G3 hl3 hs15=>?_)
 refine We (E:=Wi) 2 (hjt8.mono hl3) (by have q_:=(JeV hbe hJ);have q1_:=q_.1.len;have q2_:=q_.1.polls;simp only [QI,Wi,Q0];omega) (fun G4 hl4 hs16=>?_)
 refine We (E:=Q0) 4 (hjt13.mono (Jt.le_trans hl3 hl4)) (by have q_:=(JeV hbe hJ);have q1_:=q_.1.len;have q2_:=q_.1.polls;simp only [QI,Wi,Q0];omega) (fun G5 hl5 hs17=>?_)
 have hf4:JC s l=(jt.town,jt.events,0):=by
  (rw [Jld ‹_› (by omega) hJ (by omega)];done)
 refine Jl [5,0,0] [(Vp jt.town ajt0 cjt0 ajt1 cjt1 ajt2 cjt2 ajt3 cjt3 ajt4 cjt4 ajt5 cjt5),Sl ajt7 jt.events.length cjt7,I 0] (JY [] (.cons _ (.cons _ (.cons _ (.cons _ (.cons _ (.cons _ (.cons _ .slnil))))))) (Jt.le_trans (Jt.le_trans (Jt.le_trans (Jt.le_trans hl1 hle) hl3) hl4) hl5) ?_)
 rw [hf4]
 try dsimp only
 exact ⟨ajt0,cjt0,ajt1,cjt1,ajt2,cjt2,ajt3,cjt3,ajt4,cjt4,ajt5,cjt5,ajt7,cjt7,rfl,hjt0,(hjt1.mono (Jt.le_trans (Jt.le_trans hl3 hl4) hl5)),hjt2,hjt3,hjt4,(hjt5.mono (Jt.le_trans (Jt.le_trans hl3 hl4) hl5)),(hjt6.mono (Jt.le_trans (Jt.le_trans hl3 hl4) hl5)),(hs15.mono (Jt.le_trans hl4 hl5)),(hs16.mono hl5),hjt9,(hjt10.mono (Jt.le_trans (Jt.le_trans hl3 hl4) hl5)),hs17,rfl⟩
end Go.Proofs.YtnnlpbjdignhaaaGreatDoor
