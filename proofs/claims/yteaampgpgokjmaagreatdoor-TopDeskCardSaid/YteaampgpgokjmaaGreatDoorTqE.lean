import Derived.Test.YteaampgpgokjmaaGreatDoorTqD
set_option linter.unusedVariables false
set_option linter.unusedSimpArgs false
namespace Go.Proofs.YteaampgpgokjmaaGreatDoor
open Go.Tx
open Go.Proofs
open _root_.List renaming forall_mem_nil → Ha, length_set → Hd
open IntKind renaming i64 → Hb
open _root_.Nat renaming le_of_ble_eq_true → Hc
open IntWalk renaming i64_in → He
theorem JcE {t:JK} {l:JQ} (h:t.town.clerk.heads.length≤9000000000000000000) (hr:1≤t.reach∧t.reach≤40):0≤WZ t l∧WZ t l≤9000000000000000000∧-1≤Vx t l∧Vx t l≤9000000000000000000∧-1≤W5 t∧W5 t≤9000000000000000000:=by
 unfold Vx WZ W5 minI maxI
 (repeat' split) <;> omega
structure JhL (p:Wl):Prop where
 least:-9223372036854775808≤p.least∧p.least<9223372036854775808
 most:-9223372036854775808≤p.most∧p.most<9223372036854775808
 lost:-9223372036854775808≤p.lost∧p.lost<9223372036854775808
 gap:-9223372036854775808≤p.gap∧p.gap<9223372036854775808
 next:-9223372036854775808≤p.next∧p.next<9223372036854775808
 asked:-9223372036854775808≤p.asked∧p.asked<9223372036854775808
theorem JhL.ok {p:Wl} (h:Vr p):JhL p:=by
 unfold Vr at h
 refine ⟨?_,?_,?_,?_,?_,?_⟩ <;> omega
theorem JiG:JhL VT:=⟨by decide,by decide,by decide,by decide,by decide,by decide⟩
theorem Jai (p:Wl) (now:Int):JhL (KP p now).1:=by
 by_cases h:(KP p now).2=0
 · exact .ok ((ZK _).1 (Je8 h).2.2.2.2.2.2.2.2.2.2.2.2.2.2.1)
 · rw [JiD h];exact JiG
theorem JcF (p:Wl) (now:Int):JhL (Wh p now).1:=by
 by_cases h:(Wh p now).2=0
 ·
  obtain ⟨q,_⟩:=JiE h
  obtain ⟨q1,q2,q3⟩:=(Jdj p now).1 q
  exact .ok ((ZK _).1 (Jfd ((ZK _).2 q1) q2 q3))
 ·
  have e:(Wh p now).1=VT:=by revert h;unfold Wh;split <;> simp
  rw [e];exact JiG
theorem JpE {t:JK} {l:JQ} (h:Zo t l.from_=false):Ql t l=t:=by unfold Ql;rw [if_pos h]
theorem JpF {t:JK} {l:JQ} (h:Zo t l.from_=true):Ql t l=Wt t ⟨l.from_,0,0,0,(ZR t.town.clerk (WZ t l) (Vx t l)).1,(JH t.town.clerk (Jt t l.from_).name (Vx t l)).1⟩:=by unfold Ql;rw [if_neg (by rw [h];simp)]
theorem JpG {t:JK} {l:JQ} {k:Int} (e:l.from_=k) (h:Zo t l.from_=true):Ql t l=Wt t ⟨k,0,0,0,(ZR t.town.clerk (WZ t l) (Vx t l)).1,(JH t.town.clerk (Jt t k).name (Vx t l)).1⟩:=by subst e;exact JpF h
theorem Jmt {t:JK} {l:JQ} {k:Nat} (e:l.to_=(k:Int)):Yj t l=⟨⟨t.town.clerk,t.town.owners.set k (JD (Jt t (k:Int)) l.heads l.reply).1,if (JD (Jt t (k:Int)) l.heads l.reply).2.1=0∨(JD (Jt t (k:Int)) l.heads l.reply).2.1=1 then t.town.polls.set k (Wh (QC t (k:Int)) t.town.clerk.now).1 else t.town.polls,t.town.net⟩,t.reach,t.fates,t.events++[⟨2,(k:Int),(JD (Jt t (k:Int)) l.heads l.reply).2.1,(JD (Jt t (k:Int)) l.heads l.reply).1.head.epoch⟩]⟩:=by
 unfold Yj;rw [e];rfl
theorem tAsk0 {t:JK} {k:Int} (h:¬ (KP (QC t k) t.town.clerk.now).2=0):Zv t k=t:=by unfold Zv;rw [if_pos h]
theorem tAsk1 {t:JK} {k:Int} (h:(KP (QC t k) t.town.clerk.now).2=0) (h1:(Wu (KP (QC t k) t.town.clerk.now).1).1=true∧(Wu (QC t k)).1=false):Zv t k=Wg (Ja3 t k) 3 k 0 t.town.clerk.now:=by
 have h2:Jbr (KP (QC t k) t.town.clerk.now).1=true∧Jbr (QC t k)=false:=h1
 unfold Zv;rw [if_neg (by simpa using h),if_pos h2]
theorem tAsk2 {t:JK} {k:Int} (h:(KP (QC t k) t.town.clerk.now).2=0) (h1:(Wu (KP (QC t k) t.town.clerk.now).1).1=true→(Wu (QC t k)).1=true):Zv t k=Ja3 t k:=by
 unfold Zv;rw [if_neg (by simpa using h),if_neg]
 rintro ⟨q1,q2⟩
 have:=h1 q1
 have e:Jbr (QC t k)=true:=this
 rw [e] at q2;cases q2
theorem JqR (o:Qh) (l:List JV) (r:QL):-9223372036854775808≤(JD o l r).2.1∧(JD o l r).2.1<9223372036854775808:=by
 have hv:0≤(J2 o l r).1∧(J2 o l r).1≤6:=by
  unfold J2 K9
  (repeat' split) <;> simp_all <;> omega
 unfold JD
 (repeat' split) <;> simp only <;> omega
set_option maxRecDepth 20000 in
abbrev W3 (kn1:Nat) (l:JQ) (t:JK):=JH t.town.clerk ((Jt t (kn1:Int)).name) (Vx t l)
abbrev JbR (l:JQ) (t:JK):=ZR t.town.clerk (WZ t l) (Vx t l)
abbrev JiH (kn1:Nat) (l:JQ):=(⟨l.to_,(kn1:Int),l.since,l.due,l.heads,l.reply⟩:JQ)
theorem JjW (G:J4) (b:Nat) (t:JK) (a_1:Ba) (c_1:Nat) (a_5:Ba) (c_5:Nat) (a_6:Ba) (c_6:Nat) (a_7:Ba) (c_7:Nat) (a_8:Ba) (c_8:Nat) (a_10:Ba) (c_10:Nat) (a_12:Ba) (c_12:Nat) (a_13:Ba) (c_13:Nat) (r_7:Bg) (r_8:Bg) (r_12:Bg) (r_13:Bg) (h_0:rI t.town.clerk.queue.most) (h_1:RS Q4 G a_1 c_1 t.town.clerk.queue.wait) (h_2:rI t.town.clerk.batch) (h_3:rI t.town.clerk.every) (h_4:rI t.town.clerk.now) (h_5:RS KG G a_5 c_5 t.town.clerk.heads) (h_6:RS Qi G a_6 c_6 t.town.clerk.books) (h_7:J0 QG G a_7 c_7 t.town.owners r_7) (h_8:J0 Wp G a_8 c_8 t.town.polls r_8) (h_9:rI t.town.net.now) (h_10:RS Kg G a_10 c_10 t.town.net.way) (h_11:rI t.reach) (h_12:J0 VA G a_12 c_12 t.fates r_12) (h_13:J0 QR G a_13 c_13 t.events r_13) (vs_l:Bv) (l:JQ) (h_l:Kg.R G vs_l l) (hreach:1≤t.reach∧t.reach≤40):JcQ 112 #[Pt b 0,.agg vs_l.toArray] G [[Sg b 0 [I t.town.clerk.queue.most,Sl a_1 t.town.clerk.queue.wait.length c_1,I t.town.clerk.batch,I t.town.clerk.every,I t.town.clerk.now,Sl a_5 t.town.clerk.heads.length c_5,Sl a_6 t.town.clerk.books.length c_6,Sl a_7 t.town.owners.length c_7,Sl a_8 t.town.polls.length c_8,I t.town.net.now,Sl a_10 t.town.net.way.length c_10,I t.reach,Sl a_12 t.fates.length c_12,Sl a_13 t.events.length c_13]],r_7,r_8,r_12,r_13] (fun u G' L'=>∃ (a_z1:Ba) (c_z1:Nat) (a_z5:Ba) (c_z5:Nat) (a_z6:Ba) (c_z6:Nat) (a_z7:Ba) (c_z7:Nat) (a_z8:Ba) (c_z8:Nat) (a_z10:Ba) (c_z10:Nat) (a_z12:Ba) (c_z12:Nat) (a_z13:Ba) (c_z13:Nat) (r_z7:Bg) (r_z8:Bg) (r_z12:Bg) (r_z13:Bg),u=.tuple #[]∧(rI ((Ql t l).town.clerk.queue.most))∧(RS Q4 G' a_z1 c_z1 ((Ql t l).town.clerk.queue.wait))∧(rI ((Ql t l).town.clerk.batch))∧(rI ((Ql t l).town.clerk.every))∧(rI ((Ql t l).town.clerk.now))∧(RS KG G' a_z5 c_z5 ((Ql t l).town.clerk.heads))∧(RS Qi G' a_z6 c_z6 ((Ql t l).town.clerk.books))∧(J0 QG G' a_z7 c_z7 ((Ql t l).town.owners) r_z7)∧(J0 Wp G' a_z8 c_z8 ((Ql t l).town.polls) r_z8)∧(rI ((Ql t l).town.net.now))∧(RS Kg G' a_z10 c_z10 ((Ql t l).town.net.way))∧(rI ((Ql t l).reach))∧(J0 VA G' a_z12 c_z12 ((Ql t l).fates) r_z12)∧(J0 QR G' a_z13 c_z13 ((Ql t l).events) r_z13)∧L'=[[Sg b 0 [I ((Ql t l).town.clerk.queue.most),Sl a_z1 (((Ql t l).town.clerk.queue.wait).length) c_z1,I ((Ql t l).town.clerk.batch),I ((Ql t l).town.clerk.every),I ((Ql t l).town.clerk.now),Sl a_z5 (((Ql t l).town.clerk.heads).length) c_z5,Sl a_z6 (((Ql t l).town.clerk.books).length) c_z6,Sl a_z7 (((Ql t l).town.owners).length) c_z7,Sl a_z8 (((Ql t l).town.polls).length) c_z8,I ((Ql t l).town.net.now),Sl a_z10 (((Ql t l).town.net.way).length) c_z10,I ((Ql t l).reach),Sl a_z12 (((Ql t l).fates).length) c_z12,Sl a_z13 (((Ql t l).events).length) c_z13]],r_z7,r_z8,r_z12,r_z13]):=by
 obtain ⟨a1,c1,a2,c2,a3,c3,rfl,_,_,_,_,_,_,_,_,_,_,_,_⟩:=h_l
 intro Lr
 refine JS Tryz.func112 76 [(0,Pt b 0),(1,(Q9 l a1 c1 a2 c2 a3 c3))] rfl (fun w0 G0=>?_)
 show TC _ _ _ _ _ ([Sg b 0 (J7 t a_1 c_1 a_5 c_5 a_6 c_6 a_7 c_7 a_8 c_8 a_10 c_10 a_12 c_12 a_13 c_13)]::r_7::r_8::r_12::r_13::Lr)
 refine Jf (Jd (Jv 3 #[I l.to_,I l.from_,I l.since,I l.due,Sl a1 l.heads.length c1,I l.reply.head.epoch,U l.reply.head.root,U l.reply.head.prev,I l.reply.head.at_,Sr l.reply.proof.name,Sl a2 l.reply.proof.entries.length c2,Sl a3 l.reply.proof.sides.length c3] 51 (fun b1=>Je (Jc (Jf (Jf (Jd (Jb [0,0,2] [(11,Pt b 0),(13,I l.from_)] (Jw 5 (Jw 5 (Jw 5 (Jw 5 (Jw 5 (Qq (Ls:=[[Sg b 0 (J7 t a_1 c_1 a_5 c_5 a_6 c_6 a_7 c_7 a_8 c_8 a_10 c_10 a_12 c_12 a_13 c_13)],r_7,r_8,r_12,r_13]) (Lr:=([Sg b1 0 (Kv l a1 c1 a2 c2 a3 c3)]::Lr)) 14 (Jcn G b t a_1 c_1 a_5 c_5 a_6 c_6 a_7 c_7 a_8 c_8 a_10 c_10 a_12 c_12 a_13 c_13 r_7 r_8 r_12 r_13 h_0 h_1 h_2 h_3 h_4 h_5 h_6 h_7 h_8 h_9 h_10 h_11 h_12 h_13 l.from_) (fun v G1 L1 hl1 hp=>?_)))))))))))))))
 obtain ⟨a4,c4,a5,c5,a6,c6,a7,c7,a8,c8,a9,c9,a10,c10,a11,c11,r1,r2,r3,r4,rfl,w10,hs4,w11,w12,w13,hs5,hs6,hr1,hr2,w14,hs7,w15,hr3,hr4,rfl⟩:=hp
 refine Jb [0] [(15,Bo (!(Zo t l.from_)))] (Je (Jc (Jm (!(Zo t l.from_)) (fun h1=>?_) (fun h1=>?_))))
 refine Jo (Jj (Jk 4 (Jk 4 (Jk 4 (Jk 4 (Jk 4 ?_))))))
 have hf1:Ql t l=t:=by
  exact JpE ‹_›
 refine Jp [] [] (KQ (Lr:=Lr) [[Sg b 0 (J7 t a4 c4 a5 c5 a6 c6 a7 c7 a8 c8 a9 c9 a10 c10 a11 c11)],r1,r2,r3,r4] hl1 ?_)
 rw [hf1];try dsimp only
 exact ⟨a4,c4,a5,c5,a6,c6,a7,c7,a8,c8,a9,c9,a10,c10,a11,c11,r1,r2,r3,r4,rfl,w10,hs4,w11,w12,w13,hs5,hs6,hr1,hr2,w14,hs7,w15,hr3,hr4,rfl⟩
 refine Jq (Jc ?_)
 have hown:=V1.1 (show Zo t l.from_=true by assumption)
 obtain ⟨kn1,hkn1⟩:∃ k_:Nat,l.from_=(k_:Int):=⟨(l.from_).toNat,by omega⟩
 have e1:l.from_=(kn1:Int):=hkn1
 refine Jc7 (L':=([Sg b 0 [I t.town.clerk.queue.most,Sl a4 t.town.clerk.queue.wait.length c4,I t.town.clerk.batch,I t.town.clerk.every,I t.town.clerk.now,Sl a5 t.town.clerk.heads.length c5,Sl a6 t.town.clerk.books.length c6,Sl a7 t.town.owners.length c7,Sl a8 t.town.polls.length c8,I t.town.net.now,Sl a9 t.town.net.way.length c9,I t.reach,Sl a10 t.fates.length c10,Sl a11 t.events.length c11]]::r1::r2::r3::r4::[Sg b1 0 [I l.to_,I (kn1:Int),I l.since,I l.due,Sl a1 l.heads.length c1,I l.reply.head.epoch,U l.reply.head.root,U l.reply.head.prev,I l.reply.head.at_,Sr l.reply.proof.name,Sl a2 l.reply.proof.entries.length c2,Sl a3 l.reply.proof.sides.length c3]]::Lr)) (by (simp only [KX,Kv,KT,ZO,J7,QH,Q9,W2,e1];first | done | rfl)) (Jg [0,0,0,0,0,2,0,0,0] [(4,I (Hb.wrap ((t.town.clerk.heads.length:Int)-1)))] (JlH 4 ((t.town.clerk.heads.length:Int)-1) (by (have q_:=(JcE (l:=l) (by have q_:=h_5.fit;simp only [KG] at q_;omega) hreach);have q2_:=h_5.fit;simp only [KG] at q2_;omega)) ?_))
 have e2:(t.town.clerk.heads.length:Int)-1=W5 t:=rfl
 refine Wa 4 (I (W5 t)) (congrArg I e2) (Jg [0,12,0,0,0,0] [(5,I (if 0 > (if (W5 t)<l.since then (W5 t) else l.since) then 0 else (if (W5 t)<l.since then (W5 t) else l.since)))] ?_)
 have e3:(if 0 > (if (W5 t)<l.since then (W5 t) else l.since) then 0 else (if (W5 t)<l.since then (W5 t) else l.since))=WZ t l:=rfl
 refine Wa 5 (I (WZ t l)) (congrArg I e3) (Jg [0,0,0,0,2,0,0,0,0,0] [(6,I (if (W5 t)<(Hb.wrap ((Hb.wrap ((WZ t l)+t.reach))-1)) then (W5 t) else (Hb.wrap ((Hb.wrap ((WZ t l)+t.reach))-1))))] ?_)
 have e4:Hb.wrap ((WZ t l)+t.reach)=(WZ t l)+t.reach:=He _ (by (have q_:=(JcE (l:=l) (by have q_:=h_5.fit;simp only [KG] at q_;omega) hreach);have q2_:=h_5.fit;simp only [KG] at q2_;omega))
 have e5:Hb.wrap (((WZ t l)+t.reach)-1)=((WZ t l)+t.reach)-1:=He _ (by (have q_:=(JcE (l:=l) (by have q_:=h_5.fit;simp only [KG] at q_;omega) hreach);have q2_:=h_5.fit;simp only [KG] at q2_;omega))
 refine Wa 6 (I (if (W5 t)<(((WZ t l)+t.reach)-1) then (W5 t) else (((WZ t l)+t.reach)-1))) (show (I (if (W5 t)<(Hb.wrap ((Hb.wrap ((WZ t l)+t.reach))-1)) then (W5 t) else (Hb.wrap ((Hb.wrap ((WZ t l)+t.reach))-1))):Value)=I (if (W5 t)<(((WZ t l)+t.reach)-1) then (W5 t) else (((WZ t l)+t.reach)-1)) by simp only [e4,e5]) ?_
 clear e5 e4
 have e6:(if (W5 t)<(((WZ t l)+t.reach)-1) then (W5 t) else (((WZ t l)+t.reach)-1))=Vx t l:=rfl
 refine Wa 6 (I (Vx t l)) (congrArg I e6) (Jf (Jd (Jb [0,0,0,0,2,0,0] [(43,(QH t.town.clerk a4 c4 a5 c5 a6 c6)),(44,I (WZ t l)),(45,I (Vx t l))] (JM 46 (Jgp G1 (KX t.town.clerk a4 c4 a5 c5 a6 c6) t.town.clerk (⟨a4,c4,a5,c5,a6,c6,rfl,‹_›,hs4,‹_›,‹_›,‹_›,hs5,hs6⟩) (WZ t l) J5 (Vx t l) (by (have q_:=(JcE (l:=l) (by have q_:=h_5.fit;simp only [KG] at q_;omega) hreach);omega))) (fun v G2 L1 hl2 hp=>?_)))))
 obtain ⟨a12,c12,rfl,hs8,rfl⟩:=hp
 refine Jb [0,0,0,0,0] [(7,Sl a12 (((JbR l t).1).length) c12)] (Je (Jc ?_))
 refine Ym (σ:=Nat×Ba×Nat×Ba×Nat×J4) (fun q_=>(J4.le G2 q_.2.2.2.2.2)∧(rI (((W3 kn1 l t).1).head.epoch))∧(rU (((W3 kn1 l t).1).head.root))∧(rU (((W3 kn1 l t).1).head.prev))∧(rI (((W3 kn1 l t).1).head.at_))∧((((W3 kn1 l t).1).proof.name).length≤140737488351232)∧(RS QJ q_.2.2.2.2.2 q_.2.1 q_.2.2.1 (((W3 kn1 l t).1).proof.entries))∧(RS EU q_.2.2.2.2.2 q_.2.2.2.1 q_.2.2.2.2.1 (((W3 kn1 l t).1).proof.sides))) (fun q_=>[(0,Pt b 0),(3,Pt b1 0),(7,Sl a12 (((JbR l t).1).length) c12),(9,Pt q_.1 0)]) (fun q_=>q_.2.2.2.2.2) (fun q_=>([Sg q_.1 0 (ZO (W3 kn1 l t).1 q_.2.1 q_.2.2.1 q_.2.2.2.1 q_.2.2.2.2.1)]::[Sg b 0 (J7 t a4 c4 a5 c5 a6 c6 a7 c7 a8 c8 a9 c9 a10 c10 a11 c11)]::r1::r2::r3::r4::[Sg b1 0 (Kv (JiH kn1 l) a1 c1 a2 c2 a3 c3)]::Lr)) ?_ (fun q_ hs=>?_)
 have hx1:(t.town.owners)[kn1]? = some (Jt t (kn1:Int)):=YY (by omega)
 obtain ⟨b2,o1,_,_,⟨a13,c13,rfl,w16,_,_,_,_,_,_,_⟩,ha1,hre1,hc1⟩:=J0.ix (hr1.mono hl2) hx1
 refine Kt [16,20,21] (Wz [(0,Pt b 0),(1,Pt b 0),(2,Pt b 0),(3,Pt b 0),(4,(QH t.town.clerk a4 c4 a5 c5 a6 c6)),(5,Pt b 0),(6,Pt b 0),(7,Pt b 0),(8,Pt b 7),(9,Sl a7 t.town.owners.length c7),(10,Pt b1 1),(11,I (kn1:Int)),(12,Pt b2 (o1+kn1*8)),(13,Pt b2 (o1+kn1*8)),(14,Sr ((Jt t (kn1:Int)).name)),(15,I (Vx t l))] (JL [] [(0,0),(1,0),(2,0),(3,0),(4,2),(5,0),(6,0),(7,0),(8,0),(9,2),(10,0),(11,12),(13,0),(15,0)] [12,14] [16,20] (Kb ?_ (Kb ?_ K4)) (Kb ?_ (Kb ?_ K4))))
 refine Jr 12 62 (Pt b2 (o1+kn1*8)) [(59,Sl a7 t.town.owners.length c7),(61,I (kn1:Int))] (fun X=>?_)
 exact Qv (b:=b2) (off:=o1) (len:=t.town.owners.length) (cap:=c7) (ik:=.i64) 62 76 8 kn1 ha1 J5 Jn
 refine Jr 14 64 (Sr ((Jt t (kn1:Int)).name)) [(63,Pt b2 (o1+kn1*8))] (fun X=>?_)
 exact W8 (off:=o1) (p:=kn1*8) (cs:=(KT (Jt t (kn1:Int)) a13 c13)) 64 9 1 0 (Sr ((Jt t (kn1:Int)).name)) hre1 hc1 Jn
 refine JA 16 [(54,(QH t.town.clerk a4 c4 a5 c5 a6 c6)),(64,Sr ((Jt t (kn1:Int)).name)),(65,I (Vx t l))] (fun X=>?_)
 refine JM 66 (V5 G2 (KX t.town.clerk a4 c4 a5 c5 a6 c6) t.town.clerk (⟨a4,c4,a5,c5,a6,c6,rfl,‹_›,(hs4.mono hl2),‹_›,‹_›,‹_›,(hs5.mono hl2),(hs6.mono hl2)⟩) ((Jt t (kn1:Int)).name) w16 (Vx t l) (by (have q_:=(JcE (l:=l) (by have q_:=h_5.fit;simp only [KG] at q_;omega) hreach);omega))) (fun v G3 L1 hl3 hp=>?_)
 obtain ⟨a14,c14,a15,c15,rfl,w23,w24,w25,w26,w27,hs10,hs11,rfl⟩:=hp
 refine JC [(16,.tuple #[(W2 (W3 kn1 l t).1 a14 c14 a15 c15),I ((W3 kn1 l t).2)]),(17,.tuple #[(W2 (W3 kn1 l t).1 a14 c14 a15 c15),I ((W3 kn1 l t).2)]),(18,(W2 (W3 kn1 l t).1 a14 c14 a15 c15)),(19,I ((W3 kn1 l t).2))] (JL [0,1,2,3,4,5,6,7,8,9,10,11,12,13,14,15] [(17,0),(18,0),(19,0)] [] [20] (Ha _) (Kb ?_ K4))
 refine JA 20 [] (fun X=>?_)
 refine Jv 9 #[I 0,U 0,U 0,I 0,Sr ([]),Sl none 0 0,Sl none 0 0] 49 (fun b3=>JC [(20,Pt b3 0)] (JL [0,1,2,3,4,5,6,7,8,9,10,11,12,13,14,15] [(17,0),(18,0),(19,0)] [] [21] (Ha _) (Kb ?_ K4)))
 refine JA 21 [(9,Pt b3 0),(67,(W2 (W3 kn1 l t).1 a14 c14 a15 c15))] (fun X=>?_)
 exact KI 0 ([Sg b3 0 (ZO (W3 kn1 l t).1 a14 c14 a15 c15)]::[Sg b 0 (J7 t a4 c4 a5 c5 a6 c6 a7 c7 a8 c8 a9 c9 a10 c10 a11 c11)]::r1::r2::r3::r4::[Sg b1 0 (Kv (JiH kn1 l) a1 c1 a2 c2 a3 c3)]::Lr) (J9 [(22,I ((W3 kn1 l t).2))] (Kq [0,1,2,3,4,5,6,7,8,9,10,11,12,13,14,15,17,18] [(19,0),(22,0)] [] [(0,Pt b 0),(3,Pt b1 0),(7,Sl a12 (((JbR l t).1).length) c12),(9,Pt b3 0)] (Ha _) (Q3 (b3,a14,c14,a15,c15,G3) ⟨hl3,w23,w24,w25,w26,w27,hs10,hs11⟩)))
 refine JA 20 [] (fun X=>?_)
 refine Jv 9 #[I 0,U 0,U 0,I 0,Sr ([]),Sl none 0 0,Sl none 0 0] 49 (fun b4=>JC [(20,Pt b4 0)] (JL [] [(0,0),(1,0),(2,0),(3,0),(4,4),(5,0),(6,0),(7,0),(8,0),(9,4),(10,0),(11,14),(13,0),(15,0)] [12,14] [16] (Kb ?_ (Kb ?_ K4)) (Kb ?_ K4)))
 refine Jr 12 62 (Pt b2 (o1+kn1*8)) [(59,Sl a7 t.town.owners.length c7),(61,I (kn1:Int))] (fun X=>?_)
 exact Qv (b:=b2) (off:=o1) (len:=t.town.owners.length) (cap:=c7) (ik:=.i64) 62 76 8 kn1 ha1 J5 Jn
 refine Jr 14 64 (Sr ((Jt t (kn1:Int)).name)) [(63,Pt b2 (o1+kn1*8))] (fun X=>?_)
 exact W8 (off:=o1) (p:=kn1*8) (cs:=(KT (Jt t (kn1:Int)) a13 c13)) 64 9 2 0 (Sr ((Jt t (kn1:Int)).name)) hre1 hc1 Jn
 refine JA 16 [(54,(QH t.town.clerk a4 c4 a5 c5 a6 c6)),(64,Sr ((Jt t (kn1:Int)).name)),(65,I (Vx t l))] (fun X=>?_)
 refine JM 66 (V5 G2 (KX t.town.clerk a4 c4 a5 c5 a6 c6) t.town.clerk (⟨a4,c4,a5,c5,a6,c6,rfl,‹_›,(hs4.mono hl2),‹_›,‹_›,‹_›,(hs5.mono hl2),(hs6.mono hl2)⟩) ((Jt t (kn1:Int)).name) w16 (Vx t l) (by (have q_:=(JcE (l:=l) (by have q_:=h_5.fit;simp only [KG] at q_;omega) hreach);omega))) (fun v G4 L1 hl4 hp=>?_)
 obtain ⟨a16,c16,a17,c17,rfl,w28,w29,w30,w31,w32,hs12,hs13,rfl⟩:=hp
 refine JC [(16,.tuple #[(W2 (W3 kn1 l t).1 a16 c16 a17 c17),I ((W3 kn1 l t).2)]),(17,.tuple #[(W2 (W3 kn1 l t).1 a16 c16 a17 c17),I ((W3 kn1 l t).2)]),(18,(W2 (W3 kn1 l t).1 a16 c16 a17 c17)),(19,I ((W3 kn1 l t).2))] (JL [0,1,2,3,4,5,6,7,8,9,10,11,12,13,14,15] [(17,0),(18,0),(19,0)] [] [21] (Ha _) (Kb ?_ K4))
 refine JA 21 [(9,Pt b4 0),(67,(W2 (W3 kn1 l t).1 a16 c16 a17 c17))] (fun X=>?_)
 exact KI 0 ([Sg b4 0 (ZO (W3 kn1 l t).1 a16 c16 a17 c17)]::[Sg b 0 (J7 t a4 c4 a5 c5 a6 c6 a7 c7 a8 c8 a9 c9 a10 c10 a11 c11)]::r1::r2::r3::r4::[Sg b1 0 (Kv (JiH kn1 l) a1 c1 a2 c2 a3 c3)]::Lr) (J9 [(22,I ((W3 kn1 l t).2))] (Kq [0,1,2,3,4,5,6,7,8,9,10,11,12,13,14,15,17,18] [(19,0),(22,0)] [] [(0,Pt b 0),(3,Pt b1 0),(7,Sl a12 (((JbR l t).1).length) c12),(9,Pt b4 0)] (Ha _) (Q3 (b4,a16,c16,a17,c17,G4) ⟨hl4,w28,w29,w30,w31,w32,hs12,hs13⟩)))
 obtain ⟨b3,a14,c14,a15,c15,G3⟩:=q_
 obtain ⟨hle1,hj1,hj2,hj3,hj4,hj5,hj6,hj7⟩:=hs
 dsimp only at hle1 hj1 hj2 hj3 hj4 hj5 hj6 hj7
 dsimp only
 refine Jd (Jb [0,0,14,0,2,0] [(69,Pt b 0),(74,(Q9 (⟨(kn1:Int),0,0,0,(JbR l t).1,(W3 kn1 l t).1⟩:JQ) a12 c12 a14 c14 a15 c15))] (Jw 5 (Jw 5 (Jw 5 (Jw 5 (Jw 5 (Qq (Ls:=[[Sg b 0 (J7 t a4 c4 a5 c5 a6 c6 a7 c7 a8 c8 a9 c9 a10 c10 a11 c11)],r1,r2,r3,r4]) (Lr:=([Sg b3 0 (ZO (W3 kn1 l t).1 a14 c14 a15 c15)]::[Sg b1 0 (Kv (JiH kn1 l) a1 c1 a2 c2 a3 c3)]::Lr)) 75 (JhK G3 b t a4 c4 a5 c5 a6 c6 a7 c7 a8 c8 a9 c9 a10 c10 a11 c11 r1 r2 r3 r4 ‹_› (hs4.mono (Ja hl2 hle1)) ‹_› ‹_› ‹_› (hs5.mono (Ja hl2 hle1)) (hs6.mono (Ja hl2 hle1)) (hr1.mono (Ja hl2 hle1)) (hr2.mono (Ja hl2 hle1)) ‹_› (hs7.mono (Ja hl2 hle1)) ‹_› (hr3.mono (Ja hl2 hle1)) (hr4.mono (Ja hl2 hle1)) (Kv (⟨(kn1:Int),0,0,0,(JbR l t).1,(W3 kn1 l t).1⟩:JQ) a12 c12 a14 c14 a15 c15) (⟨(kn1:Int),0,0,0,(JbR l t).1,((W3 kn1 l t).1)⟩:JQ) (⟨a12,c12,a14,c14,a15,c15,rfl,(by (dsimp only;omega)),(by (dsimp only;omega)),(by (dsimp only;omega)),(by (dsimp only;omega)),(hs8.mono hle1),hj1,hj2,hj3,hj4,hj5,hj6,hj7⟩)) (fun v G5 L1 hl5 hp=>?_))))))))
 obtain ⟨a18,c18,a19,c19,a20,c20,a21,c21,a22,c22,a23,c23,a24,c24,a25,c25,r5,r6,r7,r8,rfl,w33,hs14,w34,w35,w36,hs15,hs16,hr5,hr6,w37,hs17,w38,hr7,hr8,rfl⟩:=hp
 refine Je (Jk 4 (Jk 4 (Jk 4 (Jk 4 (Jk 4 ?_)))))
 have hf2:Ql t l=(Wt t (⟨(kn1:Int),0,0,0,(JbR l t).1,((W3 kn1 l t).1)⟩:JQ)):=by
  (rw [JpG ‹_› ‹_›];done)
 refine ZX [] [] (KQ (Lr:=Lr) [[Sg b 0 (J7 (Wt t (⟨(kn1:Int),0,0,0,(JbR l t).1,((W3 kn1 l t).1)⟩:JQ)) a18 c18 a19 c19 a20 c20 a21 c21 a22 c22 a23 c23 a24 c24 a25 c25)],r5,r6,r7,r8] (Ja (Ja (Ja hl1 hl2) hle1) hl5) ?_)
 rw [hf2];try dsimp only
 exact ⟨a18,c18,a19,c19,a20,c20,a21,c21,a22,c22,a23,c23,a24,c24,a25,c25,r5,r6,r7,r8,rfl,w33,hs14,w34,w35,w36,hs15,hs16,hr5,hr6,w37,hs17,w38,hr7,hr8,rfl⟩
set_option maxRecDepth 20000 in
abbrev WV (kn1:Nat) (l:JQ) (t:JK):=Wg (⟨(⟨t.town.clerk,t.town.owners.set kn1 ((JD (Jt t (kn1:Int)) l.heads l.reply).1),t.town.polls,t.town.net⟩:Wb),t.reach,t.fates,t.events⟩:JK) 2 (kn1:Int) ((JD (Jt t (kn1:Int)) l.heads l.reply).2.1) (((JD (Jt t (kn1:Int)) l.heads l.reply).1).head.epoch)
abbrev Qn (kn1:Nat) (l:JQ) (t:JK):=JD (Jt t (kn1:Int)) l.heads l.reply
abbrev Yy (kn1:Nat) (l:JQ) (t:JK):=Wh (QC (WV kn1 l t) (kn1:Int)) ((WV kn1 l t).town.clerk.now)
abbrev JeH (kn1:Nat) (l:JQ):=(⟨(kn1:Int),l.from_,l.since,l.due,l.heads,l.reply⟩:JQ)
abbrev Jbd (kn1:Nat) (l:JQ) (t:JK):=QC (WV kn1 l t) (kn1:Int)
theorem JpH (G:J4) (b:Nat) (t:JK) (a_1:Ba) (c_1:Nat) (a_5:Ba) (c_5:Nat) (a_6:Ba) (c_6:Nat) (a_7:Ba) (c_7:Nat) (a_8:Ba) (c_8:Nat) (a_10:Ba) (c_10:Nat) (a_12:Ba) (c_12:Nat) (a_13:Ba) (c_13:Nat) (r_7:Bg) (r_8:Bg) (r_12:Bg) (r_13:Bg) (h_0:rI t.town.clerk.queue.most) (h_1:RS Q4 G a_1 c_1 t.town.clerk.queue.wait) (h_2:rI t.town.clerk.batch) (h_3:rI t.town.clerk.every) (h_4:rI t.town.clerk.now) (h_5:RS KG G a_5 c_5 t.town.clerk.heads) (h_6:RS Qi G a_6 c_6 t.town.clerk.books) (h_7:J0 QG G a_7 c_7 t.town.owners r_7) (h_8:J0 Wp G a_8 c_8 t.town.polls r_8) (h_9:rI t.town.net.now) (h_10:RS Kg G a_10 c_10 t.town.net.way) (h_11:rI t.reach) (h_12:J0 VA G a_12 c_12 t.fates r_12) (h_13:J0 QR G a_13 c_13 t.events r_13) (vs_l:Bv) (l:JQ) (h_l:Kg.R G vs_l l) (hev:t.events.length≤1000000) (hto:0≤l.to_∧l.to_<t.town.owners.length) (hpl:t.town.polls.length=t.town.owners.length):JcQ 113 #[Pt b 0,.agg vs_l.toArray] G [[Sg b 0 [I t.town.clerk.queue.most,Sl a_1 t.town.clerk.queue.wait.length c_1,I t.town.clerk.batch,I t.town.clerk.every,I t.town.clerk.now,Sl a_5 t.town.clerk.heads.length c_5,Sl a_6 t.town.clerk.books.length c_6,Sl a_7 t.town.owners.length c_7,Sl a_8 t.town.polls.length c_8,I t.town.net.now,Sl a_10 t.town.net.way.length c_10,I t.reach,Sl a_12 t.fates.length c_12,Sl a_13 t.events.length c_13]],r_7,r_8,r_12,r_13] (fun u G' L'=>∃ (a_z1:Ba) (c_z1:Nat) (a_z5:Ba) (c_z5:Nat) (a_z6:Ba) (c_z6:Nat) (a_z7:Ba) (c_z7:Nat) (a_z8:Ba) (c_z8:Nat) (a_z10:Ba) (c_z10:Nat) (a_z12:Ba) (c_z12:Nat) (a_z13:Ba) (c_z13:Nat) (r_z7:Bg) (r_z8:Bg) (r_z12:Bg) (r_z13:Bg),u=.tuple #[]∧(rI ((Yj t l).town.clerk.queue.most))∧(RS Q4 G' a_z1 c_z1 ((Yj t l).town.clerk.queue.wait))∧(rI ((Yj t l).town.clerk.batch))∧(rI ((Yj t l).town.clerk.every))∧(rI ((Yj t l).town.clerk.now))∧(RS KG G' a_z5 c_z5 ((Yj t l).town.clerk.heads))∧(RS Qi G' a_z6 c_z6 ((Yj t l).town.clerk.books))∧(J0 QG G' a_z7 c_z7 ((Yj t l).town.owners) r_z7)∧(J0 Wp G' a_z8 c_z8 ((Yj t l).town.polls) r_z8)∧(rI ((Yj t l).town.net.now))∧(RS Kg G' a_z10 c_z10 ((Yj t l).town.net.way))∧(rI ((Yj t l).reach))∧(J0 VA G' a_z12 c_z12 ((Yj t l).fates) r_z12)∧(J0 QR G' a_z13 c_z13 ((Yj t l).events) r_z13)∧L'=[[Sg b 0 [I ((Yj t l).town.clerk.queue.most),Sl a_z1 (((Yj t l).town.clerk.queue.wait).length) c_z1,I ((Yj t l).town.clerk.batch),I ((Yj t l).town.clerk.every),I ((Yj t l).town.clerk.now),Sl a_z5 (((Yj t l).town.clerk.heads).length) c_z5,Sl a_z6 (((Yj t l).town.clerk.books).length) c_z6,Sl a_z7 (((Yj t l).town.owners).length) c_z7,Sl a_z8 (((Yj t l).town.polls).length) c_z8,I ((Yj t l).town.net.now),Sl a_z10 (((Yj t l).town.net.way).length) c_z10,I ((Yj t l).reach),Sl a_z12 (((Yj t l).fates).length) c_z12,Sl a_z13 (((Yj t l).events).length) c_z13]],r_z7,r_z8,r_z12,r_z13]):=by
 obtain ⟨a1,c1,a2,c2,a3,c3,rfl,_,_,_,_,hs1,w5,w6,w7,w8,w9,hs2,hs3⟩:=h_l
 intro Lr
 refine JS Tryz.func113 75 [(0,Pt b 0),(1,(Q9 l a1 c1 a2 c2 a3 c3))] rfl (fun w0 G0=>?_)
 show TC _ _ _ _ _ ([Sg b 0 (J7 t a_1 c_1 a_5 c_5 a_6 c_6 a_7 c_7 a_8 c_8 a_10 c_10 a_12 c_12 a_13 c_13)]::r_7::r_8::r_12::r_13::Lr)
 refine Jf (Jd (Jv 3 #[I l.to_,I l.from_,I l.since,I l.due,Sl a1 l.heads.length c1,I l.reply.head.epoch,U l.reply.head.root,U l.reply.head.prev,I l.reply.head.at_,Sr l.reply.proof.name,Sl a2 l.reply.proof.entries.length c2,Sl a3 l.reply.proof.sides.length c3] 51 (fun b1=>Je (Jc ?_))))
 obtain ⟨kn1,hkn1⟩:∃ k_:Nat,l.to_=(k_:Int):=⟨(l.to_).toNat,by omega⟩
 have e1:l.to_=(kn1:Int):=hkn1
 refine Wa 1 (.agg #[I (kn1:Int),I l.from_,I l.since,I l.due,Sl a1 l.heads.length c1,I l.reply.head.epoch,U l.reply.head.root,U l.reply.head.prev,I l.reply.head.at_,Sr l.reply.proof.name,Sl a2 l.reply.proof.entries.length c2,Sl a3 l.reply.proof.sides.length c3]) (show (.agg #[I l.to_,I l.from_,I l.since,I l.due,Sl a1 l.heads.length c1,I l.reply.head.epoch,U l.reply.head.root,U l.reply.head.prev,I l.reply.head.at_,Sr l.reply.proof.name,Sl a2 l.reply.proof.entries.length c2,Sl a3 l.reply.proof.sides.length c3]:Value)=.agg #[I (kn1:Int),I l.from_,I l.since,I l.due,Sl a1 l.heads.length c1,I l.reply.head.epoch,U l.reply.head.root,U l.reply.head.prev,I l.reply.head.at_,Sr l.reply.proof.name,Sl a2 l.reply.proof.entries.length c2,Sl a3 l.reply.proof.sides.length c3] by simp only [e1]) (Jc7 (L':=([Sg b1 0 [I (kn1:Int),I l.from_,I l.since,I l.due,Sl a1 l.heads.length c1,I l.reply.head.epoch,U l.reply.head.root,U l.reply.head.prev,I l.reply.head.at_,Sr l.reply.proof.name,Sl a2 l.reply.proof.entries.length c2,Sl a3 l.reply.proof.sides.length c3]]::[Sg b 0 [I t.town.clerk.queue.most,Sl a_1 t.town.clerk.queue.wait.length c_1,I t.town.clerk.batch,I t.town.clerk.every,I t.town.clerk.now,Sl a_5 t.town.clerk.heads.length c_5,Sl a_6 t.town.clerk.books.length c_6,Sl a_7 t.town.owners.length c_7,Sl a_8 t.town.polls.length c_8,I t.town.net.now,Sl a_10 t.town.net.way.length c_10,I t.reach,Sl a_12 t.fates.length c_12,Sl a_13 t.events.length c_13]]::r_7::r_8::r_12::r_13::Lr)) (by (simp only [Kv,KT,Y8,ZO,J7,Q9,KF,Ve,W2,e1];first | done | rfl)) ?_)
 refine Ym (σ:=Nat×Ba×Nat×J4) (fun q_=>(J4.le G q_.2.2.2)∧((((Qn kn1 l t).1).name).length≤140737488351232)∧(rU (((Qn kn1 l t).1).key))∧(rI (((Qn kn1 l t).1).head.epoch))∧(rU (((Qn kn1 l t).1).head.root))∧(rU (((Qn kn1 l t).1).head.prev))∧(rI (((Qn kn1 l t).1).head.at_))∧(RS ES q_.2.2.2 q_.2.1 q_.2.2.1 (((Qn kn1 l t).1).wanted))∧(rI (((Qn kn1 l t).1).had))) (fun q_=>[(0,Pt b 0),(3,Pt b1 0),(4,Pt q_.1 0),(5,I ((Qn kn1 l t).2.1))]) (fun q_=>q_.2.2.2) (fun q_=>([Sg q_.1 0 (KT (Qn kn1 l t).1 q_.2.1 q_.2.2.1)]::[Sg b1 0 (Kv (JeH kn1 l) a1 c1 a2 c2 a3 c3)]::[Sg b 0 (J7 t a_1 c_1 a_5 c_5 a_6 c_6 a_7 c_7 a_8 c_8 a_10 c_10 a_12 c_12 a_13 c_13)]::r_7::r_8::r_12::r_13::Lr)) ?_ (fun q_ hs=>?_)
 have hx1:(t.town.owners)[kn1]? = some (Jt t (kn1:Int)):=YY (by omega)
 obtain ⟨b2,o1,_,_,⟨a4,c4,rfl,w10,w11,w12,w13,w14,w15,hs4,w16⟩,ha1,hre1,hc1⟩:=J0.ix h_7 hx1
 refine Kt [13,18,19] (Wz [(0,Pt b 0),(1,Pt b 0),(2,Pt b 0),(3,Pt b 7),(4,Sl a_7 t.town.owners.length c_7),(5,Pt b1 0),(6,I (kn1:Int)),(7,Pt b2 (o1+kn1*8)),(8,(KF (Jt t (kn1:Int)) a4 c4)),(9,Pt b1 4),(10,Sl a1 l.heads.length c1),(11,Pt b1 5),(12,(W2 l.reply a2 c2 a3 c3))] (JL [] [(0,0),(1,0),(2,0),(3,0),(4,4),(5,0),(6,2),(9,0),(10,2),(11,0),(12,2)] [7,8] [13,18] (Kb ?_ (Kb ?_ K4)) (Kb ?_ (Kb ?_ K4))))
 refine Jr 7 15 (Pt b2 (o1+kn1*8)) [(12,Sl a_7 t.town.owners.length c_7),(14,I (kn1:Int))] (fun X=>?_)
 exact Qv (b:=b2) (off:=o1) (len:=t.town.owners.length) (cap:=c_7) (ik:=.i64) 15 76 8 kn1 ha1 J5 Jn
 refine Jr 8 16 (KF (Jt t (kn1:Int)) a4 c4) [(15,Pt b2 (o1+kn1*8))] (fun X=>?_)
 exact W8 (off:=o1) (p:=kn1*8) (cs:=(KT (Jt t (kn1:Int)) a4 c4)) 16 76 2 0 (KF (Jt t (kn1:Int)) a4 c4) hre1 hc1 Jn
 refine JA 13 [(16,(KF (Jt t (kn1:Int)) a4 c4)),(18,Sl a1 l.heads.length c1),(20,(W2 l.reply a2 c2 a3 c3))] (fun X=>?_)
 refine JM 21 (JdV G (KT (Jt t (kn1:Int)) a4 c4) (Jt t (kn1:Int)) (⟨a4,c4,rfl,w10,w11,w12,w13,w14,w15,hs4,w16⟩) a1 c1 l.heads hs1 (ZO l.reply a2 c2 a3 c3) l.reply (⟨a2,c2,a3,c3,rfl,w5,w6,w7,w8,w9,hs2,hs3⟩)) (fun v G1 L1 hl1 hp=>?_)
 obtain ⟨a5,c5,rfl,w17,w18,w19,w20,w21,w22,hs5,w23,rfl⟩:=hp
 refine JC [(13,.tuple #[(KF (Qn kn1 l t).1 a5 c5),I ((Qn kn1 l t).2.1),I ((Qn kn1 l t).2.2)]),(14,.tuple #[(KF (Qn kn1 l t).1 a5 c5),I ((Qn kn1 l t).2.1),I ((Qn kn1 l t).2.2)]),(15,(KF (Qn kn1 l t).1 a5 c5)),(16,I ((Qn kn1 l t).2.1)),(17,I ((Qn kn1 l t).2.2))] (JL [0,1,2,3,4,5,6,7,8,9,10,11,12] [(14,0),(15,0),(16,0),(17,0)] [] [18] (Ha _) (Kb ?_ K4))
 refine JA 18 [] (fun X=>?_)
 refine Jv 4 #[Sr ([]),U 0,I 0,U 0,U 0,I 0,Sl none 0 0,I 0] 76 (fun b3=>JC [(18,Pt b3 0)] (JL [0,1,2,3,4,5,6,7,8,9,10,11,12] [(14,0),(15,0),(16,0),(17,0)] [] [19] (Ha _) (Kb ?_ K4)))
 refine JA 19 [(4,Pt b3 0),(22,(KF (Qn kn1 l t).1 a5 c5))] (fun X=>?_)
 exact KI 0 ([Sg b3 0 (KT (Qn kn1 l t).1 a5 c5)]::[Sg b1 0 (Kv (JeH kn1 l) a1 c1 a2 c2 a3 c3)]::[Sg b 0 (J7 t a_1 c_1 a_5 c_5 a_6 c_6 a_7 c_7 a_8 c_8 a_10 c_10 a_12 c_12 a_13 c_13)]::r_7::r_8::r_12::r_13::Lr) (J9 [(20,I ((Qn kn1 l t).2.1)),(21,I ((Qn kn1 l t).2.2))] (Kq [0,1,2,3,4,5,6,7,8,9,10,11,12,14,15] [(16,0),(17,0),(20,0),(21,0)] [] [(0,Pt b 0),(3,Pt b1 0),(4,Pt b3 0),(5,I ((Qn kn1 l t).2.1))] (Ha _) (Q3 (b3,a5,c5,G1) ⟨hl1,w17,w18,w19,w20,w21,w22,hs5,w23⟩)))
 refine JA 18 [] (fun X=>?_)
 refine Jv 4 #[Sr ([]),U 0,I 0,U 0,U 0,I 0,Sl none 0 0,I 0] 76 (fun b4=>JC [(18,Pt b4 0)] (JL [] [(0,0),(1,0),(2,0),(3,0),(4,6),(5,0),(6,4),(9,0),(10,4),(11,0),(12,4)] [7,8] [13] (Kb ?_ (Kb ?_ K4)) (Kb ?_ K4)))
 refine Jr 7 15 (Pt b2 (o1+kn1*8)) [(12,Sl a_7 t.town.owners.length c_7),(14,I (kn1:Int))] (fun X=>?_)
 exact Qv (b:=b2) (off:=o1) (len:=t.town.owners.length) (cap:=c_7) (ik:=.i64) 15 76 8 kn1 ha1 J5 Jn
 refine Jr 8 16 (KF (Jt t (kn1:Int)) a4 c4) [(15,Pt b2 (o1+kn1*8))] (fun X=>?_)
 exact W8 (off:=o1) (p:=kn1*8) (cs:=(KT (Jt t (kn1:Int)) a4 c4)) 16 76 3 0 (KF (Jt t (kn1:Int)) a4 c4) hre1 hc1 Jn
 refine JA 13 [(16,(KF (Jt t (kn1:Int)) a4 c4)),(18,Sl a1 l.heads.length c1),(20,(W2 l.reply a2 c2 a3 c3))] (fun X=>?_)
 refine JM 21 (JdV G (KT (Jt t (kn1:Int)) a4 c4) (Jt t (kn1:Int)) (⟨a4,c4,rfl,w10,w11,w12,w13,w14,w15,hs4,w16⟩) a1 c1 l.heads hs1 (ZO l.reply a2 c2 a3 c3) l.reply (⟨a2,c2,a3,c3,rfl,w5,w6,w7,w8,w9,hs2,hs3⟩)) (fun v G2 L1 hl2 hp=>?_)
 obtain ⟨a6,c6,rfl,w24,w25,w26,w27,w28,w29,hs6,w30,rfl⟩:=hp
 refine JC [(13,.tuple #[(KF (Qn kn1 l t).1 a6 c6),I ((Qn kn1 l t).2.1),I ((Qn kn1 l t).2.2)]),(14,.tuple #[(KF (Qn kn1 l t).1 a6 c6),I ((Qn kn1 l t).2.1),I ((Qn kn1 l t).2.2)]),(15,(KF (Qn kn1 l t).1 a6 c6)),(16,I ((Qn kn1 l t).2.1)),(17,I ((Qn kn1 l t).2.2))] (JL [0,1,2,3,4,5,6,7,8,9,10,11,12] [(14,0),(15,0),(16,0),(17,0)] [] [19] (Ha _) (Kb ?_ K4))
 refine JA 19 [(4,Pt b4 0),(22,(KF (Qn kn1 l t).1 a6 c6))] (fun X=>?_)
 exact KI 0 ([Sg b4 0 (KT (Qn kn1 l t).1 a6 c6)]::[Sg b1 0 (Kv (JeH kn1 l) a1 c1 a2 c2 a3 c3)]::[Sg b 0 (J7 t a_1 c_1 a_5 c_5 a_6 c_6 a_7 c_7 a_8 c_8 a_10 c_10 a_12 c_12 a_13 c_13)]::r_7::r_8::r_12::r_13::Lr) (J9 [(20,I ((Qn kn1 l t).2.1)),(21,I ((Qn kn1 l t).2.2))] (Kq [0,1,2,3,4,5,6,7,8,9,10,11,12,14,15] [(16,0),(17,0),(20,0),(21,0)] [] [(0,Pt b 0),(3,Pt b1 0),(4,Pt b4 0),(5,I ((Qn kn1 l t).2.1))] (Ha _) (Q3 (b4,a6,c6,G2) ⟨hl2,w24,w25,w26,w27,w28,w29,hs6,w30⟩)))
 obtain ⟨b3,a5,c5,G1⟩:=q_
 obtain ⟨hle1,hj1,hj2,hj3,hj4,hj5,hj6,hj7,hj8⟩:=hs
 dsimp only at hle1 hj1 hj2 hj3 hj4 hj5 hj6 hj7 hj8
 dsimp only
 refine Jf ?_
 have hx2:(t.town.owners)[kn1]? = some (Jt t (kn1:Int)):=YY (by omega)
 obtain ⟨b5,o2,_,_,⟨_,_,rfl,_,_,_,_,_,_,_,_⟩,ha2,_,_⟩:=J0.ix (h_7.mono hle1) hx2
 refine Kt [9] (Wz [(0,Pt b 0),(1,Pt b 0),(2,Pt b 0),(3,Pt b 7),(4,Sl a_7 t.town.owners.length c_7),(5,Pt b1 0),(6,I (kn1:Int)),(7,(KF (Qn kn1 l t).1 a5 c5)),(8,Pt b5 (o2+kn1*8))] (JL [] [(0,0),(1,0),(2,0),(3,0),(4,6),(5,0),(6,4),(7,2)] [8] [9] (Kb ?_ K4) (Kb ?_ K4)))
 refine Jr 8 33 (Pt b5 (o2+kn1*8)) [(29,Sl a_7 t.town.owners.length c_7),(31,I (kn1:Int))] (fun X=>?_)
 exact Qv (b:=b5) (off:=o2) (len:=t.town.owners.length) (cap:=c_7) (ik:=.i64) 33 76 8 kn1 ha2 J5 Jn
 refine JA 9 [(32,(KF (Qn kn1 l t).1 a5 c5)),(33,Pt b5 (o2+kn1*8))] (fun X=>?_)
 refine YA (b:=b5) (off:=o2) 3 (h_7.mono hle1) kn1 ((Qn kn1 l t).1) ha2 J5 (KF (Qn kn1 l t).1 a5 c5) (KT (Qn kn1 l t).1 a5 c5) ⟨a5,c5,rfl,hj1,hj2,hj3,hj4,hj5,hj6,hj7,hj8⟩ (fun r1 hr1=>?_)
 have e2:t.town.owners.length=(t.town.owners.set kn1 ((Qn kn1 l t).1)).length:=(Hd ..).symm
 refine J9 [] (Kq [0,1,2,3,4,5,6,7,8] [] [] [(0,Pt b 0),(3,Pt b1 0),(4,Pt b3 0),(5,I ((Qn kn1 l t).2.1))] (Ha _) (JlI (fr':=[(0,Pt b 0),(3,Pt b1 0),(4,Pt b3 0),(5,I ((JD (Jt t (kn1:Int)) l.heads l.reply).2.1))]) (L':=([Sg b3 0 [Sr (((JD (Jt t (kn1:Int)) l.heads l.reply).1).name),U (((JD (Jt t (kn1:Int)) l.heads l.reply).1).key),I (((JD (Jt t (kn1:Int)) l.heads l.reply).1).head.epoch),U (((JD (Jt t (kn1:Int)) l.heads l.reply).1).head.root),U (((JD (Jt t (kn1:Int)) l.heads l.reply).1).head.prev),I (((JD (Jt t (kn1:Int)) l.heads l.reply).1).head.at_),Sl a5 ((((JD (Jt t (kn1:Int)) l.heads l.reply).1).wanted).length) c5,I (((JD (Jt t (kn1:Int)) l.heads l.reply).1).had)]]::[Sg b1 0 [I (kn1:Int),I l.from_,I l.since,I l.due,Sl a1 l.heads.length c1,I l.reply.head.epoch,U l.reply.head.root,U l.reply.head.prev,I l.reply.head.at_,Sr l.reply.proof.name,Sl a2 l.reply.proof.entries.length c2,Sl a3 l.reply.proof.sides.length c3]]::[Sg b 0 [I t.town.clerk.queue.most,Sl a_1 t.town.clerk.queue.wait.length c_1,I t.town.clerk.batch,I t.town.clerk.every,I t.town.clerk.now,Sl a_5 t.town.clerk.heads.length c_5,Sl a_6 t.town.clerk.books.length c_6,Sl a_7 ((t.town.owners.set kn1 ((JD (Jt t (kn1:Int)) l.heads l.reply).1)).length) c_7,Sl a_8 t.town.polls.length c_8,I t.town.net.now,Sl a_10 t.town.net.way.length c_10,I t.reach,Sl a_12 t.fates.length c_12,Sl a_13 t.events.length c_13]]::r1::r_8::r_12::r_13::Lr)) (by rfl) (by (simp only [Kv,KT,Y8,ZO,J7,Q9,KF,Ve,W2,e2];first | done | rfl)) (Jc (Jf (Jd (Jb [0,0,4,0,0,0,2] [(34,Pt b 0),(36,I (kn1:Int)),(37,I ((Qn kn1 l t).2.1)),(40,I (((Qn kn1 l t).1).head.epoch))] (Jw 6 (Jw 6 (Jw 6 (Jw 6 (Jw 6 (Qq (Ls:=[[Sg b 0 (J7 (⟨(⟨t.town.clerk,(t.town.owners.set kn1 ((Qn kn1 l t).1)),t.town.polls,t.town.net⟩:Wb),t.reach,t.fates,t.events⟩:JK) a_1 c_1 a_5 c_5 a_6 c_6 a_7 c_7 a_8 c_8 a_10 c_10 a_12 c_12 a_13 c_13)],r1,r_8,r_12,r_13]) (Lr:=([Sg b3 0 (KT (Qn kn1 l t).1 a5 c5)]::[Sg b1 0 (Kv (JeH kn1 l) a1 c1 a2 c2 a3 c3)]::Lr)) 41 (JeG G1 b (⟨(⟨t.town.clerk,t.town.owners.set kn1 ((Qn kn1 l t).1),t.town.polls,t.town.net⟩:Wb),t.reach,t.fates,t.events⟩:JK) a_1 c_1 a_5 c_5 a_6 c_6 a_7 c_7 a_8 c_8 a_10 c_10 a_12 c_12 a_13 c_13 r1 r_8 r_12 r_13 h_0 (h_1.mono hle1) h_2 h_3 h_4 (h_5.mono hle1) (h_6.mono hle1) hr1 (h_8.mono hle1) h_9 (h_10.mono hle1) h_11 (h_12.mono hle1) (h_13.mono hle1) 2 J5 (kn1:Int) J5 ((Qn kn1 l t).2.1) (JqR _ _ _) (((Qn kn1 l t).1).head.epoch) hj3 ‹_›) (fun v G3 L1 hl3 hp=>?_)))))))))))))
 obtain ⟨a8,c8,a9,c9,a10,c10,a11,c11,a12,c12,a13,c13,a14,c14,a15,c15,r2,r3,r4,r5,rfl,w38,hs8,w39,w40,w41,hs9,hs10,hr2,hr3,w42,hs11,w43,hr4,hr5,rfl⟩:=hp
 refine Je (Jc (Jf (Jd (Jb [0,0,0] [(44,Bo (decide ((Qn kn1 l t).2.1=0)))] (Kk (decide ((Qn kn1 l t).2.1=0)) [44] [1,1,0] [0,0,0] (fun bb=>[(47,Bo (bb || (decide ((Qn kn1 l t).2.1=1))))]) (Je (Jc (Jm ((decide ((Qn kn1 l t).2.1=0)) || (decide ((Qn kn1 l t).2.1=1))) (fun h1=>?_) (fun h1=>?_)))))))))
 have hx3:((WV kn1 l t).town.polls)[kn1]? = some (Jbd kn1 l t):=Jgr (by (simp only [Wg];omega))
 obtain ⟨b6,o3,_,_,⟨rfl,w44,w45,w46,w47,w48,w49⟩,ha3,hre3,hc3⟩:=J0.ix hr3 hx3
 refine Kt [27] (Wz [(0,Pt b 0),(1,Pt b 0),(2,Pt b 0),(3,Pt b 8),(4,Sl a12 (((WV kn1 l t).town.polls).length) c12),(5,Pt b1 0),(6,I (kn1:Int)),(7,Pt b 0),(8,Pt b 0),(9,Pt b 0),(10,Pt b 8),(11,Sl a12 (((WV kn1 l t).town.polls).length) c12),(12,Pt b1 0),(13,I (kn1:Int)),(14,Pt b6 (o3+kn1*6)),(15,(Ve (Jbd kn1 l t))),(16,Pt b 0),(17,Pt b 0),(18,Pt b 0),(19,Pt b 0),(20,Pt b 4),(21,I ((WV kn1 l t).town.clerk.now)),(22,.tuple #[(Ve (Yy kn1 l t).1),I ((Yy kn1 l t).2)]),(23,.tuple #[(Ve (Yy kn1 l t).1),I ((Yy kn1 l t).2)]),(24,(Ve (Yy kn1 l t).1)),(25,I ((Yy kn1 l t).2)),(26,Pt b6 (o3+kn1*6))] (JL [] [(0,0),(1,0),(2,0),(3,0),(4,2),(5,0),(6,14),(7,0),(8,0),(9,0),(10,0),(11,2),(12,0),(13,14),(16,0),(17,0),(18,0),(19,0),(20,0),(21,2),(23,0),(24,0),(25,0)] [14,15,22,26] [27] (Kb ?_ (Kb ?_ (Kb ?_ (Kb ?_ K4)))) (Kb ?_ K4)))
 refine Jr 14 63 (Pt b6 (o3+kn1*6)) [(60,Sl a12 (((WV kn1 l t).town.polls).length) c12),(62,I (kn1:Int))] (fun X=>?_)
 exact Qv (b:=b6) (off:=o3) (len:=((WV kn1 l t).town.polls).length) (cap:=c12) (ik:=.i64) 63 143 6 kn1 ha3 (by (simp only [Wg];omega)) Jn
 refine Jr 15 64 (Ve (Jbd kn1 l t)) [(63,Pt b6 (o3+kn1*6))] (fun X=>?_)
 exact W8 (off:=o3) (p:=kn1*6) (cs:=(Y8 (Jbd kn1 l t))) 64 143 2 0 (Ve (Jbd kn1 l t)) hre3 hc3 Jn
 refine Jr 22 71 (.tuple #[(Ve (Yy kn1 l t).1),I ((Yy kn1 l t).2)]) [(64,(Ve (Jbd kn1 l t))),(70,I ((WV kn1 l t).town.clerk.now))] (fun X=>?_)
 exact Jl 71 (.tuple #[(Ve (Yy kn1 l t).1),I ((Yy kn1 l t).2)]) (Jhe G3 (Y8 (Jbd kn1 l t)) (Jbd kn1 l t) (⟨rfl,w44,w45,w46,w47,w48,w49⟩) ((WV kn1 l t).town.clerk.now)) Jn
 refine Jr 26 74 (Pt b6 (o3+kn1*6)) [(53,Sl a12 (((WV kn1 l t).town.polls).length) c12),(55,I (kn1:Int))] (fun X=>?_)
 exact Qv (b:=b6) (off:=o3) (len:=((WV kn1 l t).town.polls).length) (cap:=c12) (ik:=.i64) 74 143 6 kn1 ha3 (by (simp only [Wg];omega)) Jn
 refine JA 27 [(72,(Ve (Yy kn1 l t).1)),(74,Pt b6 (o3+kn1*6))] (fun X=>?_)
 refine YA (b:=b6) (off:=o3) 2 hr3 kn1 ((Yy kn1 l t).1) ha3 (by (simp only [Wg];omega)) (Ve (Yy kn1 l t).1) (Y8 (Yy kn1 l t).1) ⟨rfl,(JcF _ _).least,(JcF _ _).most,(JcF _ _).lost,(JcF _ _).gap,(JcF _ _).next,(JcF _ _).asked⟩ (fun r6 hr6=>?_)
 have e3:((WV kn1 l t).town.polls).length=(((WV kn1 l t).town.polls).set kn1 ((Yy kn1 l t).1)).length:=(Hd ..).symm
 refine J9 [] (Kq [0,1,2,3,4,5,6,7,8,9,10,11,12,13,14,15,16,17,18,19,20,21,22,23,24,26] [(25,0)] [] [] (Ha _) (JlI (fr':=[]) (L':=([Sg b 0 [I ((Wg (⟨(⟨t.town.clerk,t.town.owners.set kn1 ((JD (Jt t (kn1:Int)) l.heads l.reply).1),t.town.polls,t.town.net⟩:Wb),t.reach,t.fates,t.events⟩:JK) 2 (kn1:Int) ((JD (Jt t (kn1:Int)) l.heads l.reply).2.1) (((JD (Jt t (kn1:Int)) l.heads l.reply).1).head.epoch)).town.clerk.queue.most),Sl a8 (((Wg (⟨(⟨t.town.clerk,t.town.owners.set kn1 ((JD (Jt t (kn1:Int)) l.heads l.reply).1),t.town.polls,t.town.net⟩:Wb),t.reach,t.fates,t.events⟩:JK) 2 (kn1:Int) ((JD (Jt t (kn1:Int)) l.heads l.reply).2.1) (((JD (Jt t (kn1:Int)) l.heads l.reply).1).head.epoch)).town.clerk.queue.wait).length) c8,I ((Wg (⟨(⟨t.town.clerk,t.town.owners.set kn1 ((JD (Jt t (kn1:Int)) l.heads l.reply).1),t.town.polls,t.town.net⟩:Wb),t.reach,t.fates,t.events⟩:JK) 2 (kn1:Int) ((JD (Jt t (kn1:Int)) l.heads l.reply).2.1) (((JD (Jt t (kn1:Int)) l.heads l.reply).1).head.epoch)).town.clerk.batch),I ((Wg (⟨(⟨t.town.clerk,t.town.owners.set kn1 ((JD (Jt t (kn1:Int)) l.heads l.reply).1),t.town.polls,t.town.net⟩:Wb),t.reach,t.fates,t.events⟩:JK) 2 (kn1:Int) ((JD (Jt t (kn1:Int)) l.heads l.reply).2.1) (((JD (Jt t (kn1:Int)) l.heads l.reply).1).head.epoch)).town.clerk.every),I ((Wg (⟨(⟨t.town.clerk,t.town.owners.set kn1 ((JD (Jt t (kn1:Int)) l.heads l.reply).1),t.town.polls,t.town.net⟩:Wb),t.reach,t.fates,t.events⟩:JK) 2 (kn1:Int) ((JD (Jt t (kn1:Int)) l.heads l.reply).2.1) (((JD (Jt t (kn1:Int)) l.heads l.reply).1).head.epoch)).town.clerk.now),Sl a9 (((Wg (⟨(⟨t.town.clerk,t.town.owners.set kn1 ((JD (Jt t (kn1:Int)) l.heads l.reply).1),t.town.polls,t.town.net⟩:Wb),t.reach,t.fates,t.events⟩:JK) 2 (kn1:Int) ((JD (Jt t (kn1:Int)) l.heads l.reply).2.1) (((JD (Jt t (kn1:Int)) l.heads l.reply).1).head.epoch)).town.clerk.heads).length) c9,Sl a10 (((Wg (⟨(⟨t.town.clerk,t.town.owners.set kn1 ((JD (Jt t (kn1:Int)) l.heads l.reply).1),t.town.polls,t.town.net⟩:Wb),t.reach,t.fates,t.events⟩:JK) 2 (kn1:Int) ((JD (Jt t (kn1:Int)) l.heads l.reply).2.1) (((JD (Jt t (kn1:Int)) l.heads l.reply).1).head.epoch)).town.clerk.books).length) c10,Sl a11 (((Wg (⟨(⟨t.town.clerk,t.town.owners.set kn1 ((JD (Jt t (kn1:Int)) l.heads l.reply).1),t.town.polls,t.town.net⟩:Wb),t.reach,t.fates,t.events⟩:JK) 2 (kn1:Int) ((JD (Jt t (kn1:Int)) l.heads l.reply).2.1) (((JD (Jt t (kn1:Int)) l.heads l.reply).1).head.epoch)).town.owners).length) c11,Sl a12 ((((Wg (⟨(⟨t.town.clerk,t.town.owners.set kn1 ((JD (Jt t (kn1:Int)) l.heads l.reply).1),t.town.polls,t.town.net⟩:Wb),t.reach,t.fates,t.events⟩:JK) 2 (kn1:Int) ((JD (Jt t (kn1:Int)) l.heads l.reply).2.1) (((JD (Jt t (kn1:Int)) l.heads l.reply).1).head.epoch)).town.polls).set kn1 ((Wh (QC (Wg (⟨(⟨t.town.clerk,t.town.owners.set kn1 ((JD (Jt t (kn1:Int)) l.heads l.reply).1),t.town.polls,t.town.net⟩:Wb),t.reach,t.fates,t.events⟩:JK) 2 (kn1:Int) ((JD (Jt t (kn1:Int)) l.heads l.reply).2.1) (((JD (Jt t (kn1:Int)) l.heads l.reply).1).head.epoch)) (kn1:Int)) ((Wg (⟨(⟨t.town.clerk,t.town.owners.set kn1 ((JD (Jt t (kn1:Int)) l.heads l.reply).1),t.town.polls,t.town.net⟩:Wb),t.reach,t.fates,t.events⟩:JK) 2 (kn1:Int) ((JD (Jt t (kn1:Int)) l.heads l.reply).2.1) (((JD (Jt t (kn1:Int)) l.heads l.reply).1).head.epoch)).town.clerk.now)).1)).length) c12,I ((Wg (⟨(⟨t.town.clerk,t.town.owners.set kn1 ((JD (Jt t (kn1:Int)) l.heads l.reply).1),t.town.polls,t.town.net⟩:Wb),t.reach,t.fates,t.events⟩:JK) 2 (kn1:Int) ((JD (Jt t (kn1:Int)) l.heads l.reply).2.1) (((JD (Jt t (kn1:Int)) l.heads l.reply).1).head.epoch)).town.net.now),Sl a13 (((Wg (⟨(⟨t.town.clerk,t.town.owners.set kn1 ((JD (Jt t (kn1:Int)) l.heads l.reply).1),t.town.polls,t.town.net⟩:Wb),t.reach,t.fates,t.events⟩:JK) 2 (kn1:Int) ((JD (Jt t (kn1:Int)) l.heads l.reply).2.1) (((JD (Jt t (kn1:Int)) l.heads l.reply).1).head.epoch)).town.net.way).length) c13,I ((Wg (⟨(⟨t.town.clerk,t.town.owners.set kn1 ((JD (Jt t (kn1:Int)) l.heads l.reply).1),t.town.polls,t.town.net⟩:Wb),t.reach,t.fates,t.events⟩:JK) 2 (kn1:Int) ((JD (Jt t (kn1:Int)) l.heads l.reply).2.1) (((JD (Jt t (kn1:Int)) l.heads l.reply).1).head.epoch)).reach),Sl a14 (((Wg (⟨(⟨t.town.clerk,t.town.owners.set kn1 ((JD (Jt t (kn1:Int)) l.heads l.reply).1),t.town.polls,t.town.net⟩:Wb),t.reach,t.fates,t.events⟩:JK) 2 (kn1:Int) ((JD (Jt t (kn1:Int)) l.heads l.reply).2.1) (((JD (Jt t (kn1:Int)) l.heads l.reply).1).head.epoch)).fates).length) c14,Sl a15 (((Wg (⟨(⟨t.town.clerk,t.town.owners.set kn1 ((JD (Jt t (kn1:Int)) l.heads l.reply).1),t.town.polls,t.town.net⟩:Wb),t.reach,t.fates,t.events⟩:JK) 2 (kn1:Int) ((JD (Jt t (kn1:Int)) l.heads l.reply).2.1) (((JD (Jt t (kn1:Int)) l.heads l.reply).1).head.epoch)).events).length) c15]]::r2::r6::r4::r5::[Sg b3 0 [Sr (((JD (Jt t (kn1:Int)) l.heads l.reply).1).name),U (((JD (Jt t (kn1:Int)) l.heads l.reply).1).key),I (((JD (Jt t (kn1:Int)) l.heads l.reply).1).head.epoch),U (((JD (Jt t (kn1:Int)) l.heads l.reply).1).head.root),U (((JD (Jt t (kn1:Int)) l.heads l.reply).1).head.prev),I (((JD (Jt t (kn1:Int)) l.heads l.reply).1).head.at_),Sl a5 ((((JD (Jt t (kn1:Int)) l.heads l.reply).1).wanted).length) c5,I (((JD (Jt t (kn1:Int)) l.heads l.reply).1).had)]]::[Sg b1 0 [I (kn1:Int),I l.from_,I l.since,I l.due,Sl a1 l.heads.length c1,I l.reply.head.epoch,U l.reply.head.root,U l.reply.head.prev,I l.reply.head.at_,Sr l.reply.proof.name,Sl a2 l.reply.proof.entries.length c2,Sl a3 l.reply.proof.sides.length c3]]::Lr)) (by rfl) (by (simp only [Kv,KT,Y8,ZO,J7,Q9,KF,Ve,W2,e3];first | done | rfl)) (Jk 4 (Jk 4 (Jk 4 (Jk 4 (Jk 4 ?_)))))))
 have hf1:Yj t l=(⟨(⟨(WV kn1 l t).town.clerk,(WV kn1 l t).town.owners,((WV kn1 l t).town.polls).set kn1 ((Yy kn1 l t).1),(WV kn1 l t).town.net⟩:Wb),(WV kn1 l t).reach,(WV kn1 l t).fates,(WV kn1 l t).events⟩:JK):=by
  (rw [Jmt ‹_›,if_pos (by first | omega | (simp only [WV,Qn,Yy,JeH,Jbd] at *;omega))];rfl)
 refine ZX [] [] (KQ (Lr:=Lr) [[Sg b 0 (J7 (⟨(⟨(WV kn1 l t).town.clerk,(WV kn1 l t).town.owners,(((WV kn1 l t).town.polls).set kn1 ((Yy kn1 l t).1)),(WV kn1 l t).town.net⟩:Wb),(WV kn1 l t).reach,(WV kn1 l t).fates,(WV kn1 l t).events⟩:JK) a8 c8 a9 c9 a10 c10 a11 c11 a12 c12 a13 c13 a14 c14 a15 c15)],r2,r6,r4,r5] (Ja hle1 hl3) ?_)
 rw [hf1];try dsimp only
 exact ⟨a8,c8,a9,c9,a10,c10,a11,c11,a12,c12,a13,c13,a14,c14,a15,c15,r2,r6,r4,r5,rfl,w38,hs8,w39,w40,w41,hs9,hs10,hr2,hr6,w42,hs11,w43,hr4,hr5,rfl⟩
 refine Jq (Jk 4 (Jk 4 (Jk 4 (Jk 4 (Jk 4 ?_)))))
 have hf2:Yj t l=(WV kn1 l t):=by
  (rw [Jmt ‹_›,if_neg (by first | omega | (simp only [WV,Qn,Yy,JeH,Jbd] at *;omega))];done)
 refine ZX [] [] (KQ (Lr:=Lr) [[Sg b 0 (J7 (WV kn1 l t) a8 c8 a9 c9 a10 c10 a11 c11 a12 c12 a13 c13 a14 c14 a15 c15)],r2,r3,r4,r5] (Ja hle1 hl3) ?_)
 rw [hf2];try dsimp only
 exact ⟨a8,c8,a9,c9,a10,c10,a11,c11,a12,c12,a13,c13,a14,c14,a15,c15,r2,r3,r4,r5,rfl,w38,hs8,w39,w40,w41,hs9,hs10,hr2,hr3,w42,hs11,w43,hr4,hr5,rfl⟩
set_option maxRecDepth 20000 in
abbrev Jbe (kn1:Nat) (t:JK):=Wt (⟨(⟨t.town.clerk,t.town.owners,t.town.polls.set kn1 ((KP (QC t (kn1:Int)) t.town.clerk.now).1),t.town.net⟩:Wb),t.reach,t.fates,t.events⟩:JK) (⟨(-1),(kn1:Int),((Jt t (kn1:Int)).head.epoch)+1,0,[],(⟨(⟨0,0,0,0⟩:JV),(⟨[],[],[]⟩:Qy)⟩:QL)⟩:JQ)
abbrev Zi (kn1:Nat) (t:JK):=KP (QC t (kn1:Int)) t.town.clerk.now
abbrev Jco (kn1:Nat) (t:JK):=Ve (QC t (kn1:Int))
abbrev Jaj (kn1:Nat) (t:JK):=Ve (Zi kn1 t).1
theorem JpI (G:J4) (b:Nat) (t:JK) (a_1:Ba) (c_1:Nat) (a_5:Ba) (c_5:Nat) (a_6:Ba) (c_6:Nat) (a_7:Ba) (c_7:Nat) (a_8:Ba) (c_8:Nat) (a_10:Ba) (c_10:Nat) (a_12:Ba) (c_12:Nat) (a_13:Ba) (c_13:Nat) (r_7:Bg) (r_8:Bg) (r_12:Bg) (r_13:Bg) (h_0:rI t.town.clerk.queue.most) (h_1:RS Q4 G a_1 c_1 t.town.clerk.queue.wait) (h_2:rI t.town.clerk.batch) (h_3:rI t.town.clerk.every) (h_4:rI t.town.clerk.now) (h_5:RS KG G a_5 c_5 t.town.clerk.heads) (h_6:RS Qi G a_6 c_6 t.town.clerk.books) (h_7:J0 QG G a_7 c_7 t.town.owners r_7) (h_8:J0 Wp G a_8 c_8 t.town.polls r_8) (h_9:rI t.town.net.now) (h_10:RS Kg G a_10 c_10 t.town.net.way) (h_11:rI t.reach) (h_12:J0 VA G a_12 c_12 t.fates r_12) (h_13:J0 QR G a_13 c_13 t.events r_13) (k:Int) (hw_k:rI k) (hev:t.events.length≤1000000) (hto:0≤k∧k<t.town.owners.length) (hpl:t.town.polls.length=t.town.owners.length) (hep:∀ (i:Nat) o,t.town.owners[i]? = some o→o.head.epoch≤1000000):JcQ 114 #[Pt b 0,I k] G [[Sg b 0 [I t.town.clerk.queue.most,Sl a_1 t.town.clerk.queue.wait.length c_1,I t.town.clerk.batch,I t.town.clerk.every,I t.town.clerk.now,Sl a_5 t.town.clerk.heads.length c_5,Sl a_6 t.town.clerk.books.length c_6,Sl a_7 t.town.owners.length c_7,Sl a_8 t.town.polls.length c_8,I t.town.net.now,Sl a_10 t.town.net.way.length c_10,I t.reach,Sl a_12 t.fates.length c_12,Sl a_13 t.events.length c_13]],r_7,r_8,r_12,r_13] (fun u G' L'=>∃ (a_z1:Ba) (c_z1:Nat) (a_z5:Ba) (c_z5:Nat) (a_z6:Ba) (c_z6:Nat) (a_z7:Ba) (c_z7:Nat) (a_z8:Ba) (c_z8:Nat) (a_z10:Ba) (c_z10:Nat) (a_z12:Ba) (c_z12:Nat) (a_z13:Ba) (c_z13:Nat) (r_z7:Bg) (r_z8:Bg) (r_z12:Bg) (r_z13:Bg),u=.tuple #[]∧(rI ((Zv t k).town.clerk.queue.most))∧(RS Q4 G' a_z1 c_z1 ((Zv t k).town.clerk.queue.wait))∧(rI ((Zv t k).town.clerk.batch))∧(rI ((Zv t k).town.clerk.every))∧(rI ((Zv t k).town.clerk.now))∧(RS KG G' a_z5 c_z5 ((Zv t k).town.clerk.heads))∧(RS Qi G' a_z6 c_z6 ((Zv t k).town.clerk.books))∧(J0 QG G' a_z7 c_z7 ((Zv t k).town.owners) r_z7)∧(J0 Wp G' a_z8 c_z8 ((Zv t k).town.polls) r_z8)∧(rI ((Zv t k).town.net.now))∧(RS Kg G' a_z10 c_z10 ((Zv t k).town.net.way))∧(rI ((Zv t k).reach))∧(J0 VA G' a_z12 c_z12 ((Zv t k).fates) r_z12)∧(J0 QR G' a_z13 c_z13 ((Zv t k).events) r_z13)∧L'=[[Sg b 0 [I ((Zv t k).town.clerk.queue.most),Sl a_z1 (((Zv t k).town.clerk.queue.wait).length) c_z1,I ((Zv t k).town.clerk.batch),I ((Zv t k).town.clerk.every),I ((Zv t k).town.clerk.now),Sl a_z5 (((Zv t k).town.clerk.heads).length) c_z5,Sl a_z6 (((Zv t k).town.clerk.books).length) c_z6,Sl a_z7 (((Zv t k).town.owners).length) c_z7,Sl a_z8 (((Zv t k).town.polls).length) c_z8,I ((Zv t k).town.net.now),Sl a_z10 (((Zv t k).town.net.way).length) c_z10,I ((Zv t k).reach),Sl a_z12 (((Zv t k).fates).length) c_z12,Sl a_z13 (((Zv t k).events).length) c_z13]],r_z7,r_z8,r_z12,r_z13]):=by
 intro Lr
 refine JS Tryz.func114 84 [(0,Pt b 0),(1,I k)] rfl (fun w0 G0=>?_)
 show TC _ _ _ _ _ ([Sg b 0 (J7 t a_1 c_1 a_5 c_5 a_6 c_6 a_7 c_7 a_8 c_8 a_10 c_10 a_12 c_12 a_13 c_13)]::r_7::r_8::r_12::r_13::Lr)
 obtain ⟨kn1,hkn1⟩:∃ k_:Nat,k=(k_:Int):=⟨(k).toNat,by omega⟩
 have e1:k=(kn1:Int):=hkn1
 refine Wa 1 (I (kn1:Int)) (congrArg I e1) (Jf ?_)
 have hx1:(t.town.polls)[kn1]? = some (QC t (kn1:Int)):=Jgr (by omega)
 obtain ⟨b1,o1,_,_,⟨rfl,w1,w2,w3,w4,w5,w6⟩,ha1,hre1,hc1⟩:=J0.ix h_8 hx1
 refine Kt [18,19] (Wz [(0,Pt b 0),(1,Pt b 0),(2,Pt b 0),(3,Pt b 8),(4,Sl a_8 t.town.polls.length c_8),(5,I (kn1:Int)),(6,Pt b1 (o1+kn1*6)),(7,(Jco kn1 t)),(8,Pt b 0),(9,Pt b 0),(10,Pt b 0),(11,Pt b 0),(12,Pt b 4),(13,I t.town.clerk.now),(14,.tuple #[(Jaj kn1 t),I ((Zi kn1 t).2)]),(15,.tuple #[(Jaj kn1 t),I ((Zi kn1 t).2)]),(16,(Jaj kn1 t)),(17,I ((Zi kn1 t).2))] (JL [] [(0,0),(1,0),(2,0),(3,0),(4,2),(5,0),(8,0),(9,0),(10,0),(11,0),(12,0),(13,2),(15,0),(16,0),(17,0)] [6,7,14] [18] (Kb ?_ (Kb ?_ (Kb ?_ K4))) (Kb ?_ K4)))
 refine Jr 6 17 (Pt b1 (o1+kn1*6)) [(15,Sl a_8 t.town.polls.length c_8),(16,I (kn1:Int))] (fun X=>?_)
 exact Qv (b:=b1) (off:=o1) (len:=t.town.polls.length) (cap:=c_8) (ik:=.i64) 17 143 6 kn1 ha1 J5 Jn
 refine Jr 7 18 (Jco kn1 t) [(17,Pt b1 (o1+kn1*6))] (fun X=>?_)
 exact W8 (off:=o1) (p:=kn1*6) (cs:=(Y8 (QC t (kn1:Int)))) 18 143 2 0 (Jco kn1 t) hre1 hc1 Jn
 refine Jr 14 25 (.tuple #[(Jaj kn1 t),I ((Zi kn1 t).2)]) [(18,(Jco kn1 t)),(24,I t.town.clerk.now)] (fun X=>?_)
 exact Jl 25 (.tuple #[(Jaj kn1 t),I ((Zi kn1 t).2)]) (JdX G (Y8 (QC t (kn1:Int))) (QC t (kn1:Int)) (⟨rfl,w1,w2,w3,w4,w5,w6⟩) t.town.clerk.now) Jn
 refine JA 18 [] (fun X=>?_)
 refine Jv 4 #[I 0,I 0,I 0,I 0,I 0,I 0] 143 (fun b2=>JC [(18,Pt b2 0)] (JL [] [(0,0),(1,0),(2,0),(3,0),(4,4),(5,0),(8,0),(9,0),(10,0),(11,0),(12,0),(13,4),(15,0),(16,0),(17,0)] [6,7,14] [19] (Kb ?_ (Kb ?_ (Kb ?_ K4))) (Kb ?_ K4)))
 refine Jr 6 17 (Pt b1 (o1+kn1*6)) [(15,Sl a_8 t.town.polls.length c_8),(16,I (kn1:Int))] (fun X=>?_)
 exact Qv (b:=b1) (off:=o1) (len:=t.town.polls.length) (cap:=c_8) (ik:=.i64) 17 143 6 kn1 ha1 J5 Jn
 refine Jr 7 18 (Jco kn1 t) [(17,Pt b1 (o1+kn1*6))] (fun X=>?_)
 exact W8 (off:=o1) (p:=kn1*6) (cs:=(Y8 (QC t (kn1:Int)))) 18 143 3 0 (Jco kn1 t) hre1 hc1 Jn
 refine Jr 14 25 (.tuple #[(Jaj kn1 t),I ((Zi kn1 t).2)]) [(18,(Jco kn1 t)),(24,I t.town.clerk.now)] (fun X=>?_)
 exact Jl 25 (.tuple #[(Jaj kn1 t),I ((Zi kn1 t).2)]) (JdX G (Y8 (QC t (kn1:Int))) (QC t (kn1:Int)) (⟨rfl,w1,w2,w3,w4,w5,w6⟩) t.town.clerk.now) Jn
 refine JA 19 [(4,Pt b2 0),(26,(Jaj kn1 t))] (fun X=>?_)
 refine KI 0 ([Sg b2 0 (Y8 (Zi kn1 t).1)]::[Sg b 0 (J7 t a_1 c_1 a_5 c_5 a_6 c_6 a_7 c_7 a_8 c_8 a_10 c_10 a_12 c_12 a_13 c_13)]::r_7::r_8::r_12::r_13::Lr) (J9 [(20,I ((Zi kn1 t).2))] (Kq [0,1,2,3,4,5,6,7,8,9,10,11,12,13,14,15,16] [(17,0),(20,0)] [] [(0,Pt b 0),(1,I (kn1:Int)),(4,Pt b2 0),(5,I ((Zi kn1 t).2))] (Ha _) (Jc (Jf (Jg [0,0] [(29,Bo (!decide ((Zi kn1 t).2=0)))] (Jm (!decide ((Zi kn1 t).2=0)) (fun h1=>?_) (fun h1=>?_)))))))
 refine Jo (Jj (Jk 5 (Jk 5 (Jk 5 (Jk 5 (Jk 5 ?_))))))
 have hf1:Zv t k=t:=by
  rw [show k=(kn1:Int) by assumption];exact tAsk0 ‹_›
 refine Jp [] [] (KQ (Lr:=Lr) [[Sg b 0 (J7 t a_1 c_1 a_5 c_5 a_6 c_6 a_7 c_7 a_8 c_8 a_10 c_10 a_12 c_12 a_13 c_13)],r_7,r_8,r_12,r_13] (Jh _) ?_)
 rw [hf1];try dsimp only
 exact ⟨a_1,c_1,a_5,c_5,a_6,c_6,a_7,c_7,a_8,c_8,a_10,c_10,a_12,c_12,a_13,c_13,r_7,r_8,r_12,r_13,rfl,h_0,h_1,h_2,h_3,h_4,h_5,h_6,h_7,h_8,h_9,h_10,h_11,h_12,h_13,rfl⟩
 refine Jq (Jc (Jf (Jd (Jb [0,0,0,0,4,0] [(35,Sl a_8 t.town.polls.length c_8),(36,I (kn1:Int))] (Qv (b:=b1) (off:=o1) (len:=t.town.polls.length) (cap:=c_8) (ik:=.i64) 37 143 6 kn1 ha1 J5 (W8 (off:=o1) (p:=kn1*6) (cs:=(Y8 (QC t (kn1:Int)))) 38 143 3 0 (Jco kn1 t) hre1 hc1 (Jl 39 (.tuple #[Bo ((Wu (QC t (kn1:Int))).1),I ((Wu (QC t (kn1:Int))).2)]) (JcY G (Y8 (QC t (kn1:Int))) (QC t (kn1:Int)) (⟨rfl,w1,w2,w3,w4,w5,w6⟩)) (Jb [0,0,0,0,0] [(6,Bo ((Wu (QC t (kn1:Int))).1))] (Je (Jc (Jf (Jd (Jb [2] [(43,(Jaj kn1 t))] (Jl 44 (.tuple #[Bo ((Wu ((Zi kn1 t).1)).1),I ((Wu ((Zi kn1 t).1)).2)]) (JcY G (Y8 (Zi kn1 t).1) ((Zi kn1 t).1) (⟨rfl,(Jai _ _).least,(Jai _ _).most,(Jai _ _).lost,(Jai _ _).gap,(Jai _ _).next,(Jai _ _).asked⟩)) (Jb [0,0,0,0,0] [(8,Bo ((Wu ((Zi kn1 t).1)).1))] (Je (Jc (Jf (Kt [8] (Wz [(0,Pt b 0),(1,Pt b 0),(2,Pt b 0),(3,Pt b 8),(4,Sl a_8 t.town.polls.length c_8),(5,I (kn1:Int)),(6,(Jaj kn1 t)),(7,Pt b1 (o1+kn1*6))] ?_))))))))))))))))))))
 refine JL [] [(0,0),(1,0),(2,0),(3,0),(4,4),(5,0),(6,2)] [7] [8] (Kb ?_ K4) (Kb ?_ K4)
 refine Jr 7 54 (Pt b1 (o1+kn1*6)) [(51,Sl a_8 t.town.polls.length c_8),(52,I (kn1:Int))] (fun X=>?_)
 exact Qv (b:=b1) (off:=o1) (len:=t.town.polls.length) (cap:=c_8) (ik:=.i64) 54 143 6 kn1 ha1 J5 Jn
 refine JA 8 [(53,(Jaj kn1 t)),(54,Pt b1 (o1+kn1*6))] (fun X=>?_)
 refine YA (b:=b1) (off:=o1) 3 h_8 kn1 ((Zi kn1 t).1) ha1 J5 (Jaj kn1 t) (Y8 (Zi kn1 t).1) ⟨rfl,(Jai _ _).least,(Jai _ _).most,(Jai _ _).lost,(Jai _ _).gap,(Jai _ _).next,(Jai _ _).asked⟩ (fun r1 hr1=>?_)
 have e2:t.town.polls.length=(t.town.polls.set kn1 ((Zi kn1 t).1)).length:=(Hd ..).symm
 refine J9 [] (Kq [0,1,2,3,4,5,6,7] [] [] [(0,Pt b 0),(1,I (kn1:Int)),(6,Bo ((Wu (QC t (kn1:Int))).1)),(8,Bo ((Wu ((Zi kn1 t).1)).1))] (Ha _) (JlI (fr':=[(0,Pt b 0),(1,I (kn1:Int)),(6,Bo ((Wu (QC t (kn1:Int))).1)),(8,Bo ((Wu ((KP (QC t (kn1:Int)) t.town.clerk.now).1)).1))]) (L':=([Sg b2 0 [I (((KP (QC t (kn1:Int)) t.town.clerk.now).1).least),I (((KP (QC t (kn1:Int)) t.town.clerk.now).1).most),I (((KP (QC t (kn1:Int)) t.town.clerk.now).1).lost),I (((KP (QC t (kn1:Int)) t.town.clerk.now).1).gap),I (((KP (QC t (kn1:Int)) t.town.clerk.now).1).next),I (((KP (QC t (kn1:Int)) t.town.clerk.now).1).asked)]]::[Sg b 0 [I t.town.clerk.queue.most,Sl a_1 t.town.clerk.queue.wait.length c_1,I t.town.clerk.batch,I t.town.clerk.every,I t.town.clerk.now,Sl a_5 t.town.clerk.heads.length c_5,Sl a_6 t.town.clerk.books.length c_6,Sl a_7 t.town.owners.length c_7,Sl a_8 ((t.town.polls.set kn1 ((KP (QC t (kn1:Int)) t.town.clerk.now).1)).length) c_8,I t.town.net.now,Sl a_10 t.town.net.way.length c_10,I t.reach,Sl a_12 t.fates.length c_12,Sl a_13 t.events.length c_13]]::r_7::r1::r_12::r_13::Lr)) (by rfl) (by (simp only [KT,Y8,J7,Ve,e2];first | done | rfl)) (Jc (Jf (Jd (Jb [0,0,0,0,0,0,4,0] [(55,Pt b 0),(56,I (kn1:Int)),(61,Sl a_7 t.town.owners.length c_7),(62,I (kn1:Int))] ?_))))))
 have hx2:(t.town.owners)[kn1]? = some (Jt t (kn1:Int)):=YY (by omega)
 obtain ⟨b3,o2,_,_,⟨a1,c1,rfl,_,_,_,_,_,_,_,_⟩,ha2,hre2,hc2⟩:=J0.ix h_7 hx2
 refine Qv (b:=b3) (off:=o2) (len:=t.town.owners.length) (cap:=c_7) (ik:=.i64) 63 76 8 kn1 ha2 J5 (Jb [0,0] [(65,Pt b3 (o2+kn1*8+2))] (W8 (off:=o2) (p:=kn1*8) (cs:=(KT (Jt t (kn1:Int)) a1 c1)) 66 2 2 2 (I ((Jt t (kn1:Int)).head.epoch)) hre2 hc2 (Jb [0,0] [(68,.agg #[I (-1),I (kn1:Int),I (Hb.wrap (((Jt t (kn1:Int)).head.epoch)+1)),I 0,Sl none 0 0,I 0,U 0,U 0,I 0,Sr ([]),Sl none 0 0,Sl none 0 0])] ?_)))
 have e3:Hb.wrap (((Jt t (kn1:Int)).head.epoch)+1)=((Jt t (kn1:Int)).head.epoch)+1:=He _ (by (have q_:=hep kn1 _ (YY (by omega));omega))
 refine KE 68 (.agg #[I (-1),I (kn1:Int),I (((Jt t (kn1:Int)).head.epoch)+1),I 0,Sl none 0 0,I 0,U 0,U 0,I 0,Sr ([]),Sl none 0 0,Sl none 0 0]) (show (.agg #[I (-1),I (kn1:Int),I (Hb.wrap (((Jt t (kn1:Int)).head.epoch)+1)),I 0,Sl none 0 0,I 0,U 0,U 0,I 0,Sr ([]),Sl none 0 0,Sl none 0 0]:Value)=.agg #[I (-1),I (kn1:Int),I (((Jt t (kn1:Int)).head.epoch)+1),I 0,Sl none 0 0,I 0,U 0,U 0,I 0,Sr ([]),Sl none 0 0,Sl none 0 0] by simp only [e3]) ?_
 clear e3
 refine Jw 5 (Jw 5 (Jw 5 (Jw 5 (Jw 5 (Qq (Ls:=[[Sg b 0 (J7 (⟨(⟨t.town.clerk,t.town.owners,(t.town.polls.set kn1 ((Zi kn1 t).1)),t.town.net⟩:Wb),t.reach,t.fates,t.events⟩:JK) a_1 c_1 a_5 c_5 a_6 c_6 a_7 c_7 a_8 c_8 a_10 c_10 a_12 c_12 a_13 c_13)],r_7,r1,r_12,r_13]) (Lr:=([Sg b2 0 (Y8 (Zi kn1 t).1)]::Lr)) 69 (JhK G b (⟨(⟨t.town.clerk,t.town.owners,t.town.polls.set kn1 ((Zi kn1 t).1),t.town.net⟩:Wb),t.reach,t.fates,t.events⟩:JK) a_1 c_1 a_5 c_5 a_6 c_6 a_7 c_7 a_8 c_8 a_10 c_10 a_12 c_12 a_13 c_13 r_7 r1 r_12 r_13 ‹_› h_1 ‹_› ‹_› ‹_› h_5 h_6 h_7 hr1 ‹_› h_10 ‹_› h_12 h_13 [I (-1),I (kn1:Int),I (((Jt t (kn1:Int)).head.epoch)+1),I 0,Sl none 0 0,I 0,U 0,U 0,I 0,Sr ([]),Sl none 0 0,Sl none 0 0] (⟨(-1),(kn1:Int),((Jt t (kn1:Int)).head.epoch)+1,0,[],(⟨(⟨0,0,0,0⟩:JV),(⟨[],[],[]⟩:Qy)⟩:QL)⟩:JQ) (⟨none,0,none,0,none,0,rfl,(by (dsimp only;omega)),(by (dsimp only;omega)),(by (dsimp only;(have q_:=hep kn1 _ (YY J5);omega))),(by (dsimp only;omega)),(JP KG G),(by (dsimp only;omega)),(by (dsimp only;omega)),(by (dsimp only;omega)),(by (dsimp only;omega)),(Hc rfl),(JP QJ G),(JP EU G)⟩)) (fun v G1 L1 hl1 hp=>?_))))))
 obtain ⟨a2,c2,a3,c3,a4,c4,a5,c5,a6,c6,a7,c7,a8,c8,a9,c9,r2,r3,r4,r5,rfl,w14,hs2,w15,w16,w17,hs3,hs4,hr2,hr3,w18,hs5,w19,hr4,hr5,rfl⟩:=hp
 refine Je (Jc (Jf (Jd (Jb [0,0] [(71,Bo ((Wu ((Zi kn1 t).1)).1))] (Kk ((Wu ((Zi kn1 t).1)).1) [71] [0,0,0] [1,1,0] (fun bb=>[(74,Bo (bb && (!((Wu (QC t (kn1:Int))).1))))]) (Je (Jc (Jm (((Wu ((Zi kn1 t).1)).1) && (!((Wu (QC t (kn1:Int))).1))) (fun h2=>?_) (fun h2=>?_)))))))))
 refine Jd (Jb [0,0,0,0,0,0,0,2] [(75,Pt b 0),(76,I (kn1:Int)),(82,I ((Jbe kn1 t).town.clerk.now))] (Jw 4 (Jw 4 (Jw 4 (Jw 4 (Jw 4 (Qq (Ls:=[[Sg b 0 (J7 (Jbe kn1 t) a2 c2 a3 c3 a4 c4 a5 c5 a6 c6 a7 c7 a8 c8 a9 c9)],r2,r3,r4,r5]) (Lr:=([Sg b2 0 (Y8 (Zi kn1 t).1)]::Lr)) 83 (JeG G1 b (Jbe kn1 t) a2 c2 a3 c3 a4 c4 a5 c5 a6 c6 a7 c7 a8 c8 a9 c9 r2 r3 r4 r5 w14 hs2 w15 w16 w17 hs3 hs4 hr2 hr3 w18 hs5 w19 hr4 hr5 3 J5 (kn1:Int) J5 0 J5 ((Jbe kn1 t).town.clerk.now) w17 ‹_›) (fun v G2 L1 hl2 hp=>?_))))))))
 obtain ⟨a10,c10,a11,c11,a12,c12,a13,c13,a14,c14,a15,c15,a16,c16,a17,c17,r6,r7,r8,r9,rfl,w20,hs6,w21,w22,w23,hs7,hs8,hr6,hr7,w24,hs9,w25,hr8,hr9,rfl⟩:=hp
 refine Je (Jk 4 (Jk 4 (Jk 4 (Jk 4 (Jk 4 ?_)))))
 have hf2:Zv t k=(Wg (Jbe kn1 t) 3 (kn1:Int) 0 ((Jbe kn1 t).town.clerk.now)):=by
  rw [show k=(kn1:Int) by assumption];exact tAsk1 ‹_› ‹_›
 refine ZX [] [] (KQ (Lr:=Lr) [[Sg b 0 (J7 (Wg (Jbe kn1 t) 3 (kn1:Int) 0 ((Jbe kn1 t).town.clerk.now)) a10 c10 a11 c11 a12 c12 a13 c13 a14 c14 a15 c15 a16 c16 a17 c17)],r6,r7,r8,r9] (Ja hl1 hl2) ?_)
 rw [hf2];try dsimp only
 exact ⟨a10,c10,a11,c11,a12,c12,a13,c13,a14,c14,a15,c15,a16,c16,a17,c17,r6,r7,r8,r9,rfl,w20,hs6,w21,w22,w23,hs7,hs8,hr6,hr7,w24,hs9,w25,hr8,hr9,rfl⟩
 refine Jq (Jk 4 (Jk 4 (Jk 4 (Jk 4 (Jk 4 ?_)))))
 have hf3:Zv t k=(Jbe kn1 t):=by
  rw [show k=(kn1:Int) by assumption];exact tAsk2 ‹_› ‹_›
 refine ZX [] [] (KQ (Lr:=Lr) [[Sg b 0 (J7 (Jbe kn1 t) a2 c2 a3 c3 a4 c4 a5 c5 a6 c6 a7 c7 a8 c8 a9 c9)],r2,r3,r4,r5] hl1 ?_)
 rw [hf3];try dsimp only
 exact ⟨a2,c2,a3,c3,a4,c4,a5,c5,a6,c6,a7,c7,a8,c8,a9,c9,r2,r3,r4,r5,rfl,w14,hs2,w15,w16,w17,hs3,hs4,hr2,hr3,w18,hs5,w19,hr4,hr5,rfl⟩
structure VU (t:JK):Prop where
 I:∃ s,ZS s t
 W:WU t
 polls:t.town.polls.length=t.town.owners.length
 len:t.town.owners.length≤4
 reach:1≤t.reach∧t.reach≤40
theorem VU.epoch {t:JK} (h:VU t) (i:Nat) (o:Qh) (ho:t.town.owners[i]? = some o):o.head.epoch≤1000000:=by
 obtain ⟨s,h⟩:=h.I
 have:=Zf (K8.1 (h.own i o ho).1).2.1
 omega
theorem VU.grew {t u:JK} {k:Nat} (h:VU t) (g:Yx t u k) (hI:∃ s,ZS s u) (hW:WU u):VU u :=
 ⟨hI,hW,by rw [g.polls,g.own];exact h.polls,by rw [g.own];exact h.len,by rw [g.reach];exact h.reach⟩
theorem JqS {s:Ky} {t:JK} (h:ZS s t) (h1:¬ (KM t.town.clerk).1.now=t.town.clerk.now):ZS s (Vs t):=by
 obtain ⟨t0,tk⟩:=JbO h.clerk
 have hnn:(KM t.town.clerk).1.now=t.town.clerk.now+1:=by
  rcases JcV h.clerk with q | q
  · exact absurd q.1 h1
  · exact q.2
 have hc:=tk.ok.now
 have hn:=h.now
 have hr:=Jc0 h.net (by omega)
 refine ⟨tk.ok,hr.1,?_,h.own,h.poll⟩
 show (Kr t.town.net).1.now=(KM t.town.clerk).1.now
 rw [hr.2];omega
theorem ZA {t:JK} (h:VU t) (h1:¬ (KM t.town.clerk).1.now=t.town.clerk.now) {jt:JK} {i:Nat} (hJ:jt=Zh (Vs t) ((Kr t.town.net).2.1.take i)) :
  VU jt∧jt.events.length≤t.events.length+60∧jt.town.owners.length=t.town.owners.length:=by
 obtain ⟨s,hI⟩:=h.I
 subst hJ
 have hm:∀ x∈(Kr t.town.net).2.1.take i,x∈(Kr t.town.net).2.1:=fun x hx=>List.mem_of_mem_take hx
 have g:=JeD ((Kr t.town.net).2.1.take i) (Vs t)
 have hl:((Kr t.town.net).2.1.take i).length≤60:=by have:=JjU t.town.net;rw [List.length_take];omega
 have g2:Yx t (Zh (Vs t) ((Kr t.town.net).2.1.take i)) 60:=(⟨g.ev,g.own,g.polls,g.reach⟩:Yx t _ _).mono hl
 exact ⟨h.grew g2 ⟨s,JeF _ (JqS hI h1) (fun x hx=>h.W x (Jgt (hm x hx)))⟩ (JeE _ (Jmp h.W)),g2.len.1,g2.own⟩
theorem Jgv {t:JK} (h:VU t) {i:Nat} {x:JQ} (hx:(Kr t.town.net).2.1[i]? = some x):x.to_<t.town.owners.length:=h.W x (Jgt (List.mem_of_getElem? hx))
theorem JeI {t:JK} (h:VU t) {kt:JK} {i:Nat} (hK:kt=Jbs t i):VU kt∧kt.events.length≤t.events.length+i∧kt.town.owners.length=t.town.owners.length:=by
 obtain ⟨s,hI⟩:=h.I
 subst hK
 have g:=Jlk t i
 exact ⟨h.grew g ⟨s,Jlo hI i⟩ (Jll h.W i),g.len.1,g.own⟩
theorem Jlq {t:JK} (h:(KM t.town.clerk).1.now=t.town.clerk.now):WA t=t:=by unfold WA;rw [if_pos h]
theorem JpJ {t jt kt:JK} {i k:Nat} (h:¬ (KM t.town.clerk).1.now=t.town.clerk.now) (hJ:jt=Zh (Vs t) ((Kr t.town.net).2.1.take i)) (hi:(Kr t.town.net).2.1.length≤i) (hK:kt=Jbs jt k) (hk:k=jt.town.owners.length):WA t=kt:=by
 unfold WA
 rw [List.take_of_length_le hi] at hJ
 rw [if_neg h,hK,hk,hJ]
theorem do_H {t:JK} (h:VU t) (d:KV):VU (YB t d)∧(YB t d).events.length≤t.events.length+64:=by
 obtain ⟨s,hI⟩:=h.I
 have g:=g_do h.len d
 exact ⟨h.grew g ⟨s,i_do hI h.W d⟩ (w_do h.W d),g.len.1⟩
set_option maxRecDepth 20000 in
abbrev ZI (t:JK):=KM t.town.clerk
set_option maxHeartbeats 1600000 in
theorem JnL (G:J4) (b:Nat) (t:JK) (a_1:Ba) (c_1:Nat) (a_5:Ba) (c_5:Nat) (a_6:Ba) (c_6:Nat) (a_7:Ba) (c_7:Nat) (a_8:Ba) (c_8:Nat) (a_10:Ba) (c_10:Nat) (a_12:Ba) (c_12:Nat) (a_13:Ba) (c_13:Nat) (r_7:Bg) (r_8:Bg) (r_12:Bg) (r_13:Bg) (h_0:rI t.town.clerk.queue.most) (h_1:RS Q4 G a_1 c_1 t.town.clerk.queue.wait) (h_2:rI t.town.clerk.batch) (h_3:rI t.town.clerk.every) (h_4:rI t.town.clerk.now) (h_5:RS KG G a_5 c_5 t.town.clerk.heads) (h_6:RS Qi G a_6 c_6 t.town.clerk.books) (h_7:J0 QG G a_7 c_7 t.town.owners r_7) (h_8:J0 Wp G a_8 c_8 t.town.polls r_8) (h_9:rI t.town.net.now) (h_10:RS Kg G a_10 c_10 t.town.net.way) (h_11:rI t.reach) (h_12:J0 VA G a_12 c_12 t.fates r_12) (h_13:J0 QR G a_13 c_13 t.events r_13)  (hH:VU t) (hev:t.events.length≤900000):JcQ 64 #[Pt b 0] G [[Sg b 0 [I t.town.clerk.queue.most,Sl a_1 t.town.clerk.queue.wait.length c_1,I t.town.clerk.batch,I t.town.clerk.every,I t.town.clerk.now,Sl a_5 t.town.clerk.heads.length c_5,Sl a_6 t.town.clerk.books.length c_6,Sl a_7 t.town.owners.length c_7,Sl a_8 t.town.polls.length c_8,I t.town.net.now,Sl a_10 t.town.net.way.length c_10,I t.reach,Sl a_12 t.fates.length c_12,Sl a_13 t.events.length c_13]],r_7,r_8,r_12,r_13] (fun u G' L'=>∃ (a_z1:Ba) (c_z1:Nat) (a_z5:Ba) (c_z5:Nat) (a_z6:Ba) (c_z6:Nat) (a_z7:Ba) (c_z7:Nat) (a_z8:Ba) (c_z8:Nat) (a_z10:Ba) (c_z10:Nat) (a_z12:Ba) (c_z12:Nat) (a_z13:Ba) (c_z13:Nat) (r_z7:Bg) (r_z8:Bg) (r_z12:Bg) (r_z13:Bg),u=.tuple #[]∧(rI ((WA t).town.clerk.queue.most))∧(RS Q4 G' a_z1 c_z1 ((WA t).town.clerk.queue.wait))∧(rI ((WA t).town.clerk.batch))∧(rI ((WA t).town.clerk.every))∧(rI ((WA t).town.clerk.now))∧(RS KG G' a_z5 c_z5 ((WA t).town.clerk.heads))∧(RS Qi G' a_z6 c_z6 ((WA t).town.clerk.books))∧(J0 QG G' a_z7 c_z7 ((WA t).town.owners) r_z7)∧(J0 Wp G' a_z8 c_z8 ((WA t).town.polls) r_z8)∧(rI ((WA t).town.net.now))∧(RS Kg G' a_z10 c_z10 ((WA t).town.net.way))∧(rI ((WA t).reach))∧(J0 VA G' a_z12 c_z12 ((WA t).fates) r_z12)∧(J0 QR G' a_z13 c_z13 ((WA t).events) r_z13)∧L'=[[Sg b 0 [I ((WA t).town.clerk.queue.most),Sl a_z1 (((WA t).town.clerk.queue.wait).length) c_z1,I ((WA t).town.clerk.batch),I ((WA t).town.clerk.every),I ((WA t).town.clerk.now),Sl a_z5 (((WA t).town.clerk.heads).length) c_z5,Sl a_z6 (((WA t).town.clerk.books).length) c_z6,Sl a_z7 (((WA t).town.owners).length) c_z7,Sl a_z8 (((WA t).town.polls).length) c_z8,I ((WA t).town.net.now),Sl a_z10 (((WA t).town.net.way).length) c_z10,I ((WA t).reach),Sl a_z12 (((WA t).fates).length) c_z12,Sl a_z13 (((WA t).events).length) c_z13]],r_z7,r_z8,r_z12,r_z13]):=by
 intro Lr
 refine JS Tryz.func64 79 [(0,Pt b 0)] rfl (fun w0 G0=>?_)
 show TC _ _ _ _ _ ([Sg b 0 (J7 t a_1 c_1 a_5 c_5 a_6 c_6 a_7 c_7 a_8 c_8 a_10 c_10 a_12 c_12 a_13 c_13)]::r_7::r_8::r_12::r_13::Lr)
 refine Jf (Jd (Jb [0,0,0,0,2] [(16,(QH t.town.clerk a_1 c_1 a_5 c_5 a_6 c_6))] (JM 17 (Jhd G (KX t.town.clerk a_1 c_1 a_5 c_5 a_6 c_6) t.town.clerk (⟨a_1,c_1,a_5,c_5,a_6,c_6,rfl,h_0,h_1,h_2,h_3,h_4,h_5,h_6⟩)) (fun v G1 L1 hl1 hp=>?_))))
 obtain ⟨a1,c1,a2,c2,a3,c3,rfl,w1,hs1,w2,w3,w4,hs2,hs3,rfl⟩:=hp
 refine Jb [0,0,0,0] [(18,(QH (ZI t).1 a1 c1 a2 c2 a3 c3)),(19,Bo ((ZI t).2.1)),(20,I ((ZI t).2.2))] (Jv 2 #[I 0,Sl none 0 0,I 0,I 0,I 0,Sl none 0 0,Sl none 0 0] 60 (fun b1=>JX [3,0,0] [] ([Sg b1 0 (KX (ZI t).1 a1 c1 a2 c2 a3 c3)]::[Sg b 0 (J7 t a_1 c_1 a_5 c_5 a_6 c_6 a_7 c_7 a_8 c_8 a_10 c_10 a_12 c_12 a_13 c_13)]::r_7::r_8::r_12::r_13::Lr) (Je (Jc (Jf (Jf (Kt [] (Wz [(0,Pt b1 4),(1,I (((ZI t).1).now)),(2,Pt b 0),(3,Pt b 0),(4,Pt b 0),(5,Pt b 0),(6,Pt b 4),(7,I t.town.clerk.now),(8,Bo (decide (((ZI t).1).now=t.town.clerk.now)))] (Kq [] [(0,0),(1,2),(2,0),(3,0),(4,0),(5,0),(6,0),(7,4),(8,0)] [] [(0,Pt b 0),(2,Pt b1 0),(29,Bo (decide (((ZI t).1).now=t.town.clerk.now)))] (Ha _) (Jc (Jm (decide (((ZI t).1).now=t.town.clerk.now)) (fun h1=>?_) (fun h1=>?_))))))))))))
 refine Jo (Jj (Jk 5 (Jk 5 (Jk 5 (Jk 5 (Jk 5 ?_))))))
 have hf1:WA t=t:=by
  exact Jlq ‹_›
 refine Jp [] [] (KQ (Lr:=Lr) [[Sg b 0 (J7 t a_1 c_1 a_5 c_5 a_6 c_6 a_7 c_7 a_8 c_8 a_10 c_10 a_12 c_12 a_13 c_13)],r_7,r_8,r_12,r_13] hl1 ?_)
 rw [hf1];try dsimp only
 exact ⟨a_1,c_1,a_5,c_5,a_6,c_6,a_7,c_7,a_8,c_8,a_10,c_10,a_12,c_12,a_13,c_13,r_7,r_8,r_12,r_13,rfl,h_0,(h_1.mono hl1),h_2,h_3,h_4,(h_5.mono hl1),(h_6.mono hl1),(h_7.mono hl1),(h_8.mono hl1),h_9,(h_10.mono hl1),h_11,(h_12.mono hl1),(h_13.mono hl1),rfl⟩
 refine Jq (Jc (QF [0,2,0,0,0,5] [] ([Sg b1 0 (KX (ZI t).1 a1 c1 a2 c2 a3 c3)]::[Sg b 0 (J7 (⟨(⟨(ZI t).1,t.town.owners,t.town.polls,t.town.net⟩:Wb),t.reach,t.fates,t.events⟩:JK) a1 c1 a2 c2 a3 c3 a_7 c_7 a_8 c_8 a_10 c_10 a_12 c_12 a_13 c_13)]::r_7::r_8::r_12::r_13::Lr) (Jf (Jd (Jb [0,0,0,0,4] [(40,.agg #[I t.town.net.now,Sl a_10 t.town.net.way.length c_10])] (JM 41 (JjR G1 [I t.town.net.now,Sl a_10 t.town.net.way.length c_10] t.town.net (⟨a_10,c_10,rfl,h_9,(h_10.mono hl1)⟩)) (fun v G2 L1 hl2 hp=>?_)))))))
 obtain ⟨a4,c4,a5,c5,rfl,w5,hs4,hs5,rfl⟩:=hp
 refine Jb [0,0,0,0] [(42,.agg #[I (((Kr t.town.net).1).now),Sl a4 ((((Kr t.town.net).1).way).length) c4]),(43,Sl a5 (((Kr t.town.net).2.1).length) c5),(44,I ((Kr t.town.net).2.2))] (Jv 5 #[I 0,Sl none 0 0] 65 (fun b2=>JX [3,0,0] [(6,Sl a5 (((Kr t.town.net).2.1).length) c5)] ([Sg b2 0 [I (((Kr t.town.net).1).now),Sl a4 ((((Kr t.town.net).1).way).length) c4]]::[Sg b1 0 (KX (ZI t).1 a1 c1 a2 c2 a3 c3)]::[Sg b 0 (J7 (⟨(⟨(ZI t).1,t.town.owners,t.town.polls,t.town.net⟩:Wb),t.reach,t.fates,t.events⟩:JK) a1 c1 a2 c2 a3 c3 a_7 c_7 a_8 c_8 a_10 c_10 a_12 c_12 a_13 c_13)]::r_7::r_8::r_12::r_13::Lr) (Je (Jc (QF [0,2,0,0,0,7] [] ([Sg b2 0 [I (((Kr t.town.net).1).now),Sl a4 ((((Kr t.town.net).1).way).length) c4]]::[Sg b1 0 (KX (ZI t).1 a1 c1 a2 c2 a3 c3)]::[Sg b 0 (J7 (⟨(⟨(ZI t).1,t.town.owners,t.town.polls,(Kr t.town.net).1⟩:Wb),t.reach,t.fates,t.events⟩:JK) a1 c1 a2 c2 a3 c3 a_7 c_7 a_8 c_8 a4 c4 a_12 c_12 a_13 c_13)]::r_7::r_8::r_12::r_13::Lr) (Jf (Jg [0,0,0] [(50,Sl a5 (((Kr t.town.net).2.1).length) c5),(51,I (((Kr t.town.net).2.1).length:Int)),(52,I 0)] (Jx ?_))))))))
 have hlm_hs5:((Kr t.town.net).2.1).length≤9223372036854775807:=Nat.le_trans (hs5).le (hs5).max
 refine Qb (σ:=Nat×JK×Ba×Nat×Ba×Nat×Ba×Nat×Ba×Nat×Bg×Ba×Nat×Bg×Ba×Nat×Ba×Nat×Bg×Ba×Nat×Bg×J4) (fun q_=>(J4.le G2 q_.2.2.2.2.2.2.2.2.2.2.2.2.2.2.2.2.2.2.2.2.2.2)∧(q_.1≤((Kr t.town.net).2.1).length)∧(RS Q4 q_.2.2.2.2.2.2.2.2.2.2.2.2.2.2.2.2.2.2.2.2.2.2 q_.2.2.1 q_.2.2.2.1 q_.2.1.town.clerk.queue.wait)∧(RS KG q_.2.2.2.2.2.2.2.2.2.2.2.2.2.2.2.2.2.2.2.2.2.2 q_.2.2.2.2.1 q_.2.2.2.2.2.1 q_.2.1.town.clerk.heads)∧(RS Qi q_.2.2.2.2.2.2.2.2.2.2.2.2.2.2.2.2.2.2.2.2.2.2 q_.2.2.2.2.2.2.1 q_.2.2.2.2.2.2.2.1 q_.2.1.town.clerk.books)∧(J0 QG q_.2.2.2.2.2.2.2.2.2.2.2.2.2.2.2.2.2.2.2.2.2.2 q_.2.2.2.2.2.2.2.2.1 q_.2.2.2.2.2.2.2.2.2.1 q_.2.1.town.owners q_.2.2.2.2.2.2.2.2.2.2.1)∧(J0 Wp q_.2.2.2.2.2.2.2.2.2.2.2.2.2.2.2.2.2.2.2.2.2.2 q_.2.2.2.2.2.2.2.2.2.2.2.1 q_.2.2.2.2.2.2.2.2.2.2.2.2.1 q_.2.1.town.polls q_.2.2.2.2.2.2.2.2.2.2.2.2.2.1)∧(RS Kg q_.2.2.2.2.2.2.2.2.2.2.2.2.2.2.2.2.2.2.2.2.2.2 q_.2.2.2.2.2.2.2.2.2.2.2.2.2.2.1 q_.2.2.2.2.2.2.2.2.2.2.2.2.2.2.2.1 q_.2.1.town.net.way)∧(J0 VA q_.2.2.2.2.2.2.2.2.2.2.2.2.2.2.2.2.2.2.2.2.2.2 q_.2.2.2.2.2.2.2.2.2.2.2.2.2.2.2.2.1 q_.2.2.2.2.2.2.2.2.2.2.2.2.2.2.2.2.2.1 q_.2.1.fates q_.2.2.2.2.2.2.2.2.2.2.2.2.2.2.2.2.2.2.1)∧(J0 QR q_.2.2.2.2.2.2.2.2.2.2.2.2.2.2.2.2.2.2.2.2.2.2 q_.2.2.2.2.2.2.2.2.2.2.2.2.2.2.2.2.2.2.2.1 q_.2.2.2.2.2.2.2.2.2.2.2.2.2.2.2.2.2.2.2.2.1 q_.2.1.events q_.2.2.2.2.2.2.2.2.2.2.2.2.2.2.2.2.2.2.2.2.2.1)∧(rI q_.2.1.town.clerk.queue.most)∧(rI q_.2.1.town.clerk.batch)∧(rI q_.2.1.town.clerk.every)∧(rI q_.2.1.town.clerk.now)∧(rI q_.2.1.town.net.now)∧(rI q_.2.1.reach)∧(q_.2.1=Zh (Vs t) ((Kr t.town.net).2.1.take q_.1))) (fun q_=>[(0,Pt b 0),(50,Sl a5 (((Kr t.town.net).2.1).length) c5),(51,I (((Kr t.town.net).2.1).length:Int)),(52,I (q_.1:Int))]) (fun q_=>q_.2.2.2.2.2.2.2.2.2.2.2.2.2.2.2.2.2.2.2.2.2.2) (fun q_=>([Sg b2 0 [I (((Kr t.town.net).1).now),Sl a4 ((((Kr t.town.net).1).way).length) c4]]::[Sg b1 0 (KX (ZI t).1 a1 c1 a2 c2 a3 c3)]::[Sg b 0 (J7 q_.2.1 q_.2.2.1 q_.2.2.2.1 q_.2.2.2.2.1 q_.2.2.2.2.2.1 q_.2.2.2.2.2.2.1 q_.2.2.2.2.2.2.2.1 q_.2.2.2.2.2.2.2.2.1 q_.2.2.2.2.2.2.2.2.2.1 q_.2.2.2.2.2.2.2.2.2.2.2.1 q_.2.2.2.2.2.2.2.2.2.2.2.2.1 q_.2.2.2.2.2.2.2.2.2.2.2.2.2.2.1 q_.2.2.2.2.2.2.2.2.2.2.2.2.2.2.2.1 q_.2.2.2.2.2.2.2.2.2.2.2.2.2.2.2.2.1 q_.2.2.2.2.2.2.2.2.2.2.2.2.2.2.2.2.2.1 q_.2.2.2.2.2.2.2.2.2.2.2.2.2.2.2.2.2.2.2.1 q_.2.2.2.2.2.2.2.2.2.2.2.2.2.2.2.2.2.2.2.2.1)]::q_.2.2.2.2.2.2.2.2.2.2.1::q_.2.2.2.2.2.2.2.2.2.2.2.2.2.1::q_.2.2.2.2.2.2.2.2.2.2.2.2.2.2.2.2.2.2.1::q_.2.2.2.2.2.2.2.2.2.2.2.2.2.2.2.2.2.2.2.2.2.1::Lr)) (fun q_=>((Kr t.town.net).2.1).length-q_.1) (0,(⟨(⟨((ZI t).1),t.town.owners,t.town.polls,((Kr t.town.net).1)⟩:Wb),t.reach,t.fates,t.events⟩:JK),a1,c1,a2,c2,a3,c3,a_7,c_7,r_7,a_8,c_8,r_8,a4,c4,a_12,c_12,r_12,a_13,c_13,r_13,G2) ⟨(Jh _),(by (try dsimp only);omega),(hs1.mono hl2),(hs2.mono hl2),(hs3.mono hl2),(h_7.mono (Ja hl1 hl2)),(h_8.mono (Ja hl1 hl2)),hs4,(h_12.mono (Ja hl1 hl2)),(h_13.mono (Ja hl1 hl2)),w1,w2,w3,w4,w5,h_11,(by (try dsimp only);rfl)⟩ (fun q_ hs=>?_)
 obtain ⟨i,jt,ajt0,cjt0,ajt1,cjt1,ajt2,cjt2,ajt3,cjt3,rjt7,ajt4,cjt4,rjt8,ajt5,cjt5,ajt6,cjt6,rjt12,ajt7,cjt7,rjt13,g⟩:=q_
 obtain ⟨hle,hi,hjt1,hjt5,hjt6,hjt7,hjt8,hjt10,hjt12,hjt13,hjt0,hjt2,hjt3,hjt4,hjt9,hjt11,hJ⟩:=hs
 dsimp only at hle hi hjt1 hjt5 hjt6 hjt7 hjt8 hjt10 hjt12 hjt13 hjt0 hjt2 hjt3 hjt4 hjt9 hjt11 hJ
 dsimp only
 refine Jg [0] [(53,Bo (decide ((i:Int)<(((Kr t.town.net).2.1).length:Int))))] (Jf (Jm (decide ((i:Int)<(((Kr t.town.net).2.1).length:Int))) (fun h2=>?_) (fun h2=>?_)))
 refine Jq (Jc (Jf (Jx (Jf (Jd ?_)))))
 obtain ⟨b3,o1,rfl⟩:=RS.addr (hs5.mono hle) (k:=i) (by omega)
 obtain ⟨x1,hx1⟩:=QW (l:=(Kr t.town.net).2.1) (k:=i) (by omega)
 obtain ⟨_,⟨a6,c6,a7,c7,a8,c8,rfl,w6,w7,w8,w9,hs6,w10,w11,w12,w13,w14,hs7,hs8⟩,hc1⟩:=RS.get (hs5.mono hle) hx1
 refine JY (b:=b3) (off:=o1) (len:=((Kr t.town.net).2.1).length) (cap:=c5) (ik:=.i64) 54 51 12 i J5 (JR 55 51 (cs:=(Kv x1 a6 c6 a7 c7 a8 c8)) 0 (Q9 x1 a6 c6 a7 c7 a8 c8) hc1 (Jv 9 #[I 0,I 0,I 0,I 0,Sl none 0 0,I 0,U 0,U 0,I 0,Sr ([]),Sl none 0 0,Sl none 0 0] 51 (fun b4=>JX [3] [] ([Sg b4 0 (Kv x1 a6 c6 a7 c7 a8 c8)]::[Sg b2 0 [I (((Kr t.town.net).1).now),Sl a4 ((((Kr t.town.net).1).way).length) c4]]::[Sg b1 0 (KX (ZI t).1 a1 c1 a2 c2 a3 c3)]::[Sg b 0 (J7 jt ajt0 cjt0 ajt1 cjt1 ajt2 cjt2 ajt3 cjt3 ajt4 cjt4 ajt5 cjt5 ajt6 cjt6 ajt7 cjt7)]::rjt7::rjt8::rjt12::rjt13::Lr) (Je (Jc (Jg [0,2,0] [(58,Bo (decide (x1.to_<0)))] (Jm (decide (x1.to_<0)) (fun h3=>?_) (fun h3=>?_))))))))
 refine Jd (Jb [0,2] [(59,Pt b 0),(60,(Q9 x1 a6 c6 a7 c7 a8 c8))] (Jw 7 (Jw 7 (Jw 7 (Jw 7 (Jw 7 (Qq (Ls:=[[Sg b 0 (J7 jt ajt0 cjt0 ajt1 cjt1 ajt2 cjt2 ajt3 cjt3 ajt4 cjt4 ajt5 cjt5 ajt6 cjt6 ajt7 cjt7)],rjt7,rjt8,rjt12,rjt13]) (Lr:=([Sg b4 0 (Kv x1 a6 c6 a7 c7 a8 c8)]::[Sg b2 0 [I (((Kr t.town.net).1).now),Sl a4 ((((Kr t.town.net).1).way).length) c4]]::[Sg b1 0 (KX (ZI t).1 a1 c1 a2 c2 a3 c3)]::Lr)) 61 (JjW g b jt ajt0 cjt0 ajt1 cjt1 ajt2 cjt2 ajt3 cjt3 ajt4 cjt4 ajt5 cjt5 ajt6 cjt6 ajt7 cjt7 rjt7 rjt8 rjt12 rjt13 hjt0 hjt1 hjt2 hjt3 hjt4 hjt5 hjt6 hjt7 hjt8 hjt9 hjt10 hjt11 hjt12 hjt13 (Kv x1 a6 c6 a7 c7 a8 c8) x1 (⟨a6,c6,a7,c7,a8,c8,rfl,w6,w7,w8,w9,hs6,w10,w11,w12,w13,w14,hs7,hs8⟩) (by exact (ZA hH ‹_› hJ).1.reach)) (fun v G3 L1 hl3 hp=>?_))))))))
 obtain ⟨a9,c9,a10,c10,a11,c11,a12,c12,a13,c13,a14,c14,a15,c15,a16,c16,r1,r2,r3,r4,rfl,_,hs9,_,_,_,hs10,hs11,hr1,hr2,_,hs12,_,hr3,hr4,rfl⟩:=hp
 refine Je (JN (Jc (Jd (Jb [0,0] [(52,I (Hb.wrap ((i:Int)+1)))] (Kp 52 ((i:Int)+1) J5 (Je (Jk 4 (Jk 4 (Jk 4 (Jk 4 (Jk 4 (Jk 7 (Jk 7 ?_)))))))))))))
 exact QA ([Sg b2 0 [I (((Kr t.town.net).1).now),Sl a4 ((((Kr t.town.net).1).way).length) c4]]::[Sg b1 0 (KX (ZI t).1 a1 c1 a2 c2 a3 c3)]::[Sg b 0 (J7 (Ql jt x1) a9 c9 a10 c10 a11 c11 a12 c12 a13 c13 a14 c14 a15 c15 a16 c16)]::r1::r2::r3::r4::Lr) (Qf (i+1,(Ql jt x1),a9,c9,a10,c10,a11,c11,a12,c12,r1,a13,c13,r2,a14,c14,a15,c15,r3,a16,c16,r4,G3) ⟨(Ja hle hl3),J5,hs9,hs10,hs11,hr1,hr2,hs12,hr3,hr4,‹_›,‹_›,‹_›,‹_›,‹_›,‹_›,(by (try dsimp only);rw [← JcZ hx1,← hJ];unfold ZH;rw [if_pos (by omega)])⟩ (by (try dsimp only);omega))
 refine Jd (Jb [0,2] [(62,Pt b 0),(63,(Q9 x1 a6 c6 a7 c7 a8 c8))] (Jw 7 (Jw 7 (Jw 7 (Jw 7 (Jw 7 (Qq (Ls:=[[Sg b 0 (J7 jt ajt0 cjt0 ajt1 cjt1 ajt2 cjt2 ajt3 cjt3 ajt4 cjt4 ajt5 cjt5 ajt6 cjt6 ajt7 cjt7)],rjt7,rjt8,rjt12,rjt13]) (Lr:=([Sg b4 0 (Kv x1 a6 c6 a7 c7 a8 c8)]::[Sg b2 0 [I (((Kr t.town.net).1).now),Sl a4 ((((Kr t.town.net).1).way).length) c4]]::[Sg b1 0 (KX (ZI t).1 a1 c1 a2 c2 a3 c3)]::Lr)) 64 (JpH g b jt ajt0 cjt0 ajt1 cjt1 ajt2 cjt2 ajt3 cjt3 ajt4 cjt4 ajt5 cjt5 ajt6 cjt6 ajt7 cjt7 rjt7 rjt8 rjt12 rjt13 hjt0 hjt1 hjt2 hjt3 hjt4 hjt5 hjt6 hjt7 hjt8 hjt9 hjt10 hjt11 hjt12 hjt13 (Kv x1 a6 c6 a7 c7 a8 c8) x1 (⟨a6,c6,a7,c7,a8,c8,rfl,w6,w7,w8,w9,hs6,w10,w11,w12,w13,w14,hs7,hs8⟩) (by (have q_:=(ZA hH ‹_› hJ);have q2_:=Jgv hH ‹_›;omega)) (by (have q_:=(ZA hH ‹_› hJ);have q2_:=Jgv hH ‹_›;omega)) (by exact (ZA hH ‹_› hJ).1.polls)) (fun v G4 L1 hl4 hp=>?_))))))))
 obtain ⟨a17,c17,a18,c18,a19,c19,a20,c20,a21,c21,a22,c22,a23,c23,a24,c24,r5,r6,r7,r8,rfl,_,hs13,_,_,_,hs14,hs15,hr5,hr6,_,hs16,_,hr7,hr8,rfl⟩:=hp
 refine Je (JN (Jc (Jd (Jb [0,0] [(52,I (Hb.wrap ((i:Int)+1)))] (Kp 52 ((i:Int)+1) J5 (Je (Jk 4 (Jk 4 (Jk 4 (Jk 4 (Jk 4 (Jk 7 (Jk 7 ?_)))))))))))))
 exact QA ([Sg b2 0 [I (((Kr t.town.net).1).now),Sl a4 ((((Kr t.town.net).1).way).length) c4]]::[Sg b1 0 (KX (ZI t).1 a1 c1 a2 c2 a3 c3)]::[Sg b 0 (J7 (Yj jt x1) a17 c17 a18 c18 a19 c19 a20 c20 a21 c21 a22 c22 a23 c23 a24 c24)]::r5::r6::r7::r8::Lr) (Qf (i+1,(Yj jt x1),a17,c17,a18,c18,a19,c19,a20,c20,r5,a21,c21,r6,a22,c22,a23,c23,r7,a24,c24,r8,G4) ⟨(Ja hle hl4),J5,hs13,hs14,hs15,hr5,hr6,hs16,hr7,hr8,‹_›,‹_›,‹_›,‹_›,‹_›,‹_›,(by (try dsimp only);rw [← JcZ hx1,← hJ];unfold ZH;rw [if_neg (by omega)])⟩ (by (try dsimp only);omega))
 refine KW (J1 (J8 (JT (Jc (Jg [0,0,0,0,6,0,0] [(71,I (jt.town.owners.length:Int)),(72,I 0)] (Jx ?_))))))
 refine Qb (σ:=Nat×JK×Ba×Nat×Ba×Nat×Ba×Nat×Ba×Nat×Bg×Ba×Nat×Bg×Ba×Nat×Ba×Nat×Bg×Ba×Nat×Bg×J4) (fun q_=>(J4.le g q_.2.2.2.2.2.2.2.2.2.2.2.2.2.2.2.2.2.2.2.2.2.2)∧(q_.1≤jt.town.owners.length)∧(RS Q4 q_.2.2.2.2.2.2.2.2.2.2.2.2.2.2.2.2.2.2.2.2.2.2 q_.2.2.1 q_.2.2.2.1 q_.2.1.town.clerk.queue.wait)∧(RS KG q_.2.2.2.2.2.2.2.2.2.2.2.2.2.2.2.2.2.2.2.2.2.2 q_.2.2.2.2.1 q_.2.2.2.2.2.1 q_.2.1.town.clerk.heads)∧(RS Qi q_.2.2.2.2.2.2.2.2.2.2.2.2.2.2.2.2.2.2.2.2.2.2 q_.2.2.2.2.2.2.1 q_.2.2.2.2.2.2.2.1 q_.2.1.town.clerk.books)∧(J0 QG q_.2.2.2.2.2.2.2.2.2.2.2.2.2.2.2.2.2.2.2.2.2.2 q_.2.2.2.2.2.2.2.2.1 q_.2.2.2.2.2.2.2.2.2.1 q_.2.1.town.owners q_.2.2.2.2.2.2.2.2.2.2.1)∧(J0 Wp q_.2.2.2.2.2.2.2.2.2.2.2.2.2.2.2.2.2.2.2.2.2.2 q_.2.2.2.2.2.2.2.2.2.2.2.1 q_.2.2.2.2.2.2.2.2.2.2.2.2.1 q_.2.1.town.polls q_.2.2.2.2.2.2.2.2.2.2.2.2.2.1)∧(RS Kg q_.2.2.2.2.2.2.2.2.2.2.2.2.2.2.2.2.2.2.2.2.2.2 q_.2.2.2.2.2.2.2.2.2.2.2.2.2.2.1 q_.2.2.2.2.2.2.2.2.2.2.2.2.2.2.2.1 q_.2.1.town.net.way)∧(J0 VA q_.2.2.2.2.2.2.2.2.2.2.2.2.2.2.2.2.2.2.2.2.2.2 q_.2.2.2.2.2.2.2.2.2.2.2.2.2.2.2.2.1 q_.2.2.2.2.2.2.2.2.2.2.2.2.2.2.2.2.2.1 q_.2.1.fates q_.2.2.2.2.2.2.2.2.2.2.2.2.2.2.2.2.2.2.1)∧(J0 QR q_.2.2.2.2.2.2.2.2.2.2.2.2.2.2.2.2.2.2.2.2.2.2 q_.2.2.2.2.2.2.2.2.2.2.2.2.2.2.2.2.2.2.2.1 q_.2.2.2.2.2.2.2.2.2.2.2.2.2.2.2.2.2.2.2.2.1 q_.2.1.events q_.2.2.2.2.2.2.2.2.2.2.2.2.2.2.2.2.2.2.2.2.2.1)∧(rI q_.2.1.town.clerk.queue.most)∧(rI q_.2.1.town.clerk.batch)∧(rI q_.2.1.town.clerk.every)∧(rI q_.2.1.town.clerk.now)∧(rI q_.2.1.town.net.now)∧(rI q_.2.1.reach)∧(q_.2.1=Jbs jt q_.1)) (fun q_=>[(0,Pt b 0),(71,I (jt.town.owners.length:Int)),(72,I (q_.1:Int))]) (fun q_=>q_.2.2.2.2.2.2.2.2.2.2.2.2.2.2.2.2.2.2.2.2.2.2) (fun q_=>([Sg b2 0 [I (((Kr t.town.net).1).now),Sl a4 ((((Kr t.town.net).1).way).length) c4]]::[Sg b1 0 (KX (ZI t).1 a1 c1 a2 c2 a3 c3)]::[Sg b 0 (J7 q_.2.1 q_.2.2.1 q_.2.2.2.1 q_.2.2.2.2.1 q_.2.2.2.2.2.1 q_.2.2.2.2.2.2.1 q_.2.2.2.2.2.2.2.1 q_.2.2.2.2.2.2.2.2.1 q_.2.2.2.2.2.2.2.2.2.1 q_.2.2.2.2.2.2.2.2.2.2.2.1 q_.2.2.2.2.2.2.2.2.2.2.2.2.1 q_.2.2.2.2.2.2.2.2.2.2.2.2.2.2.1 q_.2.2.2.2.2.2.2.2.2.2.2.2.2.2.2.1 q_.2.2.2.2.2.2.2.2.2.2.2.2.2.2.2.2.1 q_.2.2.2.2.2.2.2.2.2.2.2.2.2.2.2.2.2.1 q_.2.2.2.2.2.2.2.2.2.2.2.2.2.2.2.2.2.2.2.1 q_.2.2.2.2.2.2.2.2.2.2.2.2.2.2.2.2.2.2.2.2.1)]::q_.2.2.2.2.2.2.2.2.2.2.1::q_.2.2.2.2.2.2.2.2.2.2.2.2.2.1::q_.2.2.2.2.2.2.2.2.2.2.2.2.2.2.2.2.2.2.1::q_.2.2.2.2.2.2.2.2.2.2.2.2.2.2.2.2.2.2.2.2.2.1::Lr)) (fun q_=>jt.town.owners.length-q_.1) (0,jt,ajt0,cjt0,ajt1,cjt1,ajt2,cjt2,ajt3,cjt3,rjt7,ajt4,cjt4,rjt8,ajt5,cjt5,ajt6,cjt6,rjt12,ajt7,cjt7,rjt13,g) ⟨(Jh _),(by (try dsimp only);omega),hjt1,hjt5,hjt6,hjt7,hjt8,hjt10,hjt12,hjt13,hjt0,hjt2,hjt3,hjt4,hjt9,hjt11,(by (try dsimp only);rfl)⟩ (fun q_ hs=>?_)
 obtain ⟨k,kt,akt0,ckt0,akt1,ckt1,akt2,ckt2,akt3,ckt3,rkt7,akt4,ckt4,rkt8,akt5,ckt5,akt6,ckt6,rkt12,akt7,ckt7,rkt13,g1_⟩:=q_
 obtain ⟨hle1_,hi,hkt1,hkt5,hkt6,hkt7,hkt8,hkt10,hkt12,hkt13,hkt0,hkt2,hkt3,hkt4,hkt9,hkt11,hK⟩:=hs
 dsimp only at hle1_ hi hkt1 hkt5 hkt6 hkt7 hkt8 hkt10 hkt12 hkt13 hkt0 hkt2 hkt3 hkt4 hkt9 hkt11 hK
 dsimp only
 refine Jg [0] [(73,Bo (decide ((k:Int)<(jt.town.owners.length:Int))))] (Jf (Jm (decide ((k:Int)<(jt.town.owners.length:Int))) (fun h4=>?_) (fun h4=>?_)))
 refine Jq (Jc (Jf (Jx (Jg [0,0] [(10,I (k:Int))] (Jd (Jb [0,0] [(75,Pt b 0),(76,I (k:Int))] (Jw 6 (Jw 6 (Jw 6 (Jw 6 (Jw 6 (Qq (Ls:=[[Sg b 0 (J7 kt akt0 ckt0 akt1 ckt1 akt2 ckt2 akt3 ckt3 akt4 ckt4 akt5 ckt5 akt6 ckt6 akt7 ckt7)],rkt7,rkt8,rkt12,rkt13]) (Lr:=([Sg b2 0 [I (((Kr t.town.net).1).now),Sl a4 ((((Kr t.town.net).1).way).length) c4]]::[Sg b1 0 (KX (ZI t).1 a1 c1 a2 c2 a3 c3)]::Lr)) 77 (JpI g1_ b kt akt0 ckt0 akt1 ckt1 akt2 ckt2 akt3 ckt3 akt4 ckt4 akt5 ckt5 akt6 ckt6 akt7 ckt7 rkt7 rkt8 rkt12 rkt13 hkt0 hkt1 hkt2 hkt3 hkt4 hkt5 hkt6 hkt7 hkt8 hkt9 hkt10 hkt11 hkt12 hkt13 (k:Int) (by (have q_:=(ZA hH ‹_› hJ);have q2_:=(JeI (ZA hH ‹_› hJ).1 hK);have q3_:=hH.len;omega)) (by (have q_:=(ZA hH ‹_› hJ);have q2_:=(JeI (ZA hH ‹_› hJ).1 hK);have q3_:=hH.len;omega)) (by (have q_:=(ZA hH ‹_› hJ);have q2_:=(JeI (ZA hH ‹_› hJ).1 hK);have q3_:=hH.len;omega)) (by exact (JeI (ZA hH ‹_› hJ).1 hK).1.polls) (by exact (JeI (ZA hH ‹_› hJ).1 hK).1.epoch)) (fun v G5 L1 hl5 hp=>?_)))))))))))))
 obtain ⟨a25,c25,a26,c26,a27,c27,a28,c28,a29,c29,a30,c30,a31,c31,a32,c32,r9,r10,r11,r12,rfl,_,hs17,_,_,_,hs18,hs19,hr9,hr10,_,hs20,_,hr11,hr12,rfl⟩:=hp
 refine Je (JN (Jc (Jd (Jb [0,0] [(72,I (Hb.wrap ((k:Int)+1)))] (Kp 72 ((k:Int)+1) (by (have q_:=(ZA hH ‹_› hJ);have q2_:=(JeI (ZA hH ‹_› hJ).1 hK);have q3_:=hH.len;omega)) (Je (Jk 4 (Jk 4 (Jk 4 (Jk 4 (Jk 4 (Jk 6 (Jk 6 ?_)))))))))))))
 exact QA ([Sg b2 0 [I (((Kr t.town.net).1).now),Sl a4 ((((Kr t.town.net).1).way).length) c4]]::[Sg b1 0 (KX (ZI t).1 a1 c1 a2 c2 a3 c3)]::[Sg b 0 (J7 (Zv kt (k:Int)) a25 c25 a26 c26 a27 c27 a28 c28 a29 c29 a30 c30 a31 c31 a32 c32)]::r9::r10::r11::r12::Lr) (Qf (k+1,(Zv kt (k:Int)),a25,c25,a26,c26,a27,c27,a28,c28,r9,a29,c29,r10,a30,c30,a31,c31,r11,a32,c32,r12,G5) ⟨(Ja hle1_ hl5),J5,hs17,hs18,hs19,hr9,hr10,hs20,hr11,hr12,‹_›,‹_›,‹_›,‹_›,‹_›,‹_›,(by (try dsimp only);rw [← Vt,← hK])⟩ (by (try dsimp only);omega))
 refine KW (J1 (J8 (JT (Jk 6 (Jk 6 (Jk 6 (Jk 6 (Jk 6 ?_))))))))
 have hf2:WA t=kt:=by
  exact JpJ ‹_› hJ J5 hK (by omega)
 refine ZX [] [] (KQ (Lr:=Lr) [[Sg b 0 (J7 kt akt0 ckt0 akt1 ckt1 akt2 ckt2 akt3 ckt3 akt4 ckt4 akt5 ckt5 akt6 ckt6 akt7 ckt7)],rkt7,rkt8,rkt12,rkt13] (Ja (Ja (Ja hl1 hl2) hle) hle1_) ?_)
 rw [hf2];try dsimp only
 exact ⟨akt0,ckt0,akt1,ckt1,akt2,ckt2,akt3,ckt3,akt4,ckt4,akt5,ckt5,akt6,ckt6,akt7,ckt7,rkt7,rkt8,rkt12,rkt13,rfl,hkt0,hkt1,hkt2,hkt3,hkt4,hkt5,hkt6,hkt7,hkt8,hkt9,hkt10,hkt11,hkt12,hkt13,rfl⟩
theorem tDo1 {t:JK} {d:KV} (h:d.kind=1):YB t d=Wq t d:=by unfold YB;rw [if_pos h]
theorem tDo2 {t:JK} {d:KV} (h:d.kind=2):YB t d=⟨t.town,t.reach,t.fates++[d.fates],t.events⟩:=by unfold YB;rw [if_neg (by omega),if_pos h]
theorem tDo30 {t:JK} {d:KV} (h:d.kind=3) (ho:Zo t d.who=false):YB t d=t:=by unfold YB;rw [if_neg (by omega),if_neg (by omega),if_pos h];unfold Jgs;rw [if_pos ho]
theorem tDo31 {t:JK} {d:KV} (h:d.kind=3) (ho:Zo t d.who=true) (hs:(Kz t.town.net (JjS d.letter d.who) [1]).2=0):YB t d=⟨⟨t.town.clerk,t.town.owners,t.town.polls,(Kz t.town.net (JjS d.letter d.who) [1]).1⟩,t.reach,t.fates,t.events⟩:=by
 unfold YB;rw [if_neg (by omega),if_neg (by omega),if_pos h];unfold Jgs;rw [if_neg (by rw [ho];simp),if_pos hs]
theorem tDo32 {t:JK} {d:KV} (h:d.kind=3) (ho:Zo t d.who=true) (hs:¬ (Kz t.town.net (JjS d.letter d.who) [1]).2=0):YB t d=t:=by
 unfold YB;rw [if_neg (by omega),if_neg (by omega),if_pos h];unfold Jgs;rw [if_neg (by rw [ho];simp),if_neg hs]
theorem tDo4 {t:JK} {d:KV} (h:d.kind=4):YB t d=WA t:=by unfold YB;rw [if_neg (by omega),if_neg (by omega),if_neg (by omega),if_pos h]
theorem tDo5 {t:JK} {d:KV} (h1:¬ d.kind=1) (h2:¬ d.kind=2) (h3:¬ d.kind=3) (h4:¬ d.kind=4):YB t d=t:=by unfold YB;rw [if_neg h1,if_neg h2,if_neg h3,if_neg h4]
set_option maxRecDepth 20000 in
abbrev YZ (d:KV):=(⟨d.who,d.letter.from_,d.letter.since,d.letter.due,d.letter.heads,d.letter.reply⟩:JQ)
abbrev Qs (d:KV) (t:JK):=Kz t.town.net (YZ d) ([1])
theorem Jmu (G:J4) (b:Nat) (t:JK) (a_1:Ba) (c_1:Nat) (a_5:Ba) (c_5:Nat) (a_6:Ba) (c_6:Nat) (a_7:Ba) (c_7:Nat) (a_8:Ba) (c_8:Nat) (a_10:Ba) (c_10:Nat) (a_12:Ba) (c_12:Nat) (a_13:Ba) (c_13:Nat) (r_7:Bg) (r_8:Bg) (r_12:Bg) (r_13:Bg) (h_0:rI t.town.clerk.queue.most) (h_1:RS Q4 G a_1 c_1 t.town.clerk.queue.wait) (h_2:rI t.town.clerk.batch) (h_3:rI t.town.clerk.every) (h_4:rI t.town.clerk.now) (h_5:RS KG G a_5 c_5 t.town.clerk.heads) (h_6:RS Qi G a_6 c_6 t.town.clerk.books) (h_7:J0 QG G a_7 c_7 t.town.owners r_7) (h_8:J0 Wp G a_8 c_8 t.town.polls r_8) (h_9:rI t.town.net.now) (h_10:RS Kg G a_10 c_10 t.town.net.way) (h_11:rI t.reach) (h_12:J0 VA G a_12 c_12 t.fates r_12) (h_13:J0 QR G a_13 c_13 t.events r_13) (vs_d:Bv) (d:KV) (h_d:Wr.R G vs_d d) (hH:VU t) (hev:t.events.length≤900000) (hfl:t.fates.length≤1000000):JcQ 35 #[Pt b 0,.agg vs_d.toArray] G [[Sg b 0 [I t.town.clerk.queue.most,Sl a_1 t.town.clerk.queue.wait.length c_1,I t.town.clerk.batch,I t.town.clerk.every,I t.town.clerk.now,Sl a_5 t.town.clerk.heads.length c_5,Sl a_6 t.town.clerk.books.length c_6,Sl a_7 t.town.owners.length c_7,Sl a_8 t.town.polls.length c_8,I t.town.net.now,Sl a_10 t.town.net.way.length c_10,I t.reach,Sl a_12 t.fates.length c_12,Sl a_13 t.events.length c_13]],r_7,r_8,r_12,r_13] (fun u G' L'=>∃ (a_z1:Ba) (c_z1:Nat) (a_z5:Ba) (c_z5:Nat) (a_z6:Ba) (c_z6:Nat) (a_z7:Ba) (c_z7:Nat) (a_z8:Ba) (c_z8:Nat) (a_z10:Ba) (c_z10:Nat) (a_z12:Ba) (c_z12:Nat) (a_z13:Ba) (c_z13:Nat) (r_z7:Bg) (r_z8:Bg) (r_z12:Bg) (r_z13:Bg),u=.tuple #[]∧(rI ((YB t d).town.clerk.queue.most))∧(RS Q4 G' a_z1 c_z1 ((YB t d).town.clerk.queue.wait))∧(rI ((YB t d).town.clerk.batch))∧(rI ((YB t d).town.clerk.every))∧(rI ((YB t d).town.clerk.now))∧(RS KG G' a_z5 c_z5 ((YB t d).town.clerk.heads))∧(RS Qi G' a_z6 c_z6 ((YB t d).town.clerk.books))∧(J0 QG G' a_z7 c_z7 ((YB t d).town.owners) r_z7)∧(J0 Wp G' a_z8 c_z8 ((YB t d).town.polls) r_z8)∧(rI ((YB t d).town.net.now))∧(RS Kg G' a_z10 c_z10 ((YB t d).town.net.way))∧(rI ((YB t d).reach))∧(J0 VA G' a_z12 c_z12 ((YB t d).fates) r_z12)∧(J0 QR G' a_z13 c_z13 ((YB t d).events) r_z13)∧L'=[[Sg b 0 [I ((YB t d).town.clerk.queue.most),Sl a_z1 (((YB t d).town.clerk.queue.wait).length) c_z1,I ((YB t d).town.clerk.batch),I ((YB t d).town.clerk.every),I ((YB t d).town.clerk.now),Sl a_z5 (((YB t d).town.clerk.heads).length) c_z5,Sl a_z6 (((YB t d).town.clerk.books).length) c_z6,Sl a_z7 (((YB t d).town.owners).length) c_z7,Sl a_z8 (((YB t d).town.polls).length) c_z8,I ((YB t d).town.net.now),Sl a_z10 (((YB t d).town.net.way).length) c_z10,I ((YB t d).reach),Sl a_z12 (((YB t d).fates).length) c_z12,Sl a_z13 (((YB t d).events).length) c_z13]],r_z7,r_z8,r_z12,r_z13]):=by
 obtain ⟨a1,c1,a2,c2,a3,c3,a4,c4,rfl,w1,w2,w3,hs1,w4,w5,w6,w7,hs2,w8,w9,w10,w11,w12,hs3,hs4⟩:=h_d
 intro Lr
 refine JS Tryz.func35 61 [(0,Pt b 0),(1,(JdC d a1 c1 a2 c2 a3 c3 a4 c4))] rfl (fun w0 G0=>?_)
 show TC _ _ _ _ _ ([Sg b 0 (J7 t a_1 c_1 a_5 c_5 a_6 c_6 a_7 c_7 a_8 c_8 a_10 c_10 a_12 c_12 a_13 c_13)]::r_7::r_8::r_12::r_13::Lr)
 refine Jf (Jd (Jv 3 #[I d.kind,I d.who,Sr d.value,Sl a1 d.fates.length c1,I d.letter.to_,I d.letter.from_,I d.letter.since,I d.letter.due,Sl a2 d.letter.heads.length c2,I d.letter.reply.head.epoch,U d.letter.reply.head.root,U d.letter.reply.head.prev,I d.letter.reply.head.at_,Sr d.letter.reply.proof.name,Sl a3 d.letter.reply.proof.entries.length c3,Sl a4 d.letter.reply.proof.sides.length c4] 53 (fun b1=>Je (Jc (Jg [0,2] [(8,I d.kind)] (Jx (Jg [0,0] [(9,Bo (decide (d.kind=1)))] (Jm (decide (d.kind=1)) (fun h1=>?_) (fun h1=>?_)))))))))
 refine Jd (Jb [0,2] [(11,Pt b 0),(12,(JdC d a1 c1 a2 c2 a3 c3 a4 c4))] (Jw 5 (Jw 5 (Jw 5 (Jw 5 (Jw 5 (Qq (Ls:=[[Sg b 0 (J7 t a_1 c_1 a_5 c_5 a_6 c_6 a_7 c_7 a_8 c_8 a_10 c_10 a_12 c_12 a_13 c_13)],r_7,r_8,r_12,r_13]) (Lr:=([Sg b1 0 (WY d a1 c1 a2 c2 a3 c3 a4 c4)]::Lr)) 13 (JnK G b t a_1 c_1 a_5 c_5 a_6 c_6 a_7 c_7 a_8 c_8 a_10 c_10 a_12 c_12 a_13 c_13 r_7 r_8 r_12 r_13 h_0 h_1 h_2 h_3 h_4 h_5 h_6 h_7 h_8 h_9 h_10 h_11 h_12 h_13 (WY d a1 c1 a2 c2 a3 c3 a4 c4) d (⟨a1,c1,a2,c2,a3,c3,a4,c4,rfl,w1,w2,w3,hs1,w4,w5,w6,w7,hs2,w8,w9,w10,w11,w12,hs3,hs4⟩) J5) (fun v G1 L1 hl1 hp=>?_))))))))
 obtain ⟨a5,c5,a6,c6,a7,c7,a8,c8,a9,c9,a10,c10,a11,c11,a12,c12,r1,r2,r3,r4,rfl,w13,hs5,w14,w15,w16,hs6,hs7,hr1,hr2,w17,hs8,w18,hr3,hr4,rfl⟩:=hp
 refine Je (JN (Jk 4 (Jk 4 (Jk 4 (Jk 4 (Jk 4 ?_))))))
 have hf1:YB t d=(Wq t d):=by
  exact tDo1 ‹_›
 refine ZX [] [] (KQ (Lr:=Lr) [[Sg b 0 (J7 (Wq t d) a5 c5 a6 c6 a7 c7 a8 c8 a9 c9 a10 c10 a11 c11 a12 c12)],r1,r2,r3,r4] hl1 ?_)
 rw [hf1];try dsimp only
 exact ⟨a5,c5,a6,c6,a7,c7,a8,c8,a9,c9,a10,c10,a11,c11,a12,c12,r1,r2,r3,r4,rfl,w13,hs5,w14,w15,w16,hs6,hs7,hr1,hr2,w17,hs8,w18,hr3,hr4,rfl⟩
 refine Jg [0,0] [(14,Bo (decide (d.kind=2)))] (Jm (decide (d.kind=2)) (fun h2=>?_) (fun h2=>?_))
 refine Kt [7,8,9,12] (Wz [(0,Pt b 0),(1,Pt b 0),(2,Pt b 0),(3,Pt b 12),(4,Sl a_12 t.fates.length c_12),(5,Pt b1 3),(6,Sl a1 d.fates.length c1)] (JL [] [(0,0),(1,0),(2,0),(3,0),(4,4),(5,0),(6,2)] [] [7] (Ha _) (Kb ?_ K4)))
 refine JA 7 [(22,Sl a1 d.fates.length c1)] (fun X=>?_)
 refine JM 23 (Jnc G a1 c1 d.fates hs1) (fun v G2 L1 hl2 hp=>?_)
 obtain ⟨a13,c13,_,rfl,hr5,rfl⟩:=hp
 refine JC [(7,Sl a13 d.fates.length c13)] (JL [5,6] [(0,0),(1,0),(2,0),(3,0),(4,6)] [] [8] (Ha _) (Kb ?_ K4))
 refine JA 8 [(23,Sl a13 d.fates.length c13)] (fun X=>?_)
 refine Ki 24 1 #[Sl a13 d.fates.length c13] 39 (fun b2=>JC [(8,Sl (At b2 0) 1 1)] (JL [5,6] [(0,0),(1,0),(2,0),(3,0),(4,8)] [] [9] (Ha _) (Kb ?_ K4)))
 refine JA 9 [(20,Sl a_12 t.fates.length c_12),(24,Sl (At b2 0) 1 1)] (fun X=>?_)
 refine WC (E:=EI) 1 hr5 (by exact (hs1).fit) (fun G3 hl3 hs9=>Qr (b:=b2) (cs:=[Sl a13 d.fates.length c13]) 25 39 6 0 (E:=VA) d.fates (h_12.mono (Ja hl2 hl3)) ⟨a13,c13,rfl,hs9⟩ (by (try simp only [VA,List.length_append,List.length_cons,List.length_nil]);omega) (by (try simp only [VA,List.length_append,List.length_cons,List.length_nil]);omega) (fun a14 c14 r6 hr6=>JC [(9,Sl a14 ((t.fates++[d.fates]).length) c14),(10,Pt b 0),(11,Pt b 12)] (JL [1,2,3,4,5,6] [(0,0),(10,0),(11,0)] [] [12] (Ha _) (Kb ?_ K4))))
 refine JA 12 [(25,Sl a14 ((t.fates++[d.fates]).length) c14),(27,Pt b 12)] (fun X=>?_)
 refine KI 3 ([Sg b2 0 [Sl a13 d.fates.length c13]]::[]::[Sg b1 0 (WY d a1 c1 a2 c2 a3 c3 a4 c4)]::[Sg b 0 (J7 (⟨t.town,t.reach,(t.fates++[d.fates]),t.events⟩:JK) a_1 c_1 a_5 c_5 a_6 c_6 a_7 c_7 a_8 c_8 a_10 c_10 a14 c14 a_13 c_13)]::r_7::r_8::r6::r_13::Lr) (J9 [] (Kq [0,1,2,3,4,5,6,10,11] [] [] [] (Ha _) (JN (Jk 7 (Jk 7 (Jk 7 (Jk 7 (Jk 7 ?_))))))))
 have hf2:YB t d=(⟨t.town,t.reach,t.fates++[d.fates],t.events⟩:JK):=by
  exact tDo2 ‹_›
 refine ZX [] [] (KQ (Lr:=Lr) [[Sg b 0 (J7 (⟨t.town,t.reach,(t.fates++[d.fates]),t.events⟩:JK) a_1 c_1 a_5 c_5 a_6 c_6 a_7 c_7 a_8 c_8 a_10 c_10 a14 c14 a_13 c_13)],r_7,r_8,r6,r_13] (Ja hl2 hl3) ?_)
 rw [hf2];try dsimp only
 exact ⟨a_1,c_1,a_5,c_5,a_6,c_6,a_7,c_7,a_8,c_8,a_10,c_10,a14,c14,a_13,c_13,r_7,r_8,r6,r_13,rfl,h_0,(h_1.mono (Ja hl2 hl3)),h_2,h_3,h_4,(h_5.mono (Ja hl2 hl3)),(h_6.mono (Ja hl2 hl3)),(h_7.mono (Ja hl2 hl3)),(h_8.mono (Ja hl2 hl3)),h_9,(h_10.mono (Ja hl2 hl3)),h_11,hr6,(h_13.mono (Ja hl2 hl3)),rfl⟩
 refine Jg [0,0] [(28,Bo (decide (d.kind=3)))] (Jm (decide (d.kind=3)) (fun h3=>?_) (fun h3=>?_))
 refine Jf (Jd (Jb [0,0,2] [(30,Pt b 0),(32,I d.who)] (Jw 5 (Jw 5 (Jw 5 (Jw 5 (Jw 5 (Qq (Ls:=[[Sg b 0 (J7 t a_1 c_1 a_5 c_5 a_6 c_6 a_7 c_7 a_8 c_8 a_10 c_10 a_12 c_12 a_13 c_13)],r_7,r_8,r_12,r_13]) (Lr:=([Sg b1 0 (WY d a1 c1 a2 c2 a3 c3 a4 c4)]::Lr)) 33 (Jcn G b t a_1 c_1 a_5 c_5 a_6 c_6 a_7 c_7 a_8 c_8 a_10 c_10 a_12 c_12 a_13 c_13 r_7 r_8 r_12 r_13 h_0 h_1 h_2 h_3 h_4 h_5 h_6 h_7 h_8 h_9 h_10 h_11 h_12 h_13 d.who) (fun v G4 L1 hl4 hp=>?_)))))))))
 obtain ⟨a15,c15,a16,c16,a17,c17,a18,c18,a19,c19,a20,c20,a21,c21,a22,c22,r7,r8,r9,r10,rfl,w19,hs10,w20,w21,w22,hs11,hs12,hr7,hr8,w23,hs13,w24,hr9,hr10,rfl⟩:=hp
 refine Je (Jc (Jm (Zo t d.who) (fun h4=>?_) (fun h4=>?_)))
 refine Jf (Jd (Jb [0,12] [(35,(Q9 d.letter a2 c2 a3 c3 a4 c4))] (Jv 4 #[I 0,I 0,I 0,I 0,Sl none 0 0,I 0,U 0,U 0,I 0,Sr ([]),Sl none 0 0,Sl none 0 0] 51 (fun b3=>JX [3] [] ([Sg b3 0 (Kv d.letter a2 c2 a3 c3 a4 c4)]::[Sg b 0 (J7 t a15 c15 a16 c16 a17 c17 a18 c18 a19 c19 a20 c20 a21 c21 a22 c22)]::r7::r8::r9::r10::[Sg b1 0 (WY d a1 c1 a2 c2 a3 c3 a4 c4)]::Lr) (Je (Jc (QF [0,14,0,3] [] ([Sg b3 0 (Kv (YZ d) a2 c2 a3 c3 a4 c4)]::[Sg b 0 (J7 t a15 c15 a16 c16 a17 c17 a18 c18 a19 c19 a20 c20 a21 c21 a22 c22)]::r7::r8::r9::r10::[Sg b1 0 (WY d a1 c1 a2 c2 a3 c3 a4 c4)]::Lr) ?_)))))))
 refine Ym (σ:=Nat×Ba×Nat×J4) (fun q_=>(J4.le G4 q_.2.2.2)∧(rI (((Qs d t).1).now))∧(RS Kg q_.2.2.2 q_.2.1 q_.2.2.1 (((Qs d t).1).way))) (fun q_=>[(0,Pt b 0),(5,Pt q_.1 0),(6,I ((Qs d t).2))]) (fun q_=>q_.2.2.2) (fun q_=>([Sg q_.1 0 [I (((Qs d t).1).now),Sl q_.2.1 ((((Qs d t).1).way).length) q_.2.2.1]]::[]::[Sg b3 0 (Kv (YZ d) a2 c2 a3 c3 a4 c4)]::[Sg b 0 (J7 t a15 c15 a16 c16 a17 c17 a18 c18 a19 c19 a20 c20 a21 c21 a22 c22)]::r7::r8::r9::r10::[Sg b1 0 (WY d a1 c1 a2 c2 a3 c3 a4 c4)]::Lr)) ?_ (fun q_ hs=>?_)
 refine Kt [6,7,11,12] (Wz [(0,Pt b 0),(1,Pt b 0),(2,Pt b 0),(3,Pt b 9),(4,.agg #[I t.town.net.now,Sl a20 t.town.net.way.length c20]),(5,(Q9 (YZ d) a2 c2 a3 c3 a4 c4))] (JL [] [(0,0),(1,0),(2,0),(3,0),(4,4),(5,2)] [] [6,11] (Ha _) (Kb ?_ (Kb ?_ K4))))
 refine JA 6 [] (fun X=>?_)
 refine Ki 46 1 #[I 1] 3 (fun b4=>JC [(6,Sl (At b4 0) 1 1)] (JL [] [(0,0),(1,0),(2,0),(3,0),(4,6),(5,4)] [] [7,11] (Ha _) (Kb ?_ (Kb ?_ K4))))
 refine JA 7 [(44,.agg #[I t.town.net.now,Sl a20 t.town.net.way.length c20]),(45,(Q9 (YZ d) a2 c2 a3 c3 a4 c4)),(46,Sl (At b4 0) 1 1)] (fun X=>?_)
 refine Qu (b:=b4) (o:=0) (cs:=[I 1]) 0 (fun G5 hl5 hz1=>?_)
 have hs14:RS EI G5 (At b4 0) 1 [1]:=RS.lit [[I 1]] [1] ⟨⟨rfl,(by omega)⟩,trivial⟩ hz1 (Hc rfl) (Hc rfl)
 refine JM 47 (YX G5 [I t.town.net.now,Sl a20 t.town.net.way.length c20] t.town.net (⟨a20,c20,rfl,w23,(hs13.mono hl5)⟩) (Kv (YZ d) a2 c2 a3 c3 a4 c4) (YZ d) (⟨a2,c2,a3,c3,a4,c4,rfl,w2,w5,w6,w7,(hs2.mono (Ja hl4 hl5)),w8,w9,w10,w11,w12,(hs3.mono (Ja hl4 hl5)),(hs4.mono (Ja hl4 hl5))⟩) (At b4 0) 1 ([1]) hs14) (fun v G6 L1 hl6 hp=>?_)
 obtain ⟨a23,c23,rfl,w25,hs15,rfl⟩:=hp
 refine JC [(7,.tuple #[.agg #[I (((Qs d t).1).now),Sl a23 ((((Qs d t).1).way).length) c23],I ((Qs d t).2)]),(8,.tuple #[.agg #[I (((Qs d t).1).now),Sl a23 ((((Qs d t).1).way).length) c23],I ((Qs d t).2)]),(9,.agg #[I (((Qs d t).1).now),Sl a23 ((((Qs d t).1).way).length) c23]),(10,I ((Qs d t).2))] (JL [0,1,2,3,4,5] [(8,0),(9,0),(10,0)] [] [11] (Ha _) (Kb ?_ K4))
 refine JA 11 [] (fun X=>?_)
 refine Jv 5 #[I 0,Sl none 0 0] 65 (fun b5=>JC [(11,Pt b5 0)] (JL [0,1,2,3,4,5] [(8,0),(9,0),(10,0)] [] [12] (Ha _) (Kb ?_ K4)))
 refine JA 12 [(5,Pt b5 0),(48,.agg #[I (((Qs d t).1).now),Sl a23 ((((Qs d t).1).way).length) c23])] (fun X=>?_)
 exact KI 0 ([Sg b5 0 [I (((Qs d t).1).now),Sl a23 ((((Qs d t).1).way).length) c23]]::[]::[Sg b3 0 (Kv (YZ d) a2 c2 a3 c3 a4 c4)]::[Sg b 0 (J7 t a15 c15 a16 c16 a17 c17 a18 c18 a19 c19 a20 c20 a21 c21 a22 c22)]::r7::r8::r9::r10::[Sg b1 0 (WY d a1 c1 a2 c2 a3 c3 a4 c4)]::Lr) (J9 [(13,I ((Qs d t).2))] (Kq [0,1,2,3,4,5,8,9] [(10,0),(13,0)] [] [(0,Pt b 0),(5,Pt b5 0),(6,I ((Qs d t).2))] (Ha _) (Q3 (b5,a23,c23,G6) ⟨(Ja hl5 hl6),w25,hs15⟩)))
 refine JA 11 [] (fun X=>?_)
 refine Jv 5 #[I 0,Sl none 0 0] 65 (fun b6=>JC [(11,Pt b6 0)] (JL [] [(0,0),(1,0),(2,0),(3,0),(4,8),(5,6)] [] [7] (Ha _) (Kb ?_ K4)))
 refine JA 7 [(44,.agg #[I t.town.net.now,Sl a20 t.town.net.way.length c20]),(45,(Q9 (YZ d) a2 c2 a3 c3 a4 c4)),(46,Sl (At b4 0) 1 1)] (fun X=>?_)
 refine Qu (b:=b4) (o:=0) (cs:=[I 1]) 1 (fun G7 hl7 hz2=>?_)
 have hs16:RS EI G7 (At b4 0) 1 [1]:=RS.lit [[I 1]] [1] ⟨⟨rfl,(by omega)⟩,trivial⟩ hz2 (Hc rfl) (Hc rfl)
 refine JM 47 (YX G7 [I t.town.net.now,Sl a20 t.town.net.way.length c20] t.town.net (⟨a20,c20,rfl,w23,(hs13.mono hl7)⟩) (Kv (YZ d) a2 c2 a3 c3 a4 c4) (YZ d) (⟨a2,c2,a3,c3,a4,c4,rfl,w2,w5,w6,w7,(hs2.mono (Ja hl4 hl7)),w8,w9,w10,w11,w12,(hs3.mono (Ja hl4 hl7)),(hs4.mono (Ja hl4 hl7))⟩) (At b4 0) 1 ([1]) hs16) (fun v G8 L1 hl8 hp=>?_)
 obtain ⟨a24,c24,rfl,w26,hs17,rfl⟩:=hp
 refine JC [(7,.tuple #[.agg #[I (((Qs d t).1).now),Sl a24 ((((Qs d t).1).way).length) c24],I ((Qs d t).2)]),(8,.tuple #[.agg #[I (((Qs d t).1).now),Sl a24 ((((Qs d t).1).way).length) c24],I ((Qs d t).2)]),(9,.agg #[I (((Qs d t).1).now),Sl a24 ((((Qs d t).1).way).length) c24]),(10,I ((Qs d t).2))] (JL [0,1,2,3,4,5] [(8,0),(9,0),(10,0)] [] [12] (Ha _) (Kb ?_ K4))
 refine JA 12 [(5,Pt b6 0),(48,.agg #[I (((Qs d t).1).now),Sl a24 ((((Qs d t).1).way).length) c24])] (fun X=>?_)
 exact KI 0 ([Sg b6 0 [I (((Qs d t).1).now),Sl a24 ((((Qs d t).1).way).length) c24]]::[]::[Sg b3 0 (Kv (YZ d) a2 c2 a3 c3 a4 c4)]::[Sg b 0 (J7 t a15 c15 a16 c16 a17 c17 a18 c18 a19 c19 a20 c20 a21 c21 a22 c22)]::r7::r8::r9::r10::[Sg b1 0 (WY d a1 c1 a2 c2 a3 c3 a4 c4)]::Lr) (J9 [(13,I ((Qs d t).2))] (Kq [0,1,2,3,4,5,8,9] [(10,0),(13,0)] [] [(0,Pt b 0),(5,Pt b6 0),(6,I ((Qs d t).2))] (Ha _) (Q3 (b6,a24,c24,G8) ⟨(Ja hl7 hl8),w26,hs17⟩)))
 refine JA 11 [] (fun X=>?_)
 refine Jv 5 #[I 0,Sl none 0 0] 65 (fun b7=>JC [(11,Pt b7 0)] (JL [] [(0,0),(1,0),(2,0),(3,0),(4,6),(5,4)] [] [6] (Ha _) (Kb ?_ K4)))
 refine JA 6 [] (fun X=>?_)
 refine Ki 46 1 #[I 1] 3 (fun b8=>JC [(6,Sl (At b8 0) 1 1)] (JL [] [(0,0),(1,0),(2,0),(3,0),(4,8),(5,6)] [] [7] (Ha _) (Kb ?_ K4)))
 refine JA 7 [(44,.agg #[I t.town.net.now,Sl a20 t.town.net.way.length c20]),(45,(Q9 (YZ d) a2 c2 a3 c3 a4 c4)),(46,Sl (At b8 0) 1 1)] (fun X=>?_)
 refine Qu (b:=b8) (o:=0) (cs:=[I 1]) 0 (fun G9 hl9 hz3=>?_)
 have hs18:RS EI G9 (At b8 0) 1 [1]:=RS.lit [[I 1]] [1] ⟨⟨rfl,(by omega)⟩,trivial⟩ hz3 (Hc rfl) (Hc rfl)
 refine JM 47 (YX G9 [I t.town.net.now,Sl a20 t.town.net.way.length c20] t.town.net (⟨a20,c20,rfl,w23,(hs13.mono hl9)⟩) (Kv (YZ d) a2 c2 a3 c3 a4 c4) (YZ d) (⟨a2,c2,a3,c3,a4,c4,rfl,w2,w5,w6,w7,(hs2.mono (Ja hl4 hl9)),w8,w9,w10,w11,w12,(hs3.mono (Ja hl4 hl9)),(hs4.mono (Ja hl4 hl9))⟩) (At b8 0) 1 ([1]) hs18) (fun v G10 L1 hl10 hp=>?_)
 obtain ⟨a25,c25,rfl,w27,hs19,rfl⟩:=hp
 refine JC [(7,.tuple #[.agg #[I (((Qs d t).1).now),Sl a25 ((((Qs d t).1).way).length) c25],I ((Qs d t).2)]),(8,.tuple #[.agg #[I (((Qs d t).1).now),Sl a25 ((((Qs d t).1).way).length) c25],I ((Qs d t).2)]),(9,.agg #[I (((Qs d t).1).now),Sl a25 ((((Qs d t).1).way).length) c25]),(10,I ((Qs d t).2))] (JL [0,1,2,3,4,5] [(8,0),(9,0),(10,0)] [] [12] (Ha _) (Kb ?_ K4))
 refine JA 12 [(5,Pt b7 0),(48,.agg #[I (((Qs d t).1).now),Sl a25 ((((Qs d t).1).way).length) c25])] (fun X=>?_)
 refine KI 1 ([]::[Sg b7 0 [I (((Qs d t).1).now),Sl a25 ((((Qs d t).1).way).length) c25]]::[Sg b3 0 (Kv (YZ d) a2 c2 a3 c3 a4 c4)]::[Sg b 0 (J7 t a15 c15 a16 c16 a17 c17 a18 c18 a19 c19 a20 c20 a21 c21 a22 c22)]::r7::r8::r9::r10::[Sg b1 0 (WY d a1 c1 a2 c2 a3 c3 a4 c4)]::Lr) (J9 [(13,I ((Qs d t).2))] (Kq [0,1,2,3,4,5,8,9] [(10,0),(13,0)] [] [(0,Pt b 0),(5,Pt b7 0),(6,I ((Qs d t).2))] (Ha _) (Jk 8 (Jk 8 (Jk 8 (Jk 8 (Jk 8 (Jk 8 (Jk 8 (Jk 7 ?_))))))))))
 exact Jk 8 (Q3 (b7,a25,c25,G10) ⟨(Ja hl9 hl10),w27,hs19⟩)
 obtain ⟨b5,a23,c23,G6⟩:=q_
 obtain ⟨hle1,hj1,hj2⟩:=hs
 dsimp only at hle1 hj1 hj2
 dsimp only
 refine Jg [0,0] [(51,Bo (decide ((Qs d t).2=0)))] (Jm (decide ((Qs d t).2=0)) (fun h5=>?_) (fun h5=>?_))
 refine Jd (JX [0,2,0,0,0,9] [] ([Sg b5 0 [I (((Qs d t).1).now),Sl a23 ((((Qs d t).1).way).length) c23]]::[]::[Sg b3 0 (Kv (YZ d) a2 c2 a3 c3 a4 c4)]::[Sg b 0 (J7 (⟨(⟨t.town.clerk,t.town.owners,t.town.polls,(Qs d t).1⟩:Wb),t.reach,t.fates,t.events⟩:JK) a15 c15 a16 c16 a17 c17 a18 c18 a19 c19 a23 c23 a21 c21 a22 c22)]::r7::r8::r9::r10::[Sg b1 0 (WY d a1 c1 a2 c2 a3 c3 a4 c4)]::Lr) (Je (JN (Jk 7 (Jk 7 (Jk 7 (Jk 7 (Jk 7 ?_))))))))
 have hf3:YB t d=(⟨(⟨t.town.clerk,t.town.owners,t.town.polls,((Qs d t).1)⟩:Wb),t.reach,t.fates,t.events⟩:JK):=by
  exact tDo31 ‹_› ‹_› ‹_›
 refine ZX [] [] (KQ (Lr:=Lr) [[Sg b 0 (J7 (⟨(⟨t.town.clerk,t.town.owners,t.town.polls,(Qs d t).1⟩:Wb),t.reach,t.fates,t.events⟩:JK) a15 c15 a16 c16 a17 c17 a18 c18 a19 c19 a23 c23 a21 c21 a22 c22)],r7,r8,r9,r10] (Ja hl4 hle1) ?_)
 rw [hf3];try dsimp only
 exact ⟨a15,c15,a16,c16,a17,c17,a18,c18,a19,c19,a23,c23,a21,c21,a22,c22,r7,r8,r9,r10,rfl,w19,(hs10.mono hle1),w20,w21,w22,(hs11.mono hle1),(hs12.mono hle1),(hr7.mono hle1),(hr8.mono hle1),hj1,hj2,w24,(hr9.mono hle1),(hr10.mono hle1),rfl⟩
 refine Jq (JN (Jk 7 (Jk 7 (Jk 7 (Jk 7 (Jk 7 ?_))))))
 have hf4:YB t d=t:=by
  exact tDo32 ‹_› ‹_› ‹_›
 refine ZX [] [] (KQ (Lr:=Lr) [[Sg b 0 (J7 t a15 c15 a16 c16 a17 c17 a18 c18 a19 c19 a20 c20 a21 c21 a22 c22)],r7,r8,r9,r10] (Ja hl4 hle1) ?_)
 rw [hf4];try dsimp only
 exact ⟨a15,c15,a16,c16,a17,c17,a18,c18,a19,c19,a20,c20,a21,c21,a22,c22,r7,r8,r9,r10,rfl,w19,(hs10.mono hle1),w20,w21,w22,(hs11.mono hle1),(hs12.mono hle1),(hr7.mono hle1),(hr8.mono hle1),w23,(hs13.mono hle1),w24,(hr9.mono hle1),(hr10.mono hle1),rfl⟩
 refine Jq (JN (Jk 4 (Jk 4 (Jk 4 (Jk 4 (Jk 4 ?_))))))
 have hf5:YB t d=t:=by
  exact tDo30 ‹_› ‹_›
 refine ZX [] [] (KQ (Lr:=Lr) [[Sg b 0 (J7 t a15 c15 a16 c16 a17 c17 a18 c18 a19 c19 a20 c20 a21 c21 a22 c22)],r7,r8,r9,r10] hl4 ?_)
 rw [hf5];try dsimp only
 exact ⟨a15,c15,a16,c16,a17,c17,a18,c18,a19,c19,a20,c20,a21,c21,a22,c22,r7,r8,r9,r10,rfl,w19,hs10,w20,w21,w22,hs11,hs12,hr7,hr8,w23,hs13,w24,hr9,hr10,rfl⟩
 refine Jg [0,0] [(57,Bo (decide (d.kind=4)))] (Jm (decide (d.kind=4)) (fun h6=>?_) (fun h6=>?_))
 refine Jd (Jb [0] [(59,Pt b 0)] (Jw 5 (Jw 5 (Jw 5 (Jw 5 (Jw 5 (Qq (Ls:=[[Sg b 0 (J7 t a_1 c_1 a_5 c_5 a_6 c_6 a_7 c_7 a_8 c_8 a_10 c_10 a_12 c_12 a_13 c_13)],r_7,r_8,r_12,r_13]) (Lr:=([Sg b1 0 (WY d a1 c1 a2 c2 a3 c3 a4 c4)]::Lr)) 60 (JnL G b t a_1 c_1 a_5 c_5 a_6 c_6 a_7 c_7 a_8 c_8 a_10 c_10 a_12 c_12 a_13 c_13 r_7 r_8 r_12 r_13 h_0 h_1 h_2 h_3 h_4 h_5 h_6 h_7 h_8 h_9 h_10 h_11 h_12 h_13 ‹_› ‹_›) (fun v G11 L1 hl11 hp=>?_))))))))
 obtain ⟨a26,c26,a27,c27,a28,c28,a29,c29,a30,c30,a31,c31,a32,c32,a33,c33,r11,r12,r13,r14,rfl,w28,hs20,w29,w30,w31,hs21,hs22,hr11,hr12,w32,hs23,w33,hr13,hr14,rfl⟩:=hp
 refine Je (JN (Jk 4 (Jk 4 (Jk 4 (Jk 4 (Jk 4 ?_))))))
 have hf6:YB t d=(WA t):=by
  exact tDo4 ‹_›
 refine ZX [] [] (KQ (Lr:=Lr) [[Sg b 0 (J7 (WA t) a26 c26 a27 c27 a28 c28 a29 c29 a30 c30 a31 c31 a32 c32 a33 c33)],r11,r12,r13,r14] hl11 ?_)
 rw [hf6];try dsimp only
 exact ⟨a26,c26,a27,c27,a28,c28,a29,c29,a30,c30,a31,c31,a32,c32,a33,c33,r11,r12,r13,r14,rfl,w28,hs20,w29,w30,w31,hs21,hs22,hr11,hr12,w32,hs23,w33,hr13,hr14,rfl⟩
 refine Jq (JN (Jk 5 (Jk 5 (Jk 5 (Jk 5 (Jk 5 ?_))))))
 have hf7:YB t d=t:=by
  exact tDo5 ‹_› ‹_› ‹_› ‹_›
 refine ZX [] [] (KQ (Lr:=Lr) [[Sg b 0 (J7 t a_1 c_1 a_5 c_5 a_6 c_6 a_7 c_7 a_8 c_8 a_10 c_10 a_12 c_12 a_13 c_13)],r_7,r_8,r_12,r_13] (Jh _) ?_)
 rw [hf7];try dsimp only
 exact ⟨a_1,c_1,a_5,c_5,a_6,c_6,a_7,c_7,a_8,c_8,a_10,c_10,a_12,c_12,a_13,c_13,r_7,r_8,r_12,r_13,rfl,h_0,h_1,h_2,h_3,h_4,h_5,h_6,h_7,h_8,h_9,h_10,h_11,h_12,h_13,rfl⟩
end Go.Proofs.YteaampgpgokjmaaGreatDoor
namespace Go.Tx
open Go.RowKit Go.Proofs Go.Shelf
open _root_.List renaming replicate → Ha, take_of_length_le → Hb, replicate_append_replicate → Hc, take_append_of_le_length → Hf, getElem?_eq_some_iff → Hg, getElem?_replicate → Hh, length_replicate → Hi
open _root_.Nat renaming min → Hd, mul_le_mul_right → He
section
variable {C:Cx} {Q:Bq} {fr:Bf} {G:J4} {L:Bl} {ops:Bp} {rest:List Oper} {o:Oper}
theorem Jgw {x y:Code} (h:TC C y Q fr G L):TC C (.cond (.const (.bool false)) x y) Q fr G L :=
 fun a w ha hw=>wp_cond_false (by simp [Act.eval]) (h a w ha hw)
theorem Jgx (d t e n sz:Nat) {z:Value} {lo co:Operand} {bytes:Nat} (h63:n≤9223372036854775807) (hby:n*bytes≤281474976710656)
  (hi:(C.P.info? e).map (fun i=>(i.zero,i.size,i.bytes))=some (some z,sz,bytes))
  (h:∀ b F,F.length=n*sz→KA C ops Q rest ((d,Sl (At b 0) n n)::fr) G ([Sg b 0 F]::L))
  (hb:base C.n ops fr o d=true:=by as_aux_lemma=>kernel_rfl)
  (hop:o.op=.makeSlice t lo co:=by rfl) (ht:C.P.underlying t=some (.slice e):=by as_aux_lemma=>kernel_rfl)
  (hlo:Ze fr lo=I (n:Int):=by as_aux_lemma=>kernel_rfl) (hco:Ze fr co=I (n:Int):=by as_aux_lemma=>kernel_rfl):KA C ops Q (o::rest) fr G L:=by
 refine QI d hb (fun w hw=>?_)
 obtain ⟨inf,hinf,hz,hsz,hbs⟩:=info_parts hi
 have hbn:(inf.bytes:Int)*(n:Int)≤281474976710656:=by
  have h2:(inf.bytes:Int)*n=((n*bytes:Nat):Int):=by rw [Int.natCast_mul,Int.mul_comm,hbs]
  omega
 have hm:=run_make (P:=C.P) w t e inf z ht hinf hz .i64 .i64 n n (by omega) (Int.le_refl _) hbn (by omega)
 simp only [Int.toNat_natCast,hsz] at hm
 refine ⟨_,_,G,_,?_,hw.alloc (madeCells z.cells (n*sz)) e,h w.heap.size _ (by simp [size_madeCells])⟩
 unfold execOp
 simp only [hop,hlo,hco,Sem.run_bind,hm,Result.andThen_ok,Sem.run_pure]
end
theorem JfH (k:Nat) (cs:Bv):(Ha k cs).flatten.length=k*cs.length:=by simp
theorem JpK {k m:Nat} {cs:Bv} (h:m≤k):(Ha k cs).flatten.take (m*cs.length)=(Ha m cs).flatten:=by
 obtain ⟨j,rfl⟩:=Nat.exists_eq_add_of_le h
 rw [← Hc,List.flatten_append,Hf (by rw [JfH];exact Nat.le_refl _),Hb (by rw [JfH];exact Nat.le_refl _)]
theorem Yo (a b:Nat):Hd a b≤a∧Hd a b≤b∧(1≤a→1≤b→1≤Hd a b):=by
 show min a b≤a∧min a b≤b∧(1≤a→1≤b→1≤min a b)
 omega
structure Jdk (cs:Bv) (n k:Nat) (F:Bv):Prop where
 le:k≤n
 pos:n=0∨1≤k
 len:F.length=n*cs.length
 eq:F.take (k*cs.length)=(Ha k cs).flatten
theorem Jdk.x {cs F:Bv} {n k m:Nat} (h:Jdk cs n k F) (hm:m≤k):F.take (m*cs.length)=(Ha m cs).flatten:=by
 rw [← JpK hm,← h.eq,List.take_take,Nat.min_eq_left (He _ hm)]
theorem Jdk.xlen {cs F:Bv} {n k m:Nat} (h:Jdk cs n k F) (hm:m≤k):(F.take (m*cs.length)).length=m*cs.length:=by rw [h.x hm,JfH]
theorem Jdk.one {cs F:Bv} {n k m:Nat} (h:Jdk cs n k F) (hm:m≤k) (h1:∀ u∈cs,u.oneCell'=true):∀ u∈F.take (m*cs.length),u.oneCell'=true:=by
 rw [h.x hm]
 intro u hu
 obtain ⟨l,hl,hu⟩:=List.mem_flatten.1 hu
 rw [(List.mem_replicate.1 hl).2] at hu
 exact h1 u hu
theorem Jfe {F X:Bv} {p:Nat} (hp:p≤F.length):(QV F p X).take (p+X.length)=F.take p++X:=by
 unfold QV
 rw [← List.append_assoc,Hf (by simp;omega),Hb (by simp;omega)]
theorem Jdk.next {cs F:Bv} {n k m:Nat} (h:Jdk cs n k F) (hm:m≤k) (hmn:k+m≤n):Jdk cs n (k+m) (QV F (k*cs.length) (F.take (m*cs.length))):=by
 have hkl:k*cs.length+m*cs.length≤n*cs.length:=by rw [← Nat.add_mul];exact He _ hmn
 have hx:=h.xlen hm
 refine ⟨hmn,?_,?_,?_⟩
 ·
  rcases h.pos with q | q
  · exact .inl q
  · exact .inr (by omega)
 · rw [Yc (by rw [hx,h.len];exact hkl)];exact h.len
 ·
  have:=Jfe (F:=F) (X:=F.take (m*cs.length)) (p:=k*cs.length) (by rw [h.len];omega)
  rw [hx,← Nat.add_mul] at this
  rw [this,h.eq,h.x hm,← List.flatten_append,Hc]
def Jgy (cs:Bv) (n:Nat):Bv:=(Ha (Hd 1 n) cs).flatten
theorem Jcp (cs:Bv) (n:Nat):(Jgy cs n).length=Hd 1 n*cs.length:=JfH _ _
theorem JjX {cs:Bv} {n:Nat} {u:Value} (h:u∈Jgy cs n):u∈cs:=by
 obtain ⟨l,hl,hu⟩:=List.mem_flatten.1 h
 rw [(List.mem_replicate.1 hl).2] at hu;exact hu
theorem JpL {cs:Bv} {n j:Nat} {v:Value} (h:(Jgy cs n)[j]? = some v):cs[j]? = some v:=by
 unfold Jgy at h
 have h2:=(Nat.min_def (m:=n) (n:=1))
 by_cases e:1≤n
 ·
  rw [show Hd 1 n=1 from Nat.min_eq_left e] at h
  simpa using h
 ·
  rw [show Hd 1 n=0 from by show min 1 n=0;omega] at h
  simp at h
theorem Jdk.start {cs F:Bv} {n:Nat} (hF:F.length=n*cs.length):Jdk cs n (Hd 1 n) (QV F 0 (Jgy cs n)):=by
 have hl:=Jcp cs n
 have hle:Hd 1 n≤n:=Nat.min_le_right 1 n
 have hk:Hd 1 n*cs.length≤n*cs.length:=He _ hle
 refine ⟨hle,?_,?_,?_⟩
 ·
  by_cases e:n=0
  · exact .inl e
  · exact .inr (by show 1≤min 1 n;omega)
 · rw [Yc (by rw [hl,hF];omega)];exact hF
 ·
  have:=Jfe (F:=F) (X:=Jgy cs n) (p:=0) (Nat.zero_le _)
  rw [hl] at this
  simp only [Nat.zero_add,List.take_zero,List.nil_append] at this
  rw [this];rfl
theorem Jdk.row {α:Type} {E:Y3 α} {G:J4} {cs F:Bv} {n k b:Nat} {x:α} (h:Jdk cs n k F) (hk:n≤k) (hR:E.R G cs x) (h63:n≤9223372036854775807):J0 E G (At b 0) n (Ha n x) [Sg b 0 F]:=by
 have hkn:k=n:=Nat.le_antisymm h.le hk
 subst hkn
 have hF:F=(Ha k cs).flatten:=by rw [← h.eq,Hb (by rw [h.len];exact Nat.le_refl _)]
 have hsz:=E.len hR
 refine ⟨⟨Ha k cs,by simp,fun i y hy=>?_,?_⟩⟩
 ·
  have hi:=(Hg.1 hy).1
  simp only [Hi] at hi
  rw [Hh,if_pos hi] at hy
  cases hy
  exact ⟨cs,by rw [Hh,if_pos hi],hR⟩
 ·
  rw [Hi,← hF]
  exact Row.lit (by rw [h.len,hsz]) h63
theorem Jmv {G:J4} {L:Bl} {b o n:Nat} {cs:Bv} (h:∀ j v,cs[j]? = some v→G b (o+j)=some v):Jor G L b o (Jgy cs n):=.inl fun j v hv=>h j v (JpL hv)
theorem Jmw {G:J4} {L:Bl} {b:Nat} {F:Bv} {m:Nat} (k:Nat) (hL:L[k]? = some [Sg b 0 F]):Jor G L b 0 (F.take m):=.inr ⟨k,0,F,0,hL,rfl,fun j v hv=>by
 rw [Nat.zero_add]
 have hj:=(Hg.1 hv).1
 simp only [List.length_take] at hj
 rw [List.getElem?_take] at hv
 split at hv
 · exact hv
 · cases hv⟩
end Go.Tx
namespace Go.Proofs.YteaampgpgokjmaaGreatDoor
open Go.Tx
open Go.Proofs
open _root_.List renaming forall_mem_nil → Ha, replicate → Hb, length_cons → Hc, length_append → Hd, length_nil → Hg, mem_of_getElem? → Hi, length_map → Hj, length_take → Hk, take_of_length_le → Hl, length_replicate → Hm, take_add_one → Hn, getElem?_eq_some_iff → Hs, drop_eq_getElem_cons → Ht, length → Hv
open _root_.Nat renaming min → He, le_of_ble_eq_true → Hf, le_trans → Ho, zero_le → Hq, le_refl → Hr
open IntKind renaming i64 → Hh, u64 → Hp
open _root_.Decidable renaming not_not → Hu
open IntWalk renaming i64_in → Hw
theorem JjY (y:Int) (hy:0≤y∧y<9223372036854775808) (G:J4):VB Tryz.prog 33 #[U 1,U y] G [] (fun u G' L'=>u=.tuple #[U 0,U y]):=by
 refine JS Tryz.func33 30 [(0,U 1),(1,U y)] rfl (fun w0 G0=>?_)
 exact Jg [0,0] [] (Jf (Jgw (Jq (Jc (Jf (Jd (Jb [0,0] [(23,U 1),(24,U y)] (Jl 25 (.tuple #[U (1*y / 18446744073709551616),U (1*y % 18446744073709551616)]) (Jhz 1 y J5 J5 G) (Jb [0,0,0,0,0] [(8,U (1*y / 18446744073709551616)),(9,U (1*y % 18446744073709551616))] (Je (Jc (Jg [0,0,0,0] [(4,U (1*y / 18446744073709551616)),(5,U (1*y % 18446744073709551616))] (Jo (Jp [0,0] [U (1*y / 18446744073709551616),U (1*y % 18446744073709551616)] (Jy (Jh _) (congr (congrArg (fun a b=>Value.tuple #[U a,U b]) J5) J5))))))))))))))))
theorem JjZ (G:J4) (a_l:Ba) (c_l:Nat) (p:Wl) (h_l:RS Wp G a_l c_l [p]) (n:Nat) (hn:n≤1000):VB Tryz.prog 59 #[Sl a_l 1 c_l,I (n:Int)] G [] (fun u G' L'=>∃ a' c' r,u=Sl a' (Hb n p).length c'∧J0 Wp G' a' c' (Hb n p) r∧L'=[r]):=by
 obtain ⟨bx,ox,rfl⟩:=RS.addr h_l (k:=0) (by simp)
 obtain ⟨csx,h_p,hcx⟩:=RS.get h_l (k:=0) (x:=p) rfl
 have h1x:=Wp.one h_p
 obtain ⟨rfl,_,_,_,_,_,_⟩:=id h_p
 rw [Nat.zero_mul,Nat.add_zero] at hcx
 refine JS Tryz.func59 48 [(0,Sl (At bx ox) 1 c_l),(1,I (n:Int))] rfl (fun w0 G0=>?_)
 refine Jg [0] [] (Jf (Jg [0,0] [(10,Bo (decide ((n:Int)<0)))] (Jm (decide ((n:Int)<0)) (fun h1=>?_) (fun h1=>?_))))
 exfalso;omega
 refine Jq (Jc (Jf (Jd (Jb [0,0,0,0,0] [(15,U (Hp.wrap (1:Int))),(17,U (Hp.wrap (n:Int)))] (Jbk 17 (n:Int) J5 (Jl 18 (.tuple #[U 0,U (n:Int)]) (JjY (n:Int) J5 G) (Jb [0,0,0,0,0] [(5,U 0),(6,U (n:Int))] (Je (Jc (Jf (Jg [0,0,0,0,0,0] [(26,Bo (decide ((n:Int) > 9223372036854775807)))] (Jm (decide ((n:Int) > 9223372036854775807)) (fun h2=>?_) (fun h2=>?_)))))))))))))
 exfalso;omega
 refine Jq (Jc (Jf (Jd (Jb [0,0] [(29,I (Hh.wrap (n:Int)))] (Kp 29 (n:Int) J5 (Jgx (z:=(.agg #[I 0,I 0,I 0,I 0,I 0,I 0])) (bytes:=48) 30 62 143 n 6 J5 J5 (by kernel_rfl) (fun bz Fz hFz=>Jb [0] [(7,Sl (At bz 0) n n)] (Je (Jc (Jf (Jd (Jb [0,0] [(31,Sl (At bz 0) n n),(32,Sl (At bx ox) 1 c_l)] (V9 (b:=bz) (off:=0) (p:=0) (nd:=n) (cd:=n) (bs:=bx) (os:=ox) (ns:=1) (cs:=c_l) (F:=Fz) 33 0 6 (Jgy [I p.least,I p.most,I p.lost,I p.gap,I p.next,I p.asked] n) (Jcp _ _) (by rw [Jcp,hFz,Nat.zero_add];exact Nat.mul_le_mul_right _ (Nat.min_le_right 1 n)) (fun u hu=>h1x u (JjX hu)) (Jmv hcx) (Jb [0] [(8,I ((He 1 n:Nat):Int))] (Je (Jc (Jf (Jx ?_))))))))))))))))))
 refine Qb (σ:=Nat×Bv) (fun q_=>(Jdk [I p.least,I p.most,I p.lost,I p.gap,I p.next,I p.asked] n q_.1 q_.2)) (fun q_=>[(7,Sl (At bz 0) n n),(8,I (q_.1:Int))]) (fun q_=>G) (fun q_=>[[Sg bz 0 q_.2]]) (fun q_=>n-q_.1) ((He 1 n),(QV Fz 0 (Jgy [I p.least,I p.most,I p.lost,I p.gap,I p.next,I p.asked] n))) (.start hFz) (fun q_ hs=>?_)
 obtain ⟨k,F⟩:=q_
 have hI:=hs
 dsimp only at hI
 dsimp only
 refine Jf (Jg [0,0,0,0] [(37,Bo (decide ((k:Int)<(n:Int))))] (Jm (decide ((k:Int)<(n:Int))) (fun h3=>?_) (fun h3=>?_)))
 refine Jq (Jc (Jx (Kt [7] (Wz [(0,I (k:Int)),(1,Sl (At bz 0) n n),(2,I (k:Int)),(3,Sl (At bz (0+k*6)) (n-k) (n-k)),(4,Sl (At bz 0) n n),(5,I (k:Int)),(6,Sl (At bz 0) k n)] (JL [] [(0,0),(1,0),(2,0),(4,0),(5,0)] [3,6] [7] (Kb ?_ (Kb ?_ K4)) (Kb ?_ K4))))))
 refine Jr 3 41 (Sl (At bz (0+k*6)) (n-k) (n-k)) [(39,Sl (At bz 0) n n),(40,I (k:Int))] (fun X=>?_)
 exact VF (b:=bz) (off:=0) (len:=n) (cap:=n) 41 6 (some (I (k:Int))) none k n (.inr ⟨_,rfl⟩) (.inl ⟨rfl,rfl⟩) J5 J5 J5 Jn
 refine Jr 6 44 (Sl (At bz 0) k n) [(42,Sl (At bz 0) n n),(43,I (k:Int))] (fun X=>?_)
 exact Jcw (b:=bz) (off:=0) (len:=n) (cap:=n) 44 6 (some (I (k:Int))) k (.inr ⟨_,rfl⟩) J5 Jn
 refine JA 7 [(41,Sl (At bz (0+k*6)) (n-k) (n-k)),(44,Sl (At bz 0) k n)] (fun X=>?_)
 refine V9 (b:=bz) (off:=0) (p:=k*6) (nd:=n-k) (cd:=n-k) (bs:=bz) (os:=0) (ns:=k) (cs:=n) (F:=F) 45 0 6 (F.take (He k (n-k)*6)) (hI.xlen (Yo _ _).1) (by have q_:(F.take (He k (n-k)*6)).length=He k (n-k)*6:=hI.xlen (Yo _ _).1;have q1_:F.length=n*6:=hI.len;have q2_:=Yo k (n-k);omega) (hI.one (Yo _ _).1 h1x) (Jmw 0 rfl) ?_
 have e1:Hh.wrap ((k:Int)+((He k (n-k):Nat):Int))=((k+He k (n-k):Nat):Int):=(Hw _ (by (have q_:=Yo k (n-k);have q2_:=hI.le;omega))).trans (show (k:Int)+((He k (n-k):Nat):Int)=((k+He k (n-k):Nat):Int) from (Int.natCast_add _ _).symm)
 refine JC [(7,I ((He k (n-k):Nat):Int)),(8,I ((k+He k (n-k):Nat):Int)),(9,I ((k+He k (n-k):Nat):Int))] (Kq [1,2,3,4,5,6] [(0,0),(9,0)] [8] [(7,Sl (At bz 0) n n),(8,I ((k+He k (n-k):Nat):Int))] (Kb ?_ K4) ?_)
 refine Jr 8 46 (I ((k+He k (n-k):Nat):Int)) [(38,I (k:Int)),(45,I ((He k (n-k):Nat):Int))] (fun X=>?_)
 exact Qc 46 (I (Hh.wrap ((k:Int)+((He k (n-k):Nat):Int)))) (I ((k+He k (n-k):Nat):Int)) (by simp only [e1]) Jn
 exact JN (Qf (k+He k (n-k),(QV F (k*6) (F.take (He k (n-k)*6)))) (hI.next (Yo _ _).1 (by (try dsimp only);have q_:=Yo k (n-k);have q2_:=hI.le;omega)) (by (try dsimp only);have q_:=hI.pos;have q2_:=Yo k (n-k);omega))
 refine KW (J1 (J8 (JT (Jc (Jg [0,0] [(4,Sl (At bz 0) n n)] (Jo ?_))))))
 have hrw:=hI.row (E:=Wp) (G:=G) (x:=p) (b:=bz) (by omega) h_p (by omega)
 refine Jc6 4 (Sl (At bz 0) ((Hb n p).length) n) (show (Sl (At bz 0) n n:Value)=Sl (At bz 0) ((Hb n p).length) n by simp only [Hm]) (Jk 0 ?_)
 have hf1:Hb n p=(Hb n p):=by
  rfl
 refine Jp [0] [Sl (At bz 0) ((Hb n p).length) n] (JB [[Sg bz 0 F]] (Jh _) ?_)
 rw [hf1]
 try dsimp only
 exact ⟨(At bz 0),n,([Sg bz 0 F]),rfl,hrw,rfl⟩
def Jmx (s:Ky):JV:=W6 (Ks s.most s.batch s.every).1.heads
def Jcq (s:Ky) (i:Nat):JK:=⟨⟨(Ks s.most s.batch s.every).1,(Yb s (Jmx s)).take i,[],⟨0,[]⟩⟩,s.reach,[],[]⟩
theorem Jhg {s:Ky} {h:JV} {i:Nat} {n:Bb} {k:Int} (hn:s.names[i]? = some n) (hk:s.keys[i]? = some k):(Yb s h).take i++[(Kh n k h).1]=(Yb s h).take (i+1):=by
 have:(Yb s h)[i]? = some (Kh n k h).1:=by
  have hz:(s.names.zip s.keys)[i]? = some (n,k):=List.getElem?_zip_eq_some.2 ⟨hn,hk⟩
  unfold Yb
  rw [List.getElem?_map,hz];rfl
 rw [Hn,this];rfl
theorem Jj0 {s:Ky} {bt:JK} {i:Nat} {n:Bb} {k:Int} {x:JV} (hB:bt=Jcq s i) (hn:s.names[i]? = some n) (hk:s.keys[i]? = some k) (hx:(Ks s.most s.batch s.every).1.heads[0]? = some x) :
  (⟨⟨bt.town.clerk,bt.town.owners++[(Kh n k x).1],bt.town.polls,bt.town.net⟩,bt.reach,bt.fates,bt.events⟩:JK)=Jcq s (i+1):=by
 subst hB
 have e:=W7 hx
 subst e
 unfold Jcq
 simp only
 congr 2
 exact Jhg hn hk
theorem JpM {s:Ky} {i:Nat} {n:Bb} (hN:nmE (s.names.take i) (s.names.drop i)=nmE [] s.names) (hn:s.names[i]? = some n) (h1:KC n=true) (h2:((s.names.take i).any fun x=>decide (n=x))=false):nmE (s.names.take (i+1)) (s.names.drop (i+1))=nmE [] s.names:=by
 have hl:=(Hs.1 hn)
 rw [← hN,Ht hl.1,hl.2]
 show _=if _ then _ else _
 rw [if_neg (by rw [h1,h2];simp),Hn,hn];rfl
theorem Jmy {s:Ky} {i:Nat} {n:Bb} (hN:nmE (s.names.take i) (s.names.drop i)=nmE [] s.names) (hn:s.names[i]? = some n) (h:KC n=false∨((s.names.take i).any fun x=>decide (n=x))=true):nmE [] s.names=3:=by
 have hl:=(Hs.1 hn)
 rw [← hN,Ht hl.1,hl.2]
 show (if _ then _ else _)=_
 rw [if_pos h]
theorem JiI {s:Ky} (h:¬ (Ks s.most s.batch s.every).2=0):Qm s=(Ks s.most s.batch s.every).2∧¬ (Ks s.most s.batch s.every).2=0:=⟨by unfold Qm;rw [if_pos h],h⟩
theorem Jj1 {s:Ky} (h:(Ks s.most s.batch s.every).2=0) (h1:s.names.length > 4):Qm s=2∧¬ (2:Int)=0:=⟨by unfold Qm;rw [if_neg (by omega),if_pos h1],by decide⟩
theorem Jj2 {s:Ky} (h:(Ks s.most s.batch s.every).2=0) (h1:¬ s.names.length > 4) (h2:¬ s.keys.length=s.names.length):Qm s=3∧¬ (3:Int)=0:=⟨by unfold Qm;rw [if_neg (by omega),if_neg h1,if_pos h2],by decide⟩
theorem Jff {s:Ky} (h:(Ks s.most s.batch s.every).2=0) (h1:¬ s.names.length > 4) (h2:s.keys.length=s.names.length) (h3:nmE [] s.names=3):Qm s=3∧¬ (3:Int)=0:=⟨by unfold Qm;rw [if_neg (by omega),if_neg h1,if_neg (by omega),if_pos (by omega),h3],by decide⟩
theorem Jgz {s:Ky} {i:Nat} (hN:nmE (s.names.take i) (s.names.drop i)=nmE [] s.names) (hi:s.names.length≤i):nmE [] s.names=0:=by rw [← hN,List.drop_of_length_le hi];unfold nmE;rfl
theorem Jj3 {s:Ky} (h:(Ks s.most s.batch s.every).2=0) (h1:¬ s.names.length > 4) (h2:s.keys.length=s.names.length) (h3:nmE [] s.names=0) (h4:¬ (Ws s.least s.top s.lost).2=0):Qm s=(Ws s.least s.top s.lost).2∧¬ (Ws s.least s.top s.lost).2=0:=⟨by unfold Qm;rw [if_neg (by omega),if_neg h1,if_neg (by omega),if_neg (by omega),if_pos h4],h4⟩
theorem JiJ {s:Ky} (h:(Ks s.most s.batch s.every).2=0) (h1:¬ s.names.length > 4) (h2:s.keys.length=s.names.length) (h3:nmE [] s.names=0) (h4:(Ws s.least s.top s.lost).2=0) (h5:s.reach<1∨s.reach > 40):Qm s=4∧¬ (4:Int)=0:=⟨by unfold Qm;rw [if_neg (by omega),if_neg h1,if_neg (by omega),if_neg (by omega),if_neg (by omega),if_pos h5],by decide⟩
theorem JnM {s:Ky} (h:(Ks s.most s.batch s.every).2=0) (h1:¬ s.names.length > 4) (h2:s.keys.length=s.names.length) (h3:nmE [] s.names=0) (h4:(Ws s.least s.top s.lost).2=0) (h5:¬ (s.reach<1∨s.reach > 40)):Qm s=0:=by unfold Qm;rw [if_neg (by omega),if_neg h1,if_neg (by omega),if_neg (by omega),if_neg (by omega),if_neg h5]
theorem JnN {s:Ky} {bt:JK} {i:Nat} (hB:bt=Jcq s i) (hi:s.names.length≤i):K0 s=(⟨⟨bt.town.clerk,bt.town.owners,Hb bt.town.owners.length (Ws s.least s.top s.lost).1,bt.town.net⟩,bt.reach,bt.fates,bt.events⟩:JK):=by
 subst hB
 have hl:(Yb s (Jmx s)).length≤i:=by unfold Yb;rw [Hj,List.length_zip];omega
 unfold Jcq K0 Jmx
 unfold Jmx at hl
 simp only
 rw [Hl hl]
theorem JiK {s:Ky} (h:(Ks s.most s.batch s.every).2=0):(Ks s.most s.batch s.every).1.heads.length=1:=(JaV h).2.2.2.2
theorem Jdl {s:Ky} {bt:JK} {i:Nat} (hB:bt=Jcq s i):bt.town.owners.length≤s.names.length:=by
 subst hB
 unfold Jcq Yb
 simp only [Hk,Hj,List.length_zip];omega
theorem JhM (a b c:Int):JhL (Ws a b c).1:=by
 by_cases h:(Ws a b c).2=0
 ·
  obtain ⟨q1,q2⟩:=Jgq h
  rw [q2];exact .ok q1
 · rw [JjN h];exact JiG
set_option maxRecDepth 20000 in
abbrev WW (s:Ky):=Ks s.most s.batch s.every
abbrev Zc (s:Ky):=Ws s.least s.top s.lost
set_option maxHeartbeats 1600000 in
theorem JhN (G:J4) (vs_s:Bv) (s:Ky) (h_s:Jic.R G vs_s s):VB Tryz.prog 34 #[.agg vs_s.toArray] G [] (fun u G' L'=>(¬ Qm s=0∧u=.tuple #[.pointer none,I (Qm s)]∧L'=[])∨(Qm s=0∧∃ (b:Nat) (a_1:Ba) (c_1:Nat) (a_5:Ba) (c_5:Nat) (a_6:Ba) (c_6:Nat) (a_7:Ba) (c_7:Nat) (a_8:Ba) (c_8:Nat) (a_10:Ba) (c_10:Nat) (a_12:Ba) (c_12:Nat) (a_13:Ba) (c_13:Nat) (r_7:Bg) (r_8:Bg) (r_12:Bg) (r_13:Bg),u=.tuple #[Pt b 0,I 0]∧(rI ((K0 s).town.clerk.queue.most))∧(RS Q4 G' a_1 c_1 ((K0 s).town.clerk.queue.wait))∧(rI ((K0 s).town.clerk.batch))∧(rI ((K0 s).town.clerk.every))∧(rI ((K0 s).town.clerk.now))∧(RS KG G' a_5 c_5 ((K0 s).town.clerk.heads))∧(RS Qi G' a_6 c_6 ((K0 s).town.clerk.books))∧(J0 QG G' a_7 c_7 ((K0 s).town.owners) r_7)∧(J0 Wp G' a_8 c_8 ((K0 s).town.polls) r_8)∧(rI ((K0 s).town.net.now))∧(RS Kg G' a_10 c_10 ((K0 s).town.net.way))∧(rI ((K0 s).reach))∧(J0 VA G' a_12 c_12 ((K0 s).fates) r_12)∧(J0 QR G' a_13 c_13 ((K0 s).events) r_13)∧L'=[[Sg b 0 [I ((K0 s).town.clerk.queue.most),Sl a_1 (((K0 s).town.clerk.queue.wait).length) c_1,I ((K0 s).town.clerk.batch),I ((K0 s).town.clerk.every),I ((K0 s).town.clerk.now),Sl a_5 (((K0 s).town.clerk.heads).length) c_5,Sl a_6 (((K0 s).town.clerk.books).length) c_6,Sl a_7 (((K0 s).town.owners).length) c_7,Sl a_8 (((K0 s).town.polls).length) c_8,I ((K0 s).town.net.now),Sl a_10 (((K0 s).town.net.way).length) c_10,I ((K0 s).reach),Sl a_12 (((K0 s).fates).length) c_12,Sl a_13 (((K0 s).events).length) c_13]],r_7,r_8,r_12,r_13])):=by
 obtain ⟨a1,c1,a2,c2,rfl,hs1,hs2,w1,w2,w3,w4,w5,w6,w7⟩:=h_s
 refine JS Tryz.func34 130 [(0,(Va s a1 c1 a2 c2))] rfl (fun w0 G0=>?_)
 refine Jf (Jd (Jv 1 #[Sl a1 s.names.length c1,Sl a2 s.keys.length c2,I s.most,I s.batch,I s.every,I s.least,I s.top,I s.lost,I s.reach] 72 (fun b1=>Jb [0,0] [] (Je (Jc (Jf (Jd (Jb [0,2,0,2,0,2] [(14,I s.most),(16,I s.batch),(18,I s.every)] (JM 19 (JiB G s.most w1 s.batch w2 s.every w3) (fun v G1 L1 hl1 hp=>?_))))))))))
 obtain ⟨a3,c3,a4,c4,a5,c5,rfl,w8,hs3,w9,w10,w11,hs4,hs5,rfl⟩:=hp
 refine Jb [0,0,0] [(20,(QH (WW s).1 a3 c3 a4 c4 a5 c5)),(21,I ((WW s).2))] (Jv 4 #[I 0,Sl none 0 0,I 0,I 0,I 0,Sl none 0 0,Sl none 0 0] 60 (fun b2=>JX [3,0] [(5,I ((WW s).2))] [[Sg b2 0 (KX (WW s).1 a3 c3 a4 c4 a5 c5)],[Sg b1 0 (WH s a1 c1 a2 c2)]] (Je (Jc (Jf (Jg [0,0] [(23,Bo (!decide ((WW s).2=0)))] (Jm (!decide ((WW s).2=0)) (fun h1=>?_) (fun h1=>?_))))))))
 refine Jg [0,0,0] [(2,.pointer none),(3,I ((WW s).2))] (Jo (Jj ?_))
 have hf1:Qm s=(WW s).2∧¬ ((WW s).2)=0:=by
  exact JiI ‹_›
 refine Jp [0,0] [.pointer none,I ((WW s).2)] (JB [] hl1 ?_)
 rw [← hf1.1];exact .inl ⟨by rw [hf1.1];exact hf1.2,rfl,rfl⟩
 refine Jq (Jc (Jf (Jx (Jg [0,4,0,0,0] [(25,Bo (decide ((s.names.length:Int) > 4)))] (Jm (decide ((s.names.length:Int) > 4)) (fun h2=>?_) (fun h2=>?_))))))
 refine Jg [0,0] [(2,.pointer none),(3,I 2)] (Jo (Ju (Jj ?_)))
 have hf2:Qm s=2∧¬ (2:Int)=0:=by
  exact Jj1 ‹_› (by omega)
 refine Jp [0,0] [.pointer none,I 2] (JB [] hl1 ?_)
 rw [← hf2.1];exact .inl ⟨by rw [hf2.1];exact hf2.2,rfl,rfl⟩
 refine Jg [0,4,0,0,4,0,0,0] [(30,Bo (!decide ((s.keys.length:Int)=(s.names.length:Int))))] (Jm (!decide ((s.keys.length:Int)=(s.names.length:Int))) (fun h3=>?_) (fun h3=>?_))
 refine Jg [0,0] [(2,.pointer none),(3,I 3)] (Jo (Ju (Jj ?_)))
 have hf3:Qm s=3∧¬ (3:Int)=0:=by
  exact Jj2 ‹_› J5 (by omega)
 refine Jp [0,0] [.pointer none,I 3] (JB [] hl1 ?_)
 rw [← hf3.1];exact .inl ⟨by rw [hf3.1];exact hf3.2,rfl,rfl⟩
 refine Jq (JN (Jc (Jf (Jd (Jb [0,4,0] [(40,.agg #[I 0,Sl none 0 0,I 0,I 0,I 0,Sl none 0 0,Sl none 0 0,Sl none 0 0,Sl none 0 0,I 0,Sl none 0 0,I s.reach,Sl none 0 0,Sl none 0 0])] (Jv 41 #[I 0,Sl none 0 0,I 0,I 0,I 0,Sl none 0 0,Sl none 0 0,Sl none 0 0,Sl none 0 0,I 0,Sl none 0 0,I s.reach,Sl none 0 0,Sl none 0 0] 107 (fun b3=>Jb [0] [(6,Pt b3 0)] (Je (Jc (QF [0,4,0,0,0,3] [] [[Sg b3 0 [I (((WW s).1).queue.most),Sl a3 ((((WW s).1).queue.wait).length) c3,I (((WW s).1).batch),I (((WW s).1).every),I (((WW s).1).now),Sl a4 ((((WW s).1).heads).length) c4,Sl a5 ((((WW s).1).books).length) c5,Sl none 0 0,Sl none 0 0,I 0,Sl none 0 0,I s.reach,Sl none 0 0,Sl none 0 0]],[Sg b2 0 (KX (WW s).1 a3 c3 a4 c4 a5 c5)],[Sg b1 0 (WH s a1 c1 a2 c2)]] (Jf (Jg [0,6,0,0] [(48,Sl a1 s.names.length c1),(49,I (s.names.length:Int)),(50,I 0)] (Jx (Z4 (Z4 (Z4 (Z4 ?_)))))))))))))))))
 have hlm_hs1:s.names.length≤9223372036854775807:=Ho (hs1).le (hs1).max
 refine Qb (σ:=Nat×JK×Ba×Nat×Ba×Nat×Ba×Nat×Ba×Nat×Bg×Ba×Nat×Bg×Ba×Nat×Ba×Nat×Bg×Ba×Nat×Bg×J4) (fun q_=>(J4.le G1 q_.2.2.2.2.2.2.2.2.2.2.2.2.2.2.2.2.2.2.2.2.2.2)∧(q_.1≤s.names.length)∧(RS Q4 q_.2.2.2.2.2.2.2.2.2.2.2.2.2.2.2.2.2.2.2.2.2.2 q_.2.2.1 q_.2.2.2.1 q_.2.1.town.clerk.queue.wait)∧(RS KG q_.2.2.2.2.2.2.2.2.2.2.2.2.2.2.2.2.2.2.2.2.2.2 q_.2.2.2.2.1 q_.2.2.2.2.2.1 q_.2.1.town.clerk.heads)∧(RS Qi q_.2.2.2.2.2.2.2.2.2.2.2.2.2.2.2.2.2.2.2.2.2.2 q_.2.2.2.2.2.2.1 q_.2.2.2.2.2.2.2.1 q_.2.1.town.clerk.books)∧(J0 QG q_.2.2.2.2.2.2.2.2.2.2.2.2.2.2.2.2.2.2.2.2.2.2 q_.2.2.2.2.2.2.2.2.1 q_.2.2.2.2.2.2.2.2.2.1 q_.2.1.town.owners q_.2.2.2.2.2.2.2.2.2.2.1)∧(J0 Wp q_.2.2.2.2.2.2.2.2.2.2.2.2.2.2.2.2.2.2.2.2.2.2 q_.2.2.2.2.2.2.2.2.2.2.2.1 q_.2.2.2.2.2.2.2.2.2.2.2.2.1 q_.2.1.town.polls q_.2.2.2.2.2.2.2.2.2.2.2.2.2.1)∧(RS Kg q_.2.2.2.2.2.2.2.2.2.2.2.2.2.2.2.2.2.2.2.2.2.2 q_.2.2.2.2.2.2.2.2.2.2.2.2.2.2.1 q_.2.2.2.2.2.2.2.2.2.2.2.2.2.2.2.1 q_.2.1.town.net.way)∧(J0 VA q_.2.2.2.2.2.2.2.2.2.2.2.2.2.2.2.2.2.2.2.2.2.2 q_.2.2.2.2.2.2.2.2.2.2.2.2.2.2.2.2.1 q_.2.2.2.2.2.2.2.2.2.2.2.2.2.2.2.2.2.1 q_.2.1.fates q_.2.2.2.2.2.2.2.2.2.2.2.2.2.2.2.2.2.2.1)∧(J0 QR q_.2.2.2.2.2.2.2.2.2.2.2.2.2.2.2.2.2.2.2.2.2.2 q_.2.2.2.2.2.2.2.2.2.2.2.2.2.2.2.2.2.2.2.1 q_.2.2.2.2.2.2.2.2.2.2.2.2.2.2.2.2.2.2.2.2.1 q_.2.1.events q_.2.2.2.2.2.2.2.2.2.2.2.2.2.2.2.2.2.2.2.2.2.1)∧(rI q_.2.1.town.clerk.queue.most)∧(rI q_.2.1.town.clerk.batch)∧(rI q_.2.1.town.clerk.every)∧(rI q_.2.1.town.clerk.now)∧(rI q_.2.1.town.net.now)∧(rI q_.2.1.reach)∧(q_.2.1=Jcq s q_.1)∧(nmE (s.names.take q_.1) (s.names.drop q_.1)=nmE [] s.names)) (fun q_=>[(1,Pt b1 0),(4,Pt b2 0),(6,Pt b3 0),(48,Sl a1 s.names.length c1),(49,I (s.names.length:Int)),(50,I (q_.1:Int))]) (fun q_=>q_.2.2.2.2.2.2.2.2.2.2.2.2.2.2.2.2.2.2.2.2.2.2) (fun q_=>[q_.2.2.2.2.2.2.2.2.2.2.2.2.2.2.2.2.2.2.2.2.2.1,q_.2.2.2.2.2.2.2.2.2.2.2.2.2.2.2.2.2.2.1,q_.2.2.2.2.2.2.2.2.2.2.2.2.2.1,q_.2.2.2.2.2.2.2.2.2.2.1,[Sg b3 0 (J7 q_.2.1 q_.2.2.1 q_.2.2.2.1 q_.2.2.2.2.1 q_.2.2.2.2.2.1 q_.2.2.2.2.2.2.1 q_.2.2.2.2.2.2.2.1 q_.2.2.2.2.2.2.2.2.1 q_.2.2.2.2.2.2.2.2.2.1 q_.2.2.2.2.2.2.2.2.2.2.2.1 q_.2.2.2.2.2.2.2.2.2.2.2.2.1 q_.2.2.2.2.2.2.2.2.2.2.2.2.2.2.1 q_.2.2.2.2.2.2.2.2.2.2.2.2.2.2.2.1 q_.2.2.2.2.2.2.2.2.2.2.2.2.2.2.2.2.1 q_.2.2.2.2.2.2.2.2.2.2.2.2.2.2.2.2.2.1 q_.2.2.2.2.2.2.2.2.2.2.2.2.2.2.2.2.2.2.2.1 q_.2.2.2.2.2.2.2.2.2.2.2.2.2.2.2.2.2.2.2.2.1)],[Sg b2 0 (KX (WW s).1 a3 c3 a4 c4 a5 c5)],[Sg b1 0 (WH s a1 c1 a2 c2)]]) (fun q_=>s.names.length-q_.1) (0,(⟨(⟨((WW s).1),([]:List Qh),([]:List Wl),(⟨0,[]⟩:YM)⟩:Wb),s.reach,([]:List (List Int)),([]:List ZC)⟩:JK),a3,c3,a4,c4,a5,c5,none,0,[],none,0,[],none,0,none,0,[],none,0,[],G1) ⟨(Jh _),(by (try dsimp only);exact Hq _),hs3,hs4,hs5,(J0.none QG _),(J0.none Wp _),(JP Kg G1),(J0.none VA _),(J0.none QR _),w8,w9,w10,w11,(by (try dsimp only);omega),w7,(by (try dsimp only);rfl),rfl⟩ (fun q_ hs=>?_)
 obtain ⟨i,bt,abt0,cbt0,abt1,cbt1,abt2,cbt2,abt3,cbt3,rbt7,abt4,cbt4,rbt8,abt5,cbt5,abt6,cbt6,rbt12,abt7,cbt7,rbt13,g⟩:=q_
 obtain ⟨hle,hi,hbt1,hbt5,hbt6,hbt7,hbt8,hbt10,hbt12,hbt13,hbt0,hbt2,hbt3,hbt4,hbt9,hbt11,hB,hN⟩:=hs
 dsimp only at hle hi hbt1 hbt5 hbt6 hbt7 hbt8 hbt10 hbt12 hbt13 hbt0 hbt2 hbt3 hbt4 hbt9 hbt11 hB hN
 dsimp only
 refine Jg [0] [(51,Bo (decide ((i:Int)<(s.names.length:Int))))] (Jf (Jm (decide ((i:Int)<(s.names.length:Int))) (fun h4=>?_) (fun h4=>?_)))
 refine Jq (Jc (Jf (Jx (Jf (Jd (Jb [0] [(52,I (i:Int))] ?_))))))
 obtain ⟨b4,o1,rfl⟩:=RS.addr (hs1.mono (Ja hl1 hle)) (k:=i) (by omega)
 obtain ⟨x1,hx1⟩:=QW (l:=s.names) (k:=i) (by omega)
 obtain ⟨_,⟨rfl,w12⟩,hc1⟩:=RS.get (hs1.mono (Ja hl1 hle)) hx1
 refine JY (b:=b4) (off:=o1) (len:=s.names.length) (cap:=c1) (ik:=.i64) 53 9 1 i J5 (JR 54 9 (cs:=[Sr x1]) 0 (Sr x1) hc1 (Jb [0,0] [(7,I (i:Int)),(8,Sr x1)] (Je (Jc (Jf (Jf (Jd (Jb [0] [(55,Sr x1)] (Jl 56 (Bo (KC x1)) (Z7 g x1) (Jb [0,0] [(58,Bo (!(KC x1)))] (QS [58] (!(KC x1)) (fun h5=>?_) (fun h5=>?_))))))))))))
 refine Jb [1,1,1,1,1,1,0] [(65,Bo true)] (Je (Jc (JZ (Jg [0,0] [(2,.pointer none),(3,I 3)] (Jo (Jj (Ju (Jj (Q0 (Ju (Jj ?_)))))))))))
 have hf4:Qm s=3∧¬ (3:Int)=0:=by
  exact Jff ‹_› J5 J5 (Jmy hN ‹_› (.inl ‹_›))
 refine Jp [0,0] [.pointer none,I 3] (JB [] (Ja hl1 hle) ?_)
 rw [← hf4.1];exact .inl ⟨by rw [hf4.1];exact hf4.2,rfl,rfl⟩
 refine Jb [0,14,0] [(60,Sl (At b4 o1) s.names.length c1),(61,I (i:Int))] ?_
 obtain ⟨a6,c6,ea1,ec1,en1,eh1,hs6⟩:=RS.reslXT (hs1.mono (Ja hl1 hle)) i (by omega)
 refine WQ (a:=At b4 o1) (len:=s.names.length) (cap:=c1) 62 1 none (some (I (i:Int))) 0 i (.inl ⟨rfl,rfl⟩) (.inr ⟨_,rfl⟩) (by exact Hq _) ea1 ec1 en1 eh1 (Jb [0] [(63,Sr x1)] (Jl 64 (Bo ((s.names.take i).any (fun x=>decide (x1=x)))) (JqB g a6 c6 (s.names.take i) hs6 x1) (Jb [0] [(65,Bo ((s.names.take i).any (fun x=>decide (x1=x))))] (Je (Jc (Jm ((s.names.take i).any (fun x=>decide (x1=x))) (fun h6=>?_) (fun h6=>?_)))))))
 refine Jg [0,0] [(2,.pointer none),(3,I 3)] (Jo (Jj (Ju (Jj (Q0 (Ju (Jj ?_)))))))
 have hf5:Qm s=3∧¬ (3:Int)=0:=by
  exact Jff ‹_› J5 J5 (Jmy hN ‹_› (.inr ‹_›))
 refine Jp [0,0] [.pointer none,I 3] (JB [] (Ja hl1 hle) ?_)
 rw [← hf5.1];exact .inl ⟨by rw [hf5.1];exact hf5.2,rfl,rfl⟩
 refine Jq (Jc ?_)
 obtain ⟨b5,o2,rfl⟩:=RS.addr (hs2.mono (Ja hl1 hle)) (k:=i) (by omega)
 obtain ⟨x2,hx2⟩:=QW (l:=s.keys) (k:=i) (by omega)
 obtain ⟨_,⟨rfl,w13⟩,hc2⟩:=RS.get (hs2.mono (Ja hl1 hle)) hx2
 obtain ⟨b6,o3,rfl⟩:=RS.addr (hs4.mono hle) (k:=0) (by (have q_:=JiK ‹_›;omega))
 obtain ⟨x3,hx3⟩:=QW (l:=((WW s).1).heads) (k:=0) (by (have q_:=JiK ‹_›;simp only [WW];omega))
 obtain ⟨_,⟨rfl,w14,w15,w16,w17⟩,hc3⟩:=RS.get (hs4.mono hle) hx3
 refine Ym (σ:=Nat×Ba×Nat×J4) (fun q_=>(J4.le g q_.2.2.2)∧((((Kh x1 x2 x3).1).name).length≤140737488351232)∧(rU (((Kh x1 x2 x3).1).key))∧(rI (((Kh x1 x2 x3).1).head.epoch))∧(rU (((Kh x1 x2 x3).1).head.root))∧(rU (((Kh x1 x2 x3).1).head.prev))∧(rI (((Kh x1 x2 x3).1).head.at_))∧(RS ES q_.2.2.2 q_.2.1 q_.2.2.1 (((Kh x1 x2 x3).1).wanted))∧(rI (((Kh x1 x2 x3).1).had))∧(RS Q4 q_.2.2.2 abt0 cbt0 bt.town.clerk.queue.wait)∧(rI bt.town.clerk.batch)∧(rI bt.town.clerk.every)∧(rI bt.town.clerk.now)∧(RS KG q_.2.2.2 abt1 cbt1 bt.town.clerk.heads)∧(RS Qi q_.2.2.2 abt2 cbt2 bt.town.clerk.books)∧(J0 QG q_.2.2.2 abt3 cbt3 bt.town.owners rbt7)∧(J0 Wp q_.2.2.2 abt4 cbt4 bt.town.polls rbt8)∧(rI bt.town.net.now)∧(RS Kg q_.2.2.2 abt5 cbt5 bt.town.net.way)∧(rI bt.reach)∧(J0 VA q_.2.2.2 abt6 cbt6 bt.fates rbt12)∧(J0 QR q_.2.2.2 abt7 cbt7 bt.events rbt13)) (fun q_=>[(1,Pt b1 0),(4,Pt b2 0),(6,Pt b3 0),(9,Pt q_.1 0),(48,Sl (At b4 o1) s.names.length c1),(49,I (s.names.length:Int)),(50,I (i:Int))]) (fun q_=>q_.2.2.2) (fun q_=>[[Sg q_.1 0 (KT (Kh x1 x2 x3).1 q_.2.1 q_.2.2.1)],rbt13,rbt12,rbt8,rbt7,[Sg b3 0 (J7 bt abt0 cbt0 abt1 cbt1 abt2 cbt2 abt3 cbt3 abt4 cbt4 abt5 cbt5 abt6 cbt6 abt7 cbt7)],[Sg b2 0 (KX (WW s).1 a3 c3 (At b6 o3) c4 a5 c5)],[Sg b1 0 (WH s (At b4 o1) c1 (At b5 o2) c2)]]) ?_ (fun q_ hs=>?_)
 refine Kt [10,14,15] (Wz [(0,Sr x1),(1,Pt b1 1),(2,Sl (At b5 o2) s.keys.length c2),(3,I (i:Int)),(4,Pt b5 (o2+i*1)),(5,U x2),(6,Pt b2 5),(7,Sl (At b6 o3) ((((WW s).1).heads).length) c4),(8,Pt b6 (o3+0*4)),(9,.agg #[I x3.epoch,U x3.root,U x3.prev,I x3.at_])] (JL [] [(0,0),(1,0),(2,14),(3,0),(6,0),(7,12)] [4,5,8,9] [10,14] (Kb ?_ (Kb ?_ (Kb ?_ (Kb ?_ K4)))) (Kb ?_ (Kb ?_ K4))))
 refine Jr 4 71 (Pt b5 (o2+i*1)) [(69,Sl (At b5 o2) s.keys.length c2),(70,I (i:Int))] (fun X=>?_)
 exact JY (b:=b5) (off:=o2) (len:=s.keys.length) (cap:=c2) (ik:=.i64) 71 41 1 i J5 Jn
 refine Jr 5 72 (U x2) [(71,Pt b5 (o2+i*1))] (fun X=>?_)
 exact JR 72 41 (cs:=[U x2]) 0 (U x2) hc2 Jn
 refine Jr 8 75 (Pt b6 (o3+0*4)) [(74,Sl (At b6 o3) ((((WW s).1).heads).length) c4)] (fun X=>?_)
 exact JY (b:=b6) (off:=o3) (len:=(((WW s).1).heads).length) (cap:=c4) (ik:=.i64) 75 43 4 0 (by (have q_:=JiK ‹_›;simp only [WW];omega)) Jn
 refine Jr 9 76 (.agg #[I x3.epoch,U x3.root,U x3.prev,I x3.at_]) [(75,Pt b6 (o3+0*4))] (fun X=>?_)
 exact JR 76 43 (cs:=[I x3.epoch,U x3.root,U x3.prev,I x3.at_]) 0 (.agg #[I x3.epoch,U x3.root,U x3.prev,I x3.at_]) hc3 Jn
 refine JA 10 [(67,Sr x1),(72,U x2),(76,.agg #[I x3.epoch,U x3.root,U x3.prev,I x3.at_])] (fun X=>?_)
 refine JM 77 (JdS g x1 w12 x2 w13 [I x3.epoch,U x3.root,U x3.prev,I x3.at_] x3 (⟨rfl,w14,w15,w16,w17⟩)) (fun v G2 L1 hl2 hp=>?_)
 obtain ⟨a7,c7,rfl,w18,w19,w20,w21,w22,w23,hs7,w24,rfl⟩:=hp
 refine JC [(10,.tuple #[(KF (Kh x1 x2 x3).1 a7 c7),I ((Kh x1 x2 x3).2)]),(11,.tuple #[(KF (Kh x1 x2 x3).1 a7 c7),I ((Kh x1 x2 x3).2)]),(12,(KF (Kh x1 x2 x3).1 a7 c7)),(13,I ((Kh x1 x2 x3).2))] (JL [0,1,2,3,4,5,6,7,8,9] [(11,0),(12,0),(13,0)] [] [14] (Ha _) (Kb ?_ K4))
 refine JA 14 [] (fun X=>?_)
 refine Jv 9 #[Sr ([]),U 0,I 0,U 0,U 0,I 0,Sl none 0 0,I 0] 76 (fun b7=>JC [(14,Pt b7 0)] (JL [0,1,2,3,4,5,6,7,8,9] [(11,0),(12,0),(13,0)] [] [15] (Ha _) (Kb ?_ K4)))
 refine JA 15 [(9,Pt b7 0),(78,(KF (Kh x1 x2 x3).1 a7 c7))] (fun X=>?_)
 exact KI 0 [[Sg b7 0 (KT (Kh x1 x2 x3).1 a7 c7)],rbt13,rbt12,rbt8,rbt7,[Sg b3 0 (J7 bt abt0 cbt0 abt1 cbt1 abt2 cbt2 abt3 cbt3 abt4 cbt4 abt5 cbt5 abt6 cbt6 abt7 cbt7)],[Sg b2 0 (KX (WW s).1 a3 c3 (At b6 o3) c4 a5 c5)],[Sg b1 0 (WH s (At b4 o1) c1 (At b5 o2) c2)]] (J9 [(16,I ((Kh x1 x2 x3).2))] (Kq [0,1,2,3,4,5,6,7,8,9,11,12] [(13,0),(16,0)] [] [(1,Pt b1 0),(4,Pt b2 0),(6,Pt b3 0),(9,Pt b7 0),(48,Sl (At b4 o1) s.names.length c1),(49,I (s.names.length:Int)),(50,I (i:Int))] (Ha _) (Q3 (b7,a7,c7,G2) ⟨hl2,w18,w19,w20,w21,w22,w23,hs7,w24,(hbt1.mono hl2),hbt2,hbt3,hbt4,(hbt5.mono hl2),(hbt6.mono hl2),(hbt7.mono hl2),(hbt8.mono hl2),hbt9,(hbt10.mono hl2),hbt11,(hbt12.mono hl2),(hbt13.mono hl2)⟩)))
 refine JA 14 [] (fun X=>?_)
 refine Jv 9 #[Sr ([]),U 0,I 0,U 0,U 0,I 0,Sl none 0 0,I 0] 76 (fun b8=>JC [(14,Pt b8 0)] (JL [] [(0,0),(1,0),(2,16),(3,0),(6,0),(7,14)] [4,5,8,9] [10] (Kb ?_ (Kb ?_ (Kb ?_ (Kb ?_ K4)))) (Kb ?_ K4)))
 refine Jr 4 71 (Pt b5 (o2+i*1)) [(69,Sl (At b5 o2) s.keys.length c2),(70,I (i:Int))] (fun X=>?_)
 exact JY (b:=b5) (off:=o2) (len:=s.keys.length) (cap:=c2) (ik:=.i64) 71 41 1 i J5 Jn
 refine Jr 5 72 (U x2) [(71,Pt b5 (o2+i*1))] (fun X=>?_)
 exact JR 72 41 (cs:=[U x2]) 0 (U x2) hc2 Jn
 refine Jr 8 75 (Pt b6 (o3+0*4)) [(74,Sl (At b6 o3) ((((WW s).1).heads).length) c4)] (fun X=>?_)
 exact JY (b:=b6) (off:=o3) (len:=(((WW s).1).heads).length) (cap:=c4) (ik:=.i64) 75 43 4 0 (by (have q_:=JiK ‹_›;simp only [WW];omega)) Jn
 refine Jr 9 76 (.agg #[I x3.epoch,U x3.root,U x3.prev,I x3.at_]) [(75,Pt b6 (o3+0*4))] (fun X=>?_)
 exact JR 76 43 (cs:=[I x3.epoch,U x3.root,U x3.prev,I x3.at_]) 0 (.agg #[I x3.epoch,U x3.root,U x3.prev,I x3.at_]) hc3 Jn
 refine JA 10 [(67,Sr x1),(72,U x2),(76,.agg #[I x3.epoch,U x3.root,U x3.prev,I x3.at_])] (fun X=>?_)
 refine JM 77 (JdS g x1 w12 x2 w13 [I x3.epoch,U x3.root,U x3.prev,I x3.at_] x3 (⟨rfl,w14,w15,w16,w17⟩)) (fun v G3 L1 hl3 hp=>?_)
 obtain ⟨a8,c8,rfl,w25,w26,w27,w28,w29,w30,hs8,w31,rfl⟩:=hp
 refine JC [(10,.tuple #[(KF (Kh x1 x2 x3).1 a8 c8),I ((Kh x1 x2 x3).2)]),(11,.tuple #[(KF (Kh x1 x2 x3).1 a8 c8),I ((Kh x1 x2 x3).2)]),(12,(KF (Kh x1 x2 x3).1 a8 c8)),(13,I ((Kh x1 x2 x3).2))] (JL [0,1,2,3,4,5,6,7,8,9] [(11,0),(12,0),(13,0)] [] [15] (Ha _) (Kb ?_ K4))
 refine JA 15 [(9,Pt b8 0),(78,(KF (Kh x1 x2 x3).1 a8 c8))] (fun X=>?_)
 exact KI 0 [[Sg b8 0 (KT (Kh x1 x2 x3).1 a8 c8)],rbt13,rbt12,rbt8,rbt7,[Sg b3 0 (J7 bt abt0 cbt0 abt1 cbt1 abt2 cbt2 abt3 cbt3 abt4 cbt4 abt5 cbt5 abt6 cbt6 abt7 cbt7)],[Sg b2 0 (KX (WW s).1 a3 c3 (At b6 o3) c4 a5 c5)],[Sg b1 0 (WH s (At b4 o1) c1 (At b5 o2) c2)]] (J9 [(16,I ((Kh x1 x2 x3).2))] (Kq [0,1,2,3,4,5,6,7,8,9,11,12] [(13,0),(16,0)] [] [(1,Pt b1 0),(4,Pt b2 0),(6,Pt b3 0),(9,Pt b8 0),(48,Sl (At b4 o1) s.names.length c1),(49,I (s.names.length:Int)),(50,I (i:Int))] (Ha _) (Q3 (b8,a8,c8,G3) ⟨hl3,w25,w26,w27,w28,w29,w30,hs8,w31,(hbt1.mono hl3),hbt2,hbt3,hbt4,(hbt5.mono hl3),(hbt6.mono hl3),(hbt7.mono hl3),(hbt8.mono hl3),hbt9,(hbt10.mono hl3),hbt11,(hbt12.mono hl3),(hbt13.mono hl3)⟩)))
 obtain ⟨b7,a7,c7,G2⟩:=q_
 obtain ⟨hle1,hj1,hj2,hj3,hj4,hj5,hj6,hj7,hj8,hj9,hj10,hj11,hj12,hj13,hj14,hj15,hj16,hj17,hj18,hj19,hj20,hj21⟩:=hs
 dsimp only at hle1 hj1 hj2 hj3 hj4 hj5 hj6 hj7 hj8 hj9 hj10 hj11 hj12 hj13 hj14 hj15 hj16 hj17 hj18 hj19 hj20 hj21
 dsimp only
 refine Kt [7,8,12] (Wz [(0,Pt b3 0),(1,Pt b3 0),(2,Pt b3 0),(3,Pt b3 0),(4,Pt b3 7),(5,Sl abt3 bt.town.owners.length cbt3),(6,(KF (Kh x1 x2 x3).1 a7 c7))] (JL [] [(0,0),(1,0),(2,0),(3,0),(4,0),(5,12),(6,2)] [] [7] (Ha _) (Kb ?_ K4)))
 refine JA 7 [(86,(KF (Kh x1 x2 x3).1 a7 c7))] (fun X=>?_)
 refine Ki 87 1 #[Sr (((Kh x1 x2 x3).1).name),U (((Kh x1 x2 x3).1).key),I (((Kh x1 x2 x3).1).head.epoch),U (((Kh x1 x2 x3).1).head.root),U (((Kh x1 x2 x3).1).head.prev),I (((Kh x1 x2 x3).1).head.at_),Sl a7 ((((Kh x1 x2 x3).1).wanted).length) c7,I (((Kh x1 x2 x3).1).had)] 76 (fun b9=>JC [(7,Sl (At b9 0) 1 1)] (JL [6] [(0,0),(1,0),(2,0),(3,0),(4,0),(5,14)] [] [8] (Ha _) (Kb ?_ K4)))
 refine JA 8 [(85,Sl abt3 bt.town.owners.length cbt3),(87,Sl (At b9 0) 1 1)] (fun X=>?_)
 refine Qr (b:=b9) (cs:=(KT (Kh x1 x2 x3).1 a7 c7)) 88 76 5 0 (E:=QG) ((Kh x1 x2 x3).1) hj15 ⟨a7,c7,rfl,hj1,hj2,hj3,hj4,hj5,hj6,hj7,hj8⟩ (by (try simp only [QG,Hd,Hc,Hg]);(have q_:=Jdl hB);omega) (by (try simp only [QG,Hd,Hc,Hg]);(have q_:=Jdl hB);omega) (fun a9 c9 r1 hr1=>JC [(8,Sl a9 ((bt.town.owners++[((Kh x1 x2 x3).1)]).length) c9),(9,Pt b3 0),(10,Pt b3 0),(11,Pt b3 7)] (JL [1,2,3,4,5,6] [(0,0),(9,0),(10,0),(11,0)] [] [12] (Ha _) (Kb ?_ K4)))
 refine JA 12 [(88,Sl a9 ((bt.town.owners++[((Kh x1 x2 x3).1)]).length) c9),(91,Pt b3 7)] (fun X=>?_)
 refine KI 6 [[Sg b9 0 (KT (Kh x1 x2 x3).1 a7 c7)],[Sg b7 0 (KT (Kh x1 x2 x3).1 a7 c7)],rbt13,rbt12,rbt8,r1,[Sg b3 0 (J7 (⟨(⟨bt.town.clerk,(bt.town.owners++[((Kh x1 x2 x3).1)]),bt.town.polls,bt.town.net⟩:Wb),bt.reach,bt.fates,bt.events⟩:JK) abt0 cbt0 abt1 cbt1 abt2 cbt2 a9 c9 abt4 cbt4 abt5 cbt5 abt6 cbt6 abt7 cbt7)],[Sg b2 0 (KX (WW s).1 a3 c3 (At b6 o3) c4 a5 c5)],[Sg b1 0 (WH s (At b4 o1) c1 (At b5 o2) c2)]] (J9 [] (Kq [0,1,2,3,4,5,6,9,10,11] [] [] [(1,Pt b1 0),(4,Pt b2 0),(6,Pt b3 0),(48,Sl (At b4 o1) s.names.length c1),(49,I (s.names.length:Int)),(50,I (i:Int))] (Ha _) (JN (Jc (Jd (Jb [0,0] [(50,I (Hh.wrap ((i:Int)+1)))] (Kp 50 ((i:Int)+1) J5 (Je (Jk 8 (Jk 8 (Jk 8 (Jk 8 ?_))))))))))))
 refine Jk 8 (Jk 8 (Jk 8 ?_))
 exact QA [rbt13,rbt12,rbt8,r1,[Sg b3 0 (J7 (⟨(⟨bt.town.clerk,(bt.town.owners++[((Kh x1 x2 x3).1)]),bt.town.polls,bt.town.net⟩:Wb),bt.reach,bt.fates,bt.events⟩:JK) abt0 cbt0 abt1 cbt1 abt2 cbt2 a9 c9 abt4 cbt4 abt5 cbt5 abt6 cbt6 abt7 cbt7)],[Sg b2 0 (KX (WW s).1 a3 c3 (At b6 o3) c4 a5 c5)],[Sg b1 0 (WH s (At b4 o1) c1 (At b5 o2) c2)]] (Qf (i+1,(⟨(⟨bt.town.clerk,bt.town.owners++[((Kh x1 x2 x3).1)],bt.town.polls,bt.town.net⟩:Wb),bt.reach,bt.fates,bt.events⟩:JK),abt0,cbt0,abt1,cbt1,abt2,cbt2,a9,c9,r1,abt4,cbt4,rbt8,abt5,cbt5,abt6,cbt6,rbt12,abt7,cbt7,rbt13,G2) ⟨(Ja hle hle1),J5,hj9,hj13,hj14,hr1,hj16,hj18,hj20,hj21,‹_›,‹_›,‹_›,‹_›,‹_›,‹_›,(by (try dsimp only);exact Jj0 hB ‹_› ‹_› ‹_›),(by (try dsimp only);exact JpM hN ‹_› ‹_› ‹_›)⟩ (by (try dsimp only);omega))
 refine KW (J1 (J8 (JT (Jc (Jf (Jd (Jb [0,14,0,14,0,14] [(95,I s.least),(97,I s.top),(99,I s.lost)] (Jl 100 (.tuple #[(Ve (Zc s).1),I ((Zc s).2)]) (JjP g s.least w4 s.top w5 s.lost w6) (Jb [0,0,0] [(101,(Ve (Zc s).1)),(102,I ((Zc s).2))] (Jv 11 #[I 0,I 0,I 0,I 0,I 0,I 0] 143 (fun b10=>JX [3,0] [(5,I ((Zc s).2))] [[Sg b10 0 (Y8 (Zc s).1)],rbt13,rbt12,rbt8,rbt7,[Sg b3 0 (J7 bt abt0 cbt0 abt1 cbt1 abt2 cbt2 abt3 cbt3 abt4 cbt4 abt5 cbt5 abt6 cbt6 abt7 cbt7)],[Sg b2 0 (KX (WW s).1 a3 c3 a4 c4 a5 c5)],[Sg b1 0 (WH s a1 c1 a2 c2)]] (Je (Jc (Jf (Jx (Jg [0,0,0] [(103,Bo (!decide ((Zc s).2=0)))] (Jm (!decide ((Zc s).2=0)) (fun h7=>?_) (fun h7=>?_))))))))))))))))))
 refine Jg [0,0,0] [(2,.pointer none),(3,I ((Zc s).2))] (Jo (Ju (Jj ?_)))
 have hf6:Qm s=(Zc s).2∧¬ ((Zc s).2)=0:=by
  exact Jj3 ‹_› J5 J5 (Jgz hN J5) ‹_›
 refine Jp [0,0] [.pointer none,I ((Zc s).2)] (JB [] (Ja hl1 hle) ?_)
 rw [← hf6.1];exact .inl ⟨by rw [hf6.1];exact hf6.2,rfl,rfl⟩
 refine Jf (Jd (Jb [0,16,0,0] [(111,Bo (decide (s.reach<1)))] (Kk (decide (s.reach<1)) [111] [1,1,1,0] [0,16,0,0] (fun bb=>[(115,Bo (bb || (decide (s.reach > 40))))]) (Jb [0] [(107,Bo ((decide (s.reach<1)) || (decide (s.reach > 40))))] (Je (Jc (Jm ((decide (s.reach<1)) || (decide (s.reach > 40))) (fun h8=>?_) (fun h8=>?_))))))))
 refine Jg [0,0] [(2,.pointer none),(3,I 4)] (Jo (Ju (Jj ?_)))
 have hf7:Qm s=4∧¬ (4:Int)=0:=by
  exact JiJ ‹_› J5 J5 (Jgz hN J5) ‹_› (by omega)
 refine Jp [0,0] [.pointer none,I 4] (JB [] (Ja hl1 hle) ?_)
 rw [← hf7.1];exact .inl ⟨by rw [hf7.1];exact hf7.2,rfl,rfl⟩
 refine Jq (JN (Jc (Jf (Kt [2,9,13] (Wz [(0,Pt b3 0),(1,(Ve (Zc s).1)),(3,Pt b3 0),(4,Pt b3 0),(5,Pt b3 0),(6,Pt b3 7),(7,Sl abt3 bt.town.owners.length cbt3),(8,I (bt.town.owners.length:Int))] (JL [] [(0,0),(1,2),(3,0),(4,0),(5,0),(6,0),(7,12),(8,0)] [] [2] (Ha _) (Kb ?_ K4)))))))
 refine JA 2 [(117,(Ve (Zc s).1))] (fun X=>?_)
 refine Ki 118 1 #[I (((Zc s).1).least),I (((Zc s).1).most),I (((Zc s).1).lost),I (((Zc s).1).gap),I (((Zc s).1).next),I (((Zc s).1).asked)] 143 (fun b11=>JC [(2,Sl (At b11 0) 1 1)] (JL [1] [(0,0),(3,0),(4,0),(5,0),(6,0),(7,14),(8,0)] [] [9] (Ha _) (Kb ?_ K4)))
 refine JA 9 [(118,Sl (At b11 0) 1 1),(124,I (bt.town.owners.length:Int))] (fun X=>?_)
 refine Qu (b:=b11) (o:=0) (cs:=(Y8 (Zc s).1)) 0 (fun G4 hl4 hz1=>?_)
 have hs9:RS Wp G4 (At b11 0) 1 [((Zc s).1)]:=RS.lit [(Y8 (Zc s).1)] [((Zc s).1)] ⟨⟨rfl,(JhM _ _ _).least,(JhM _ _ _).most,(JhM _ _ _).lost,(JhM _ _ _).gap,(JhM _ _ _).next,(JhM _ _ _).asked⟩,trivial⟩ hz1 (Hf rfl) (Hf rfl)
 refine JM 125 (JjZ G4 (At b11 0) 1 ((Zc s).1) hs9 bt.town.owners.length (by (have q_:=Jdl hB;omega))) (fun v G5 L1 hl5 hp=>?_)
 obtain ⟨a10,c10,r2,rfl,hr2,rfl⟩:=hp
 refine JC [(9,Sl a10 ((Hb bt.town.owners.length ((Zc s).1)).length) c10),(10,Pt b3 0),(11,Pt b3 0),(12,Pt b3 8)] (JL [1,3,4,5,6,7,8] [(0,0),(10,0),(11,0),(12,0)] [] [13] (Ha _) (Kb ?_ K4))
 refine JA 13 [(125,Sl a10 ((Hb bt.town.owners.length ((Zc s).1)).length) c10),(128,Pt b3 8)] (fun X=>?_)
 refine KI 7 [r2,[],[Sg b10 0 (Y8 (Zc s).1)],rbt13,rbt12,rbt8,rbt7,[Sg b3 0 (J7 (⟨(⟨bt.town.clerk,bt.town.owners,(Hb bt.town.owners.length ((Zc s).1)),bt.town.net⟩:Wb),bt.reach,bt.fates,bt.events⟩:JK) abt0 cbt0 abt1 cbt1 abt2 cbt2 abt3 cbt3 a10 c10 abt5 cbt5 abt6 cbt6 abt7 cbt7)],[Sg b2 0 (KX (WW s).1 a3 c3 a4 c4 a5 c5)],[Sg b1 0 (WH s a1 c1 a2 c2)]] (J9 [] (Kq [0,1,3,4,5,6,7,8,10,11,12] [] [] [(6,Pt b3 0)] (Ha _) (Jc (Jg [0,0,0] [(2,Pt b3 0),(3,I 0)] (Jo (Jk 3 (Jk 4 (Jk 2 (Jk 6 (Jk 7 ?_))))))))))
 have hok:=JnM ‹_› (by omega) (by omega) (Jgz hN (by omega)) ‹_› (by omega)
 have hbt:=JnN hB (by omega)
 refine Jp [0,0] [Pt b3 0,I 0] (JB [[Sg b3 0 (J7 (⟨(⟨bt.town.clerk,bt.town.owners,(Hb bt.town.owners.length ((Zc s).1)),bt.town.net⟩:Wb),bt.reach,bt.fates,bt.events⟩:JK) abt0 cbt0 abt1 cbt1 abt2 cbt2 abt3 cbt3 a10 c10 abt5 cbt5 abt6 cbt6 abt7 cbt7)],rbt7,r2,rbt12,rbt13] (Ja (Ja (Ja hl1 hle) hl4) hl5) ?_)
 rw [hbt];refine .inr ⟨hok,?_⟩;try dsimp only
 exact ⟨b3,abt0,cbt0,abt1,cbt1,abt2,cbt2,abt3,cbt3,a10,c10,abt5,cbt5,abt6,cbt6,abt7,cbt7,rbt7,r2,rbt12,rbt13,rfl,hbt0,(hbt1.mono (Ja hl4 hl5)),hbt2,hbt3,hbt4,(hbt5.mono (Ja hl4 hl5)),(hbt6.mono (Ja hl4 hl5)),(hbt7.mono (Ja hl4 hl5)),hr2,hbt9,(hbt10.mono (Ja hl4 hl5)),hbt11,(hbt12.mono (Ja hl4 hl5)),(hbt13.mono (Ja hl4 hl5)),rfl⟩
structure Ext (c d:KL):Prop where
 ok:Za c
 ok2:Za d
 heads:∃ m,d.heads=c.heads++m
 books:∃ m,d.books=c.books++m
theorem Ext.trans {c d e:KL} (h:Ext c d) (h2:Ext d e):Ext c e:=by
 obtain ⟨m,e1⟩:=h.heads;obtain ⟨n,e2⟩:=h2.heads
 obtain ⟨p,e3⟩:=h.books;obtain ⟨q,e4⟩:=h2.books
 exact ⟨h.ok,h2.ok2,⟨m++n,by rw [e2,e1,List.append_assoc]⟩,⟨p++q,by rw [e4,e3,List.append_assoc]⟩⟩
structure Fwd (t u:JK):Prop where
 ext:Ext t.town.clerk u.town.clerk
 own:∀ (i:Nat) o,u.town.owners[i]? = some o→∃ p,t.town.owners[i]? = some p∧p.name=o.name∧p.head.epoch≤o.head.epoch
theorem Fwd.trans {t u v:JK} (h:Fwd t u) (h2:Fwd u v):Fwd t v:=by
 refine ⟨h.ext.trans h2.ext,fun i o ho=>?_⟩
 obtain ⟨p,hp,e1,l1⟩:=h2.own i o ho
 obtain ⟨q,hq,e2,l2⟩:=h.own i p hp
 exact ⟨q,hq,e2.trans e1,by omega⟩
theorem JqT {s:Ky} (h:Qm s=0):VU (K0 s):=by
 obtain ⟨b1,b2,b3,b4⟩:=Ja5 h
 obtain ⟨e1,e2,e3,e4,e5,e6,e7⟩:=V2 h
 exact ⟨⟨s,b1⟩,b2,by rw [b3,b4],by rw [b3];exact e1,e6,e7⟩
theorem f_do (t:JK) (d:KV):(YB t d).fates.length≤t.fates.length+1:=by
 have hs:∀ (t:JK) l,(Wt t l).fates.length≤t.fates.length:=fun t l=>by simp [Wt]
 have hl:∀ (l:List JQ) (t:JK),(Zh t l).fates.length≤t.fates.length:=by
  intro l
  induction l with
  | nil=>intro t;exact Hr _
  | cons x l ih =>
   intro t
   refine Ho (ih (ZH t x)) ?_
   unfold ZH
   split
   ·
    unfold Ql
    split
    · exact Hr _
    · exact hs _ _
   · exact Hr _
 have ha:∀ n (t:JK),(Jbs t n).fates.length≤t.fates.length:=by
  intro n t
  induction n with
  | zero=>exact Hr _
  | succ n ih =>
   rw [← Vt]
   refine Ho ?_ ih
   have hq:∀ u k,(Ja3 u k).fates.length≤u.fates.length:=fun u k=>by unfold Ja3;exact hs _ _
   unfold Zv
   split
   · exact Hr _
   split
   · exact hq _ _
   · exact hq _ _
 have ht:(WA t).fates.length≤t.fates.length:=by
  unfold WA
  split
  · exact Hr _
  · exact Ho (ha _ _) (hl _ _)
 unfold YB
 split
 · unfold Wq;(repeat' split) <;> simp
 split
 · simp
 split
 · unfold Jgs;split <;> simp
 split
 · omega
 · omega
theorem JbY {s:Ky} (h:Qm s=0) {jt:JK} {l:List KV} {i:Nat} (hJ:jt=Jav (K0 s) (l.take i)):VU jt∧jt.events.length≤64*i∧jt.fates.length≤i:=by
 subst hJ
 have key:∀ (m:List KV) (t:JK),VU t→VU (Jav t m)∧(Jav t m).events.length≤t.events.length+64*m.length∧(Jav t m).fates.length≤t.fates.length+m.length:=by
  intro m
  induction m with
  | nil=>intro t h;exact ⟨h,by simp [Jav],by simp [Jav]⟩
  | cons d m ih =>
   intro t h
   obtain ⟨q1,q2⟩:=do_H h d
   obtain ⟨r1,r2,r3⟩:=ih (YB t d) q1
   have:=f_do t d
   refine ⟨r1,?_,?_⟩
   · show (Jav (YB t d) m).events.length≤_;simp only [Hc];omega
   · show (Jav (YB t d) m).fates.length≤_;simp only [Hc];omega
 obtain ⟨k1,k2,k3⟩:=key (l.take i) (K0 s) (JqT h)
 have e1:(K0 s).events.length=0:=rfl
 have e2:(K0 s).fates.length=0:=rfl
 have e3:(l.take i).length≤i:=by rw [Hk];omega
 exact ⟨k1,by omega,by omega⟩
theorem Jfg {s:Ky} {l:List KV} (h:¬ Qm s=0):Js s l=(Jmq,[],Qm s):=by
 have e:Ja4 s l=Qm s:=by unfold Ja4;rw [if_pos h]
 unfold Js;rw [e,if_pos h]
theorem JgA {s:Ky} {l:List KV} (h:Qm s=0) (hl:l.length > 200):Js s l=(Jmq,[],2):=by
 have e:Ja4 s l=2:=by unfold Ja4;rw [if_neg (by omega),if_pos hl]
 unfold Js;rw [e,if_pos (by decide)]
theorem Jj4 {s:Ky} {l:List KV} {jt:JK} {i:Nat} (h:Qm s=0) (hl:¬ l.length > 200) (hJ:jt=Jav (K0 s) (l.take i)) (hi:l.length≤i):Js s l=(⟨jt.town.clerk,jt.town.owners,jt.town.polls,jt.town.net⟩,jt.events,0):=by
 rw [Hl hi] at hJ
 subst hJ
 have e:Ja4 s l=0:=by unfold Ja4;rw [if_neg (by omega),if_neg hl]
 unfold Js;rw [e,if_neg (by decide)]
set_option maxHeartbeats 1600000 in
theorem JnO (G:J4) (vs_s:Bv) (s:Ky) (h_s:Jic.R G vs_s s) (a_l:Ba) (c_l:Nat) (l:List KV) (h_l:RS Wr G a_l c_l l) :YL 20 #[.agg vs_s.toArray,Sl a_l l.length c_l] G [] (fun u G' L'=>∃ (a1:Ba) (c2:Nat) (a3:Ba) (c4:Nat) (a5:Ba) (c6:Nat) (a7:Ba) (c8:Nat) (a9:Ba) (c10:Nat) (a11:Ba) (c12:Nat) (a13:Ba) (c14:Nat),u=.tuple #[.agg #[I (((Js s l).1).clerk.queue.most),Sl a1 ((((Js s l).1).clerk.queue.wait).length) c2,I (((Js s l).1).clerk.batch),I (((Js s l).1).clerk.every),I (((Js s l).1).clerk.now),Sl a3 ((((Js s l).1).clerk.heads).length) c4,Sl a5 ((((Js s l).1).clerk.books).length) c6,Sl a7 ((((Js s l).1).owners).length) c8,Sl a9 ((((Js s l).1).polls).length) c10,I (((Js s l).1).net.now),Sl a11 ((((Js s l).1).net.way).length) c12],Sl a13 (((Js s l).2.1).length) c14,I ((Js s l).2.2)]∧(rI (((Js s l).1).clerk.queue.most))∧(RS Q4 G' a1 c2 (((Js s l).1).clerk.queue.wait))∧(rI (((Js s l).1).clerk.batch))∧(rI (((Js s l).1).clerk.every))∧(rI (((Js s l).1).clerk.now))∧(RS KG G' a3 c4 (((Js s l).1).clerk.heads))∧(RS Qi G' a5 c6 (((Js s l).1).clerk.books))∧(RS QG G' a7 c8 (((Js s l).1).owners))∧(RS Wp G' a9 c10 (((Js s l).1).polls))∧(rI (((Js s l).1).net.now))∧(RS Kg G' a11 c12 (((Js s l).1).net.way))∧(RS QR G' a13 c14 ((Js s l).2.1))∧L'=[]):=by
 obtain ⟨a1,c1,a2,c2,rfl,hs1,hs2,w1,w2,w3,w4,w5,w6,w7⟩:=h_s
 refine JS Tryz.func20 45 [(0,(Va s a1 c1 a2 c2)),(1,Sl a_l l.length c_l)] rfl (fun w0 G0=>?_)
 refine Jf (Jd (Jv 2 #[Sl a1 s.names.length c1,Sl a2 s.keys.length c2,I s.most,I s.batch,I s.every,I s.least,I s.top,I s.lost,I s.reach] 72 (fun b1=>Jv 4 #[I 0,Sl none 0 0,I 0,I 0,I 0,Sl none 0 0,Sl none 0 0,Sl none 0 0,Sl none 0 0,I 0,Sl none 0 0] 67 (fun b2=>Jb [0,0] [] (Je (Jc (Jf (Jd (Jb [4] [(12,(Va s a1 c1 a2 c2))] (JM 13 (JhN G (WH s a1 c1 a2 c2) s (⟨a1,c1,a2,c2,rfl,hs1,hs2,w1,w2,w3,w4,w5,w6,w7⟩)) (fun v G1 L1 hl1 hp=>?_)))))))))))
 rcases hp with ⟨hbe,rfl,rfl⟩ | ⟨hbe,b3,a3,c3,a4,c4,a5,c5,a6,c6,a7,c7,a8,c8,a9,c9,a10,c10,r1,r2,r3,r4,rfl,w8,hs3,w9,w10,w11,hs4,hs5,hr1,hr2,w12,hs6,w13,hr3,hr4,rfl⟩
 refine Jb [0,0,0,0,0] [(7,.pointer none),(8,I (Qm s))] (Je (Jc (Jf (Jf (Jd (Jb [0,0,0] [(18,Bo (decide (Qm s=0)))] (Kk (decide (Qm s=0)) [18] [0,0,0,0] [1,1,1,0] (fun bb=>[(22,Bo (bb && (decide ((l.length:Int) > 200))))]) (Je (Jc (Jm ((decide (Qm s=0)) && (decide ((l.length:Int) > 200))) (fun h1=>?_) (fun h1=>?_)))))))))))
 refine Jd (Jb [0] [(8,I 2)] (Je (Jc (Jf (Jg [0,0] [(24,Bo true)] (JZ (Jg [0,0,3,0,0] [(5,Sl none 0 0),(6,I 2)] (Jo (Jj ?_)))))))))
 have hf1:Js s l=((⟨(⟨(⟨0,[]⟩:QY),0,0,0,[],[]⟩:KL),[],[],(⟨0,[]⟩:YM)⟩:Wb),[],2):=by
  (exfalso;omega)
 refine Jp [0,0,0] [.agg #[I 0,Sl none 0 0,I 0,I 0,I 0,Sl none 0 0,Sl none 0 0,Sl none 0 0,Sl none 0 0,I 0,Sl none 0 0],Sl none 0 0,I 2] (JB [] hl1 ?_)
 rw [hf1]
 try dsimp only
 exact ⟨none,0,none,0,none,0,none,0,none,0,none,0,none,0,rfl,J5,(JP Q4 G1),J5,J5,J5,(JP KG G1),(JP Qi G1),(JP QG G1),(JP Wp G1),J5,(JP Kg G1),(JP QR G1),rfl⟩
 refine Jq (Jc (Jf (Jg [0,0] [(24,Bo (!decide (Qm s=0)))] (Jm (!decide (Qm s=0)) (fun h2=>?_) (fun h2=>?_)))))
 refine Jg [0,0,3,0,0] [(5,Sl none 0 0),(6,I (Qm s))] (Jo (Jj ?_))
 have hf2:Js s l=((⟨(⟨(⟨0,[]⟩:QY),0,0,0,[],[]⟩:KL),[],[],(⟨0,[]⟩:YM)⟩:Wb),[],Qm s):=by
  (rw [Jfg ‹_›];rfl)
 refine Jp [0,0,0] [.agg #[I 0,Sl none 0 0,I 0,I 0,I 0,Sl none 0 0,Sl none 0 0,Sl none 0 0,Sl none 0 0,I 0,Sl none 0 0],Sl none 0 0,I (Qm s)] (JB [] hl1 ?_)
 rw [hf2]
 try dsimp only
 exact ⟨none,0,none,0,none,0,none,0,none,0,none,0,none,0,rfl,J5,(JP Q4 G1),J5,J5,J5,(JP KG G1),(JP Qi G1),(JP QG G1),(JP Wp G1),J5,(JP Kg G1),(JP QR G1),rfl⟩
 refine Jq (Jc (Jf ?_))
 exfalso;omega
 refine Jb [0,0,0,0,0] [(7,Pt b3 0),(8,I 0)] (Je (Jc (Jf (Jg [0,0,0,0,0,0,0] [(22,Bo (decide ((l.length:Int) > 200)))] (Jm (decide ((l.length:Int) > 200)) (fun h3=>?_) (fun h3=>?_))))))
 refine Jd (Jb [0] [(8,I 2)] (Je (Jc (Jf (Jg [0,0] [(24,Bo true)] (JZ (Jg [0,0,13,0,0] [(5,Sl none 0 0),(6,I 2)] (Jo (Jj ?_)))))))))
 have hf3:Js s l=((⟨(⟨(⟨0,[]⟩:QY),0,0,0,[],[]⟩:KL),[],[],(⟨0,[]⟩:YM)⟩:Wb),[],2):=by
  (rw [JgA ‹_› (by omega)];rfl)
 refine Jp [5,0,0] [.agg #[I 0,Sl none 0 0,I 0,I 0,I 0,Sl none 0 0,Sl none 0 0,Sl none 0 0,Sl none 0 0,I 0,Sl none 0 0],Sl none 0 0,I 2] (JB [] hl1 ?_)
 rw [hf3]
 try dsimp only
 exact ⟨none,0,none,0,none,0,none,0,none,0,none,0,none,0,rfl,‹_›,(JP Q4 G1),‹_›,‹_›,‹_›,(JP KG G1),(JP Qi G1),(JP QG G1),(JP Wp G1),‹_›,(JP Kg G1),(JP QR G1),rfl⟩
 refine Jq (Jc (Jf (Jg [0,0] [(24,Bo false)] (Qt (Jq (Jc (Jf (Jg [0,0,0] [(27,Sl a_l l.length c_l),(28,I (l.length:Int)),(29,I 0)] (Jx ?_)))))))))
 have hlm_h_l:l.length≤9223372036854775807:=Ho (h_l).le (h_l).max
 refine Qb (σ:=Nat×JK×Ba×Nat×Ba×Nat×Ba×Nat×Ba×Nat×Bg×Ba×Nat×Bg×Ba×Nat×Ba×Nat×Bg×Ba×Nat×Bg×J4) (fun q_=>(J4.le G1 q_.2.2.2.2.2.2.2.2.2.2.2.2.2.2.2.2.2.2.2.2.2.2)∧(q_.1≤l.length)∧(RS Q4 q_.2.2.2.2.2.2.2.2.2.2.2.2.2.2.2.2.2.2.2.2.2.2 q_.2.2.1 q_.2.2.2.1 q_.2.1.town.clerk.queue.wait)∧(RS KG q_.2.2.2.2.2.2.2.2.2.2.2.2.2.2.2.2.2.2.2.2.2.2 q_.2.2.2.2.1 q_.2.2.2.2.2.1 q_.2.1.town.clerk.heads)∧(RS Qi q_.2.2.2.2.2.2.2.2.2.2.2.2.2.2.2.2.2.2.2.2.2.2 q_.2.2.2.2.2.2.1 q_.2.2.2.2.2.2.2.1 q_.2.1.town.clerk.books)∧(J0 QG q_.2.2.2.2.2.2.2.2.2.2.2.2.2.2.2.2.2.2.2.2.2.2 q_.2.2.2.2.2.2.2.2.1 q_.2.2.2.2.2.2.2.2.2.1 q_.2.1.town.owners q_.2.2.2.2.2.2.2.2.2.2.1)∧(J0 Wp q_.2.2.2.2.2.2.2.2.2.2.2.2.2.2.2.2.2.2.2.2.2.2 q_.2.2.2.2.2.2.2.2.2.2.2.1 q_.2.2.2.2.2.2.2.2.2.2.2.2.1 q_.2.1.town.polls q_.2.2.2.2.2.2.2.2.2.2.2.2.2.1)∧(RS Kg q_.2.2.2.2.2.2.2.2.2.2.2.2.2.2.2.2.2.2.2.2.2.2 q_.2.2.2.2.2.2.2.2.2.2.2.2.2.2.1 q_.2.2.2.2.2.2.2.2.2.2.2.2.2.2.2.1 q_.2.1.town.net.way)∧(J0 VA q_.2.2.2.2.2.2.2.2.2.2.2.2.2.2.2.2.2.2.2.2.2.2 q_.2.2.2.2.2.2.2.2.2.2.2.2.2.2.2.2.1 q_.2.2.2.2.2.2.2.2.2.2.2.2.2.2.2.2.2.1 q_.2.1.fates q_.2.2.2.2.2.2.2.2.2.2.2.2.2.2.2.2.2.2.1)∧(J0 QR q_.2.2.2.2.2.2.2.2.2.2.2.2.2.2.2.2.2.2.2.2.2.2 q_.2.2.2.2.2.2.2.2.2.2.2.2.2.2.2.2.2.2.2.1 q_.2.2.2.2.2.2.2.2.2.2.2.2.2.2.2.2.2.2.2.2.1 q_.2.1.events q_.2.2.2.2.2.2.2.2.2.2.2.2.2.2.2.2.2.2.2.2.2.1)∧(rI q_.2.1.town.clerk.queue.most)∧(rI q_.2.1.town.clerk.batch)∧(rI q_.2.1.town.clerk.every)∧(rI q_.2.1.town.clerk.now)∧(rI q_.2.1.town.net.now)∧(rI q_.2.1.reach)∧(q_.2.1=Jav (K0 s) (l.take q_.1))) (fun q_=>[(4,Pt b2 0),(7,Pt b3 0),(27,Sl a_l l.length c_l),(28,I (l.length:Int)),(29,I (q_.1:Int))]) (fun q_=>q_.2.2.2.2.2.2.2.2.2.2.2.2.2.2.2.2.2.2.2.2.2.2) (fun q_=>[[Sg b3 0 (J7 q_.2.1 q_.2.2.1 q_.2.2.2.1 q_.2.2.2.2.1 q_.2.2.2.2.2.1 q_.2.2.2.2.2.2.1 q_.2.2.2.2.2.2.2.1 q_.2.2.2.2.2.2.2.2.1 q_.2.2.2.2.2.2.2.2.2.1 q_.2.2.2.2.2.2.2.2.2.2.2.1 q_.2.2.2.2.2.2.2.2.2.2.2.2.1 q_.2.2.2.2.2.2.2.2.2.2.2.2.2.2.1 q_.2.2.2.2.2.2.2.2.2.2.2.2.2.2.2.1 q_.2.2.2.2.2.2.2.2.2.2.2.2.2.2.2.2.1 q_.2.2.2.2.2.2.2.2.2.2.2.2.2.2.2.2.2.1 q_.2.2.2.2.2.2.2.2.2.2.2.2.2.2.2.2.2.2.2.1 q_.2.2.2.2.2.2.2.2.2.2.2.2.2.2.2.2.2.2.2.2.1)],q_.2.2.2.2.2.2.2.2.2.2.1,q_.2.2.2.2.2.2.2.2.2.2.2.2.2.1,q_.2.2.2.2.2.2.2.2.2.2.2.2.2.2.2.2.2.2.1,q_.2.2.2.2.2.2.2.2.2.2.2.2.2.2.2.2.2.2.2.2.2.1,[Sg b2 0 [I 0,Sl none 0 0,I 0,I 0,I 0,Sl none 0 0,Sl none 0 0,Sl none 0 0,Sl none 0 0,I 0,Sl none 0 0]],[Sg b1 0 (WH s a1 c1 a2 c2)]]) (fun q_=>l.length-q_.1) (0,(K0 s),a3,c3,a4,c4,a5,c5,a6,c6,r1,a7,c7,r2,a8,c8,a9,c9,r3,a10,c10,r4,G1) ⟨(Jh _),(by (try dsimp only);exact Hq _),hs3,hs4,hs5,hr1,hr2,hs6,hr3,hr4,w8,w9,w10,w11,w12,w13,(by (try dsimp only);rfl)⟩ (fun q_ hs=>?_)
 obtain ⟨i,jt,ajt0,cjt0,ajt1,cjt1,ajt2,cjt2,ajt3,cjt3,rjt7,ajt4,cjt4,rjt8,ajt5,cjt5,ajt6,cjt6,rjt12,ajt7,cjt7,rjt13,g⟩:=q_
 obtain ⟨hle,hi,hjt1,hjt5,hjt6,hjt7,hjt8,hjt10,hjt12,hjt13,hjt0,hjt2,hjt3,hjt4,hjt9,hjt11,hJ⟩:=hs
 dsimp only at hle hi hjt1 hjt5 hjt6 hjt7 hjt8 hjt10 hjt12 hjt13 hjt0 hjt2 hjt3 hjt4 hjt9 hjt11 hJ
 dsimp only
 refine Jg [0] [(30,Bo (decide ((i:Int)<(l.length:Int))))] (Jf (Jm (decide ((i:Int)<(l.length:Int))) (fun h4=>?_) (fun h4=>?_)))
 refine Jq (Jc (Jf (Jx (Jf (Jd ?_)))))
 obtain ⟨b4,o1,rfl⟩:=RS.addr (h_l.mono (Ja hl1 hle)) (k:=i) (by omega)
 obtain ⟨x1,hx1⟩:=QW (l:=l) (k:=i) (by omega)
 obtain ⟨_,⟨a11,c11,a12,c12,a13,c13,a14,c14,rfl,w14,w15,w16,hs7,w17,w18,w19,w20,hs8,w21,w22,w23,w24,w25,hs9,hs10⟩,hc1⟩:=RS.get (h_l.mono (Ja hl1 hle)) hx1
 refine JY (b:=b4) (off:=o1) (len:=l.length) (cap:=c_l) (ik:=.i64) 31 53 16 i J5 (JR 32 53 (cs:=(WY x1 a11 c11 a12 c12 a13 c13 a14 c14)) 0 (JdC x1 a11 c11 a12 c12 a13 c13 a14 c14) hc1 (Jv 10 #[I 0,I 0,Sr ([]),Sl none 0 0,I 0,I 0,I 0,I 0,Sl none 0 0,I 0,U 0,U 0,I 0,Sr ([]),Sl none 0 0,Sl none 0 0] 53 (fun b5=>JX [3] [] [[Sg b5 0 (WY x1 a11 c11 a12 c12 a13 c13 a14 c14)],[Sg b3 0 (J7 jt ajt0 cjt0 ajt1 cjt1 ajt2 cjt2 ajt3 cjt3 ajt4 cjt4 ajt5 cjt5 ajt6 cjt6 ajt7 cjt7)],rjt7,rjt8,rjt12,rjt13,[Sg b2 0 [I 0,Sl none 0 0,I 0,I 0,I 0,Sl none 0 0,Sl none 0 0,Sl none 0 0,Sl none 0 0,I 0,Sl none 0 0]],[Sg b1 0 (WH s a1 c1 a2 c2)]] (Je (Jc (Jd (Jb [0,2] [(33,Pt b3 0),(34,(JdC x1 a11 c11 a12 c12 a13 c13 a14 c14))] (Jw 5 (Jw 5 (Jw 5 (Jw 5 (Jw 5 (Qq (Ls:=[[Sg b3 0 (J7 jt ajt0 cjt0 ajt1 cjt1 ajt2 cjt2 ajt3 cjt3 ajt4 cjt4 ajt5 cjt5 ajt6 cjt6 ajt7 cjt7)],rjt7,rjt8,rjt12,rjt13]) (Lr:=[[Sg b5 0 (WY x1 a11 c11 a12 c12 a13 c13 a14 c14)],[Sg b2 0 [I 0,Sl none 0 0,I 0,I 0,I 0,Sl none 0 0,Sl none 0 0,Sl none 0 0,Sl none 0 0,I 0,Sl none 0 0]],[Sg b1 0 (WH s a1 c1 a2 c2)]]) 35 (Jmu g b3 jt ajt0 cjt0 ajt1 cjt1 ajt2 cjt2 ajt3 cjt3 ajt4 cjt4 ajt5 cjt5 ajt6 cjt6 ajt7 cjt7 rjt7 rjt8 rjt12 rjt13 hjt0 hjt1 hjt2 hjt3 hjt4 hjt5 hjt6 hjt7 hjt8 hjt9 hjt10 hjt11 hjt12 hjt13 (WY x1 a11 c11 a12 c12 a13 c13 a14 c14) x1 (⟨a11,c11,a12,c12,a13,c13,a14,c14,rfl,w14,w15,w16,hs7,w17,w18,w19,w20,hs8,w21,w22,w23,w24,w25,hs9,hs10⟩) (by exact (JbY hbe hJ).1) (by (have q_:=(JbY hbe hJ);omega)) (by (have q_:=(JbY hbe hJ);omega))) (fun v G2 L1 hl2 hp=>?_))))))))))))))
 obtain ⟨a15,c15,a16,c16,a17,c17,a18,c18,a19,c19,a20,c20,a21,c21,a22,c22,r5,r6,r7,r8,rfl,_,hs11,_,_,_,hs12,hs13,hr5,hr6,_,hs14,_,hr7,hr8,rfl⟩:=hp
 refine Je (JN (Jc (Jd (Jb [0,0] [(29,I (Hh.wrap ((i:Int)+1)))] (Kp 29 ((i:Int)+1) J5 (Je (Jk 7 (Jk 7 (Jk 6 (Jk 6 (Jk 6 (Jk 6 (Jk 6 ?_)))))))))))))
 exact QA [[Sg b3 0 (J7 (YB jt x1) a15 c15 a16 c16 a17 c17 a18 c18 a19 c19 a20 c20 a21 c21 a22 c22)],r5,r6,r7,r8,[Sg b2 0 [I 0,Sl none 0 0,I 0,I 0,I 0,Sl none 0 0,Sl none 0 0,Sl none 0 0,Sl none 0 0,I 0,Sl none 0 0]],[Sg b1 0 (WH s a1 c1 a2 c2)]] (Qf (i+1,(YB jt x1),a15,c15,a16,c16,a17,c17,a18,c18,r5,a19,c19,r6,a20,c20,a21,c21,r7,a22,c22,r8,G2) ⟨(Ja hle hl2),J5,hs11,hs12,hs13,hr5,hr6,hs14,hr7,hr8,‹_›,‹_›,‹_›,‹_›,‹_›,‹_›,(by (try dsimp only);rw [← JhJ hx1,← hJ])⟩ (by (try dsimp only);omega))
 refine KW (J1 (J8 (JT (Jc (Jf (Kt [8] (Wz [(0,Pt b3 0),(1,Pt b3 0),(2,Pt b3 0),(3,(Vf jt.town ajt0 cjt0 ajt1 cjt1 ajt2 cjt2 ajt3 cjt3 ajt4 cjt4 ajt5 cjt5)),(4,Pt b3 0),(5,Pt b3 0),(6,Pt b3 13),(7,Sl ajt7 jt.events.length cjt7)] (JL [] [(0,0),(1,0),(2,0),(3,2),(4,0),(5,0),(6,0),(7,2)] [] [8] (Ha _) (Kb ?_ K4)))))))))
 refine JA 8 [(4,Pt b2 0),(40,(Vf jt.town ajt0 cjt0 ajt1 cjt1 ajt2 cjt2 ajt3 cjt3 ajt4 cjt4 ajt5 cjt5))] (fun X=>?_)
 refine KI 5 [[Sg b3 0 (J7 jt ajt0 cjt0 ajt1 cjt1 ajt2 cjt2 ajt3 cjt3 ajt4 cjt4 ajt5 cjt5 ajt6 cjt6 ajt7 cjt7)],rjt7,rjt8,rjt12,rjt13,[Sg b2 0 (ZW jt.town ajt0 cjt0 ajt1 cjt1 ajt2 cjt2 ajt3 cjt3 ajt4 cjt4 ajt5 cjt5)],[Sg b1 0 (WH s a1 c1 a2 c2)]] (J9 [(9,Sl ajt7 jt.events.length cjt7),(10,I 0)] (Kq [0,1,2,3] [(4,0),(5,0),(6,0),(7,2),(9,0),(10,0)] [] [(4,Pt b2 0),(5,Sl ajt7 jt.events.length cjt7),(6,I 0)] (Ha _) (Jc (Jo (Wm (E:=QG) 1 hjt7 (by have q_:=(JbY hbe hJ);have q1_:=q_.1.len;have q2_:=q_.1.polls;simp only [QG,Wp,QR];omega) (fun G3 hl3 hs15=>Wm (E:=Wp) 2 (hjt8.mono hl3) (by have q_:=(JbY hbe hJ);have q1_:=q_.1.len;have q2_:=q_.1.polls;simp only [QG,Wp,QR];omega) (fun G4 hl4 hs16=>Wm (E:=QR) 4 (hjt13.mono (Ja hl3 hl4)) (by have q_:=(JbY hbe hJ);have q1_:=q_.1.len;have q2_:=q_.1.polls;simp only [QG,Wp,QR];omega) (fun G5 hl5 hs17=>?_))))))))
 have hf4:Js s l=(jt.town,jt.events,0):=by
  (rw [Jj4 ‹_› (by omega) hJ (by omega)];done)
 refine Jp [5,0,0] [(Vf jt.town ajt0 cjt0 ajt1 cjt1 ajt2 cjt2 ajt3 cjt3 ajt4 cjt4 ajt5 cjt5),Sl ajt7 jt.events.length cjt7,I 0] (JB [] (Ja (Ja (Ja (Ja hl1 hle) hl3) hl4) hl5) ?_)
 rw [hf4]
 try dsimp only
 exact ⟨ajt0,cjt0,ajt1,cjt1,ajt2,cjt2,ajt3,cjt3,ajt4,cjt4,ajt5,cjt5,ajt7,cjt7,rfl,hjt0,(hjt1.mono (Ja (Ja hl3 hl4) hl5)),hjt2,hjt3,hjt4,(hjt5.mono (Ja (Ja hl3 hl4) hl5)),(hjt6.mono (Ja (Ja hl3 hl4) hl5)),(hs15.mono (Ja hl4 hl5)),(hs16.mono hl5),hjt9,(hjt10.mono (Ja (Ja hl3 hl4) hl5)),hs17,rfl⟩
set_option maxHeartbeats 1600000 in
theorem JeJ (G:J4) (vs_s:Bv) (s:Ky) (h_s:Jic.R G vs_s s) (a_l:Ba) (c_l:Nat) (l:List KV) (r_l:Bg) (h_l:J0 Wr G a_l c_l l r_l) :JcQ 20 #[.agg vs_s.toArray,Sl a_l l.length c_l] G [r_l] (fun u G' L'=>∃ (a1:Ba) (c2:Nat) (a3:Ba) (c4:Nat) (a5:Ba) (c6:Nat) (a7:Ba) (c8:Nat) (a9:Ba) (c10:Nat) (a11:Ba) (c12:Nat) (a13:Ba) (c14:Nat),u=.tuple #[.agg #[I (((Js s l).1).clerk.queue.most),Sl a1 ((((Js s l).1).clerk.queue.wait).length) c2,I (((Js s l).1).clerk.batch),I (((Js s l).1).clerk.every),I (((Js s l).1).clerk.now),Sl a3 ((((Js s l).1).clerk.heads).length) c4,Sl a5 ((((Js s l).1).clerk.books).length) c6,Sl a7 ((((Js s l).1).owners).length) c8,Sl a9 ((((Js s l).1).polls).length) c10,I (((Js s l).1).net.now),Sl a11 ((((Js s l).1).net.way).length) c12],Sl a13 (((Js s l).2.1).length) c14,I ((Js s l).2.2)]∧(rI (((Js s l).1).clerk.queue.most))∧(RS Q4 G' a1 c2 (((Js s l).1).clerk.queue.wait))∧(rI (((Js s l).1).clerk.batch))∧(rI (((Js s l).1).clerk.every))∧(rI (((Js s l).1).clerk.now))∧(RS KG G' a3 c4 (((Js s l).1).clerk.heads))∧(RS Qi G' a5 c6 (((Js s l).1).clerk.books))∧(RS QG G' a7 c8 (((Js s l).1).owners))∧(RS Wp G' a9 c10 (((Js s l).1).polls))∧(rI (((Js s l).1).net.now))∧(RS Kg G' a11 c12 (((Js s l).1).net.way))∧(RS QR G' a13 c14 ((Js s l).2.1))∧L'=[r_l]):=by
 obtain ⟨a1,c1,a2,c2,rfl,hs1,hs2,w1,w2,w3,w4,w5,w6,w7⟩:=h_s
 intro Lr
 refine JS Tryz.func20 45 [(0,(Va s a1 c1 a2 c2)),(1,Sl a_l l.length c_l)] rfl (fun w0 G0=>?_)
 show TC _ _ _ _ _ (r_l::Lr)
 refine Jf (Jd (Jv 2 #[Sl a1 s.names.length c1,Sl a2 s.keys.length c2,I s.most,I s.batch,I s.every,I s.least,I s.top,I s.lost,I s.reach] 72 (fun b1=>Jv 4 #[I 0,Sl none 0 0,I 0,I 0,I 0,Sl none 0 0,Sl none 0 0,Sl none 0 0,Sl none 0 0,I 0,Sl none 0 0] 67 (fun b2=>Jb [0,0] [] (Je (Jc (Jf (Jd (Jb [4] [(12,(Va s a1 c1 a2 c2))] (JM 13 (JhN G (WH s a1 c1 a2 c2) s (⟨a1,c1,a2,c2,rfl,hs1,hs2,w1,w2,w3,w4,w5,w6,w7⟩)) (fun v G1 L1 hl1 hp=>?_)))))))))))
 rcases hp with ⟨hbe,rfl,rfl⟩ | ⟨hbe,b3,a3,c3,a4,c4,a5,c5,a6,c6,a7,c7,a8,c8,a9,c9,a10,c10,r1,r2,r3,r4,rfl,w8,hs3,w9,w10,w11,hs4,hs5,hr1,hr2,w12,hs6,w13,hr3,hr4,rfl⟩
 refine Jb [0,0,0,0,0] [(7,.pointer none),(8,I (Qm s))] (Je (Jc (Jf (Jf (Jd (Jb [0,0,0] [(18,Bo (decide (Qm s=0)))] (Kk (decide (Qm s=0)) [18] [0,0,0,0] [1,1,1,0] (fun bb=>[(22,Bo (bb && (decide ((l.length:Int) > 200))))]) (Je (Jc (Jm ((decide (Qm s=0)) && (decide ((l.length:Int) > 200))) (fun h1=>?_) (fun h1=>?_)))))))))))
 refine Jd (Jb [0] [(8,I 2)] (Je (Jc (Jf (Jg [0,0] [(24,Bo true)] (JZ (Jg [0,0,3,0,0] [(5,Sl none 0 0),(6,I 2)] (Jo (Jj ?_)))))))))
 have hf1:Js s l=((⟨(⟨(⟨0,[]⟩:QY),0,0,0,[],[]⟩:KL),[],[],(⟨0,[]⟩:YM)⟩:Wb),[],2):=by
  (exfalso;omega)
 refine Jp [0,0,0] [.agg #[I 0,Sl none 0 0,I 0,I 0,I 0,Sl none 0 0,Sl none 0 0,Sl none 0 0,Sl none 0 0,I 0,Sl none 0 0],Sl none 0 0,I 2] (KQ (Lr:=Lr) [r_l] hl1 ?_)
 rw [hf1]
 try dsimp only
 exact ⟨none,0,none,0,none,0,none,0,none,0,none,0,none,0,rfl,J5,(JP Q4 G1),J5,J5,J5,(JP KG G1),(JP Qi G1),(JP QG G1),(JP Wp G1),J5,(JP Kg G1),(JP QR G1),rfl⟩
 refine Jq (Jc (Jf (Jg [0,0] [(24,Bo (!decide (Qm s=0)))] (Jm (!decide (Qm s=0)) (fun h2=>?_) (fun h2=>?_)))))
 refine Jg [0,0,3,0,0] [(5,Sl none 0 0),(6,I (Qm s))] (Jo (Jj ?_))
 have hf2:Js s l=((⟨(⟨(⟨0,[]⟩:QY),0,0,0,[],[]⟩:KL),[],[],(⟨0,[]⟩:YM)⟩:Wb),[],Qm s):=by
  (rw [Jfg ‹_›];rfl)
 refine Jp [0,0,0] [.agg #[I 0,Sl none 0 0,I 0,I 0,I 0,Sl none 0 0,Sl none 0 0,Sl none 0 0,Sl none 0 0,I 0,Sl none 0 0],Sl none 0 0,I (Qm s)] (KQ (Lr:=Lr) [r_l] hl1 ?_)
 rw [hf2]
 try dsimp only
 exact ⟨none,0,none,0,none,0,none,0,none,0,none,0,none,0,rfl,J5,(JP Q4 G1),J5,J5,J5,(JP KG G1),(JP Qi G1),(JP QG G1),(JP Wp G1),J5,(JP Kg G1),(JP QR G1),rfl⟩
 refine Jq (Jc (Jf ?_))
 exfalso;omega
 refine Jb [0,0,0,0,0] [(7,Pt b3 0),(8,I 0)] (Je (Jc (Jf (Jg [0,0,0,0,0,0,0] [(22,Bo (decide ((l.length:Int) > 200)))] (Jm (decide ((l.length:Int) > 200)) (fun h3=>?_) (fun h3=>?_))))))
 refine Jd (Jb [0] [(8,I 2)] (Je (Jc (Jf (Jg [0,0] [(24,Bo true)] (JZ (Jg [0,0,13,0,0] [(5,Sl none 0 0),(6,I 2)] (Jo (Jj ?_)))))))))
 have hf3:Js s l=((⟨(⟨(⟨0,[]⟩:QY),0,0,0,[],[]⟩:KL),[],[],(⟨0,[]⟩:YM)⟩:Wb),[],2):=by
  (rw [JgA ‹_› (by omega)];rfl)
 refine Jp [5,0,0] [.agg #[I 0,Sl none 0 0,I 0,I 0,I 0,Sl none 0 0,Sl none 0 0,Sl none 0 0,Sl none 0 0,I 0,Sl none 0 0],Sl none 0 0,I 2] (KQ (Lr:=Lr) [r_l] hl1 ?_)
 rw [hf3]
 try dsimp only
 exact ⟨none,0,none,0,none,0,none,0,none,0,none,0,none,0,rfl,‹_›,(JP Q4 G1),‹_›,‹_›,‹_›,(JP KG G1),(JP Qi G1),(JP QG G1),(JP Wp G1),‹_›,(JP Kg G1),(JP QR G1),rfl⟩
 refine Jq (Jc (Jf (Jg [0,0] [(24,Bo false)] (Qt (Jq (Jc (Jf (Jg [0,0,0] [(27,Sl a_l l.length c_l),(28,I (l.length:Int)),(29,I 0)] (Jx ?_)))))))))
 refine Qb (σ:=Nat×JK×Ba×Nat×Ba×Nat×Ba×Nat×Ba×Nat×Bg×Ba×Nat×Bg×Ba×Nat×Ba×Nat×Bg×Ba×Nat×Bg×J4) (fun q_=>(J4.le G1 q_.2.2.2.2.2.2.2.2.2.2.2.2.2.2.2.2.2.2.2.2.2.2)∧(q_.1≤l.length)∧(RS Q4 q_.2.2.2.2.2.2.2.2.2.2.2.2.2.2.2.2.2.2.2.2.2.2 q_.2.2.1 q_.2.2.2.1 q_.2.1.town.clerk.queue.wait)∧(RS KG q_.2.2.2.2.2.2.2.2.2.2.2.2.2.2.2.2.2.2.2.2.2.2 q_.2.2.2.2.1 q_.2.2.2.2.2.1 q_.2.1.town.clerk.heads)∧(RS Qi q_.2.2.2.2.2.2.2.2.2.2.2.2.2.2.2.2.2.2.2.2.2.2 q_.2.2.2.2.2.2.1 q_.2.2.2.2.2.2.2.1 q_.2.1.town.clerk.books)∧(J0 QG q_.2.2.2.2.2.2.2.2.2.2.2.2.2.2.2.2.2.2.2.2.2.2 q_.2.2.2.2.2.2.2.2.1 q_.2.2.2.2.2.2.2.2.2.1 q_.2.1.town.owners q_.2.2.2.2.2.2.2.2.2.2.1)∧(J0 Wp q_.2.2.2.2.2.2.2.2.2.2.2.2.2.2.2.2.2.2.2.2.2.2 q_.2.2.2.2.2.2.2.2.2.2.2.1 q_.2.2.2.2.2.2.2.2.2.2.2.2.1 q_.2.1.town.polls q_.2.2.2.2.2.2.2.2.2.2.2.2.2.1)∧(RS Kg q_.2.2.2.2.2.2.2.2.2.2.2.2.2.2.2.2.2.2.2.2.2.2 q_.2.2.2.2.2.2.2.2.2.2.2.2.2.2.1 q_.2.2.2.2.2.2.2.2.2.2.2.2.2.2.2.1 q_.2.1.town.net.way)∧(J0 VA q_.2.2.2.2.2.2.2.2.2.2.2.2.2.2.2.2.2.2.2.2.2.2 q_.2.2.2.2.2.2.2.2.2.2.2.2.2.2.2.2.1 q_.2.2.2.2.2.2.2.2.2.2.2.2.2.2.2.2.2.1 q_.2.1.fates q_.2.2.2.2.2.2.2.2.2.2.2.2.2.2.2.2.2.2.1)∧(J0 QR q_.2.2.2.2.2.2.2.2.2.2.2.2.2.2.2.2.2.2.2.2.2.2 q_.2.2.2.2.2.2.2.2.2.2.2.2.2.2.2.2.2.2.2.1 q_.2.2.2.2.2.2.2.2.2.2.2.2.2.2.2.2.2.2.2.2.1 q_.2.1.events q_.2.2.2.2.2.2.2.2.2.2.2.2.2.2.2.2.2.2.2.2.2.1)∧(rI q_.2.1.town.clerk.queue.most)∧(rI q_.2.1.town.clerk.batch)∧(rI q_.2.1.town.clerk.every)∧(rI q_.2.1.town.clerk.now)∧(rI q_.2.1.town.net.now)∧(rI q_.2.1.reach)∧(q_.2.1=Jav (K0 s) (l.take q_.1))) (fun q_=>[(4,Pt b2 0),(7,Pt b3 0),(27,Sl a_l l.length c_l),(28,I (l.length:Int)),(29,I (q_.1:Int))]) (fun q_=>q_.2.2.2.2.2.2.2.2.2.2.2.2.2.2.2.2.2.2.2.2.2.2) (fun q_=>([Sg b3 0 (J7 q_.2.1 q_.2.2.1 q_.2.2.2.1 q_.2.2.2.2.1 q_.2.2.2.2.2.1 q_.2.2.2.2.2.2.1 q_.2.2.2.2.2.2.2.1 q_.2.2.2.2.2.2.2.2.1 q_.2.2.2.2.2.2.2.2.2.1 q_.2.2.2.2.2.2.2.2.2.2.2.1 q_.2.2.2.2.2.2.2.2.2.2.2.2.1 q_.2.2.2.2.2.2.2.2.2.2.2.2.2.2.1 q_.2.2.2.2.2.2.2.2.2.2.2.2.2.2.2.1 q_.2.2.2.2.2.2.2.2.2.2.2.2.2.2.2.2.1 q_.2.2.2.2.2.2.2.2.2.2.2.2.2.2.2.2.2.1 q_.2.2.2.2.2.2.2.2.2.2.2.2.2.2.2.2.2.2.2.1 q_.2.2.2.2.2.2.2.2.2.2.2.2.2.2.2.2.2.2.2.2.1)]::q_.2.2.2.2.2.2.2.2.2.2.1::q_.2.2.2.2.2.2.2.2.2.2.2.2.2.1::q_.2.2.2.2.2.2.2.2.2.2.2.2.2.2.2.2.2.2.1::q_.2.2.2.2.2.2.2.2.2.2.2.2.2.2.2.2.2.2.2.2.2.1::[Sg b2 0 [I 0,Sl none 0 0,I 0,I 0,I 0,Sl none 0 0,Sl none 0 0,Sl none 0 0,Sl none 0 0,I 0,Sl none 0 0]]::[Sg b1 0 (WH s a1 c1 a2 c2)]::r_l::Lr)) (fun q_=>l.length-q_.1) (0,(K0 s),a3,c3,a4,c4,a5,c5,a6,c6,r1,a7,c7,r2,a8,c8,a9,c9,r3,a10,c10,r4,G1) ⟨(Jh _),(by (try dsimp only);exact Hq _),hs3,hs4,hs5,hr1,hr2,hs6,hr3,hr4,w8,w9,w10,w11,w12,w13,(by (try dsimp only);rfl)⟩ (fun q_ hs=>?_)
 obtain ⟨i,jt,ajt0,cjt0,ajt1,cjt1,ajt2,cjt2,ajt3,cjt3,rjt7,ajt4,cjt4,rjt8,ajt5,cjt5,ajt6,cjt6,rjt12,ajt7,cjt7,rjt13,g⟩:=q_
 obtain ⟨hle,hi,hjt1,hjt5,hjt6,hjt7,hjt8,hjt10,hjt12,hjt13,hjt0,hjt2,hjt3,hjt4,hjt9,hjt11,hJ⟩:=hs
 dsimp only at hle hi hjt1 hjt5 hjt6 hjt7 hjt8 hjt10 hjt12 hjt13 hjt0 hjt2 hjt3 hjt4 hjt9 hjt11 hJ
 dsimp only
 refine Jg [0] [(30,Bo (decide ((i:Int)<(l.length:Int))))] (Jf (Jm (decide ((i:Int)<(l.length:Int))) (fun h4=>?_) (fun h4=>?_)))
 refine Jq (Jc (Jf (Jx (Jf (Jd ?_)))))
 obtain ⟨x1,hx1⟩:=QW (l:=l) (k:=i) (by omega)
 obtain ⟨b4,o1,_,_,⟨a11,c11,a12,c12,a13,c13,a14,c14,rfl,w14,w15,w16,hs7,w17,w18,w19,w20,hs8,w21,w22,w23,w24,w25,hs9,hs10⟩,ha1,hre1,hc1⟩:=J0.ix (h_l.mono (Ja hl1 hle)) hx1
 refine Qv (b:=b4) (off:=o1) (len:=l.length) (cap:=c_l) (ik:=.i64) 31 53 16 i ha1 J5 (W8 (off:=o1) (p:=i*16) (cs:=(WY x1 a11 c11 a12 c12 a13 c13 a14 c14)) 32 53 7 0 (JdC x1 a11 c11 a12 c12 a13 c13 a14 c14) hre1 hc1 (Jv 10 #[I 0,I 0,Sr ([]),Sl none 0 0,I 0,I 0,I 0,I 0,Sl none 0 0,I 0,U 0,U 0,I 0,Sr ([]),Sl none 0 0,Sl none 0 0] 53 (fun b5=>JX [3] [] ([Sg b5 0 (WY x1 a11 c11 a12 c12 a13 c13 a14 c14)]::[Sg b3 0 (J7 jt ajt0 cjt0 ajt1 cjt1 ajt2 cjt2 ajt3 cjt3 ajt4 cjt4 ajt5 cjt5 ajt6 cjt6 ajt7 cjt7)]::rjt7::rjt8::rjt12::rjt13::[Sg b2 0 [I 0,Sl none 0 0,I 0,I 0,I 0,Sl none 0 0,Sl none 0 0,Sl none 0 0,Sl none 0 0,I 0,Sl none 0 0]]::[Sg b1 0 (WH s a1 c1 a2 c2)]::r_l::Lr) (Je (Jc (Jd (Jb [0,2] [(33,Pt b3 0),(34,(JdC x1 a11 c11 a12 c12 a13 c13 a14 c14))] (Jw 5 (Jw 5 (Jw 5 (Jw 5 (Jw 5 (Qq (Ls:=[[Sg b3 0 (J7 jt ajt0 cjt0 ajt1 cjt1 ajt2 cjt2 ajt3 cjt3 ajt4 cjt4 ajt5 cjt5 ajt6 cjt6 ajt7 cjt7)],rjt7,rjt8,rjt12,rjt13]) (Lr:=([Sg b5 0 (WY x1 a11 c11 a12 c12 a13 c13 a14 c14)]::[Sg b2 0 [I 0,Sl none 0 0,I 0,I 0,I 0,Sl none 0 0,Sl none 0 0,Sl none 0 0,Sl none 0 0,I 0,Sl none 0 0]]::[Sg b1 0 (WH s a1 c1 a2 c2)]::r_l::Lr)) 35 (Jmu g b3 jt ajt0 cjt0 ajt1 cjt1 ajt2 cjt2 ajt3 cjt3 ajt4 cjt4 ajt5 cjt5 ajt6 cjt6 ajt7 cjt7 rjt7 rjt8 rjt12 rjt13 hjt0 hjt1 hjt2 hjt3 hjt4 hjt5 hjt6 hjt7 hjt8 hjt9 hjt10 hjt11 hjt12 hjt13 (WY x1 a11 c11 a12 c12 a13 c13 a14 c14) x1 (⟨a11,c11,a12,c12,a13,c13,a14,c14,rfl,w14,w15,w16,hs7,w17,w18,w19,w20,hs8,w21,w22,w23,w24,w25,hs9,hs10⟩) (by exact (JbY hbe hJ).1) (by (have q_:=(JbY hbe hJ);omega)) (by (have q_:=(JbY hbe hJ);omega))) (fun v G2 L1 hl2 hp=>?_))))))))))))))
 obtain ⟨a15,c15,a16,c16,a17,c17,a18,c18,a19,c19,a20,c20,a21,c21,a22,c22,r5,r6,r7,r8,rfl,_,hs11,_,_,_,hs12,hs13,hr5,hr6,_,hs14,_,hr7,hr8,rfl⟩:=hp
 refine Je (JN (Jc (Jd (Jb [0,0] [(29,I (Hh.wrap ((i:Int)+1)))] (Kp 29 ((i:Int)+1) J5 (Je (Jk 8 (Jk 8 (Jk 8 (Jk 7 (Jk 7 (Jk 7 (Jk 7 ?_)))))))))))))
 refine Jk 7 ?_
 exact QA ([Sg b3 0 (J7 (YB jt x1) a15 c15 a16 c16 a17 c17 a18 c18 a19 c19 a20 c20 a21 c21 a22 c22)]::r5::r6::r7::r8::[Sg b2 0 [I 0,Sl none 0 0,I 0,I 0,I 0,Sl none 0 0,Sl none 0 0,Sl none 0 0,Sl none 0 0,I 0,Sl none 0 0]]::[Sg b1 0 (WH s a1 c1 a2 c2)]::r_l::Lr) (Qf (i+1,(YB jt x1),a15,c15,a16,c16,a17,c17,a18,c18,r5,a19,c19,r6,a20,c20,a21,c21,r7,a22,c22,r8,G2) ⟨(Ja hle hl2),J5,hs11,hs12,hs13,hr5,hr6,hs14,hr7,hr8,‹_›,‹_›,‹_›,‹_›,‹_›,‹_›,(by (try dsimp only);rw [← JhJ hx1,← hJ])⟩ (by (try dsimp only);omega))
 refine KW (J1 (J8 (JT (Jc (Jf (Kt [8] (Wz [(0,Pt b3 0),(1,Pt b3 0),(2,Pt b3 0),(3,(Vf jt.town ajt0 cjt0 ajt1 cjt1 ajt2 cjt2 ajt3 cjt3 ajt4 cjt4 ajt5 cjt5)),(4,Pt b3 0),(5,Pt b3 0),(6,Pt b3 13),(7,Sl ajt7 jt.events.length cjt7)] (JL [] [(0,0),(1,0),(2,0),(3,2),(4,0),(5,0),(6,0),(7,2)] [] [8] (Ha _) (Kb ?_ K4)))))))))
 refine JA 8 [(4,Pt b2 0),(40,(Vf jt.town ajt0 cjt0 ajt1 cjt1 ajt2 cjt2 ajt3 cjt3 ajt4 cjt4 ajt5 cjt5))] (fun X=>?_)
 refine KI 5 ([Sg b3 0 (J7 jt ajt0 cjt0 ajt1 cjt1 ajt2 cjt2 ajt3 cjt3 ajt4 cjt4 ajt5 cjt5 ajt6 cjt6 ajt7 cjt7)]::rjt7::rjt8::rjt12::rjt13::[Sg b2 0 (ZW jt.town ajt0 cjt0 ajt1 cjt1 ajt2 cjt2 ajt3 cjt3 ajt4 cjt4 ajt5 cjt5)]::[Sg b1 0 (WH s a1 c1 a2 c2)]::r_l::Lr) (J9 [(9,Sl ajt7 jt.events.length cjt7),(10,I 0)] (Kq [0,1,2,3] [(4,0),(5,0),(6,0),(7,2),(9,0),(10,0)] [] [(4,Pt b2 0),(5,Sl ajt7 jt.events.length cjt7),(6,I 0)] (Ha _) (Jc (Jo (Wm (E:=QG) 1 hjt7 (by have q_:=(JbY hbe hJ);have q1_:=q_.1.len;have q2_:=q_.1.polls;simp only [QG,Wp,QR];omega) (fun G3 hl3 hs15=>Wm (E:=Wp) 2 (hjt8.mono hl3) (by have q_:=(JbY hbe hJ);have q1_:=q_.1.len;have q2_:=q_.1.polls;simp only [QG,Wp,QR];omega) (fun G4 hl4 hs16=>Wm (E:=QR) 4 (hjt13.mono (Ja hl3 hl4)) (by have q_:=(JbY hbe hJ);have q1_:=q_.1.len;have q2_:=q_.1.polls;simp only [QG,Wp,QR];omega) (fun G5 hl5 hs17=>?_))))))))
 have hf4:Js s l=(jt.town,jt.events,0):=by
  (rw [Jj4 ‹_› (by omega) hJ (by omega)];done)
 refine Jp [5,0,0] [(Vf jt.town ajt0 cjt0 ajt1 cjt1 ajt2 cjt2 ajt3 cjt3 ajt4 cjt4 ajt5 cjt5),Sl ajt7 jt.events.length cjt7,I 0] (KQ (Lr:=Lr) [r_l] (Ja (Ja (Ja (Ja hl1 hle) hl3) hl4) hl5) ?_)
 rw [hf4]
 try dsimp only
 exact ⟨ajt0,cjt0,ajt1,cjt1,ajt2,cjt2,ajt3,cjt3,ajt4,cjt4,ajt5,cjt5,ajt7,cjt7,rfl,hjt0,(hjt1.mono (Ja (Ja hl3 hl4) hl5)),hjt2,hjt3,hjt4,(hjt5.mono (Ja (Ja hl3 hl4) hl5)),(hjt6.mono (Ja (Ja hl3 hl4) hl5)),(hs15.mono (Ja hl4 hl5)),(hs16.mono hl5),hjt9,(hjt10.mono (Ja (Ja hl3 hl4) hl5)),hs17,rfl⟩
def Ka (s:Bb):Int×Int:=match Jbn s with
 | some v=>if (v<0∨s.length > 9)∨¬ Lib.itoa v=s then (0,3) else (v,0)
 | none=>(0,3)
theorem JnP {s:Bb} (h:Jbn s=none):(Ka s).2=3:=by unfold Ka;rw [h]
theorem Jj5 {s:Bb} {v:Int} (h:Jbn s=some v) (hb:(v<0∨s.length > 9)∨¬ Lib.itoa v=s):(Ka s).2=3:=by unfold Ka;rw [h];simp only;rw [if_pos hb]
theorem JqU {s:Bb} {v:Int} (h:Jbn s=some v) (h1:0≤v) (h2:s.length≤9) (h3:Lib.itoa v=s):(Ka s).2=0∧(Ka s).1=v:=by
 unfold Ka;rw [h];simp only;rw [if_neg (by rintro ((q | q) | q);omega;omega;exact q h3)];exact ⟨rfl,rfl⟩
theorem Y0 (s:Bb):0≤(Ka s).1∧(Ka s).1<9223372036854775808:=by
 unfold Ka
 split
 ·
  rename_i v hv
  have:=Jhx hv
  split
  · simp
  · rename_i h;simp only;omega
 · simp
theorem Jj6 (s:Bb):(Ka s).2=0∨(Ka s).2=3:=by
 unfold Ka
 split
 · split <;> simp
 · simp
def QQ (l:Bs):List Int×Int:=if ∃ s∈l,¬ (Ka s).2=0 then ([],3) else (l.map fun s=>(Ka s).1,0)
theorem JnQ {l:Bs} {s:Bb} {i:Nat} (h:l[i]? = some s) (hs:¬ (Ka s).2=0):(QQ l).2=(Ka s).2:=by
 unfold QQ
 rw [if_pos ⟨s,Hi h,hs⟩]
 rcases Jj6 s with h | h
 · exact (hs h).elim
 · exact h.symm
theorem JpN {l:Bs} (h:∀ s∈l,(Ka s).2=0):(QQ l).2=0∧(QQ l).1=l.map fun s=>(Ka s).1:=by
 unfold QQ
 rw [if_neg (fun ⟨s,h1,h2⟩=>h2 (h s h1))]
 exact ⟨rfl,rfl⟩
theorem JnR {l:Bs} (h:(QQ l).2=0):(QQ l).1=l.map (fun s=>(Ka s).1)∧∀ s∈l,(Ka s).2=0:=by
 unfold QQ at h ⊢
 split at h
 · cases h
 ·
  rename_i hn
  rw [if_neg hn]
  exact ⟨rfl,fun s hs=>Hu.1 fun hc=>hn ⟨s,hs,hc⟩⟩
theorem JnS {l:Bs} {i:Nat} {x:Bb} (hx:l[i]? = some x):(l.take i).map (fun s=>(Ka s).1)++[(Ka x).1]=(l.take (i+1)).map (fun s=>(Ka s).1):=by
 rw [Hn,hx];simp
theorem JpO {l:Bs} {i:Nat} {x:Bb} (hx:l[i]? = some x) (h:∀ s∈l.take i,(Ka s).2=0) (h2:(Ka x).2=0):∀ s∈l.take (i+1),(Ka s).2=0:=by
 intro s hs
 rw [Hn,hx] at hs
 rcases List.mem_append.1 hs with hs | hs
 · exact h s hs
 · simp at hs;rw [hs];exact h2
theorem JbS (n:Int) (h:-9223372036854775808≤n∧n<9223372036854775808:=by omega):(Lib.itoa n).length≤21:=Lib.itoa_length_le n h.1 (by omega)
theorem JnT {l:List Int} {i:Nat} {x:Int} (hx:l[i]? = some x):(l.take i).map Lib.itoa++[Lib.itoa x]=(l.take (i+1)).map Lib.itoa:=by
 rw [Hn,hx];simp
abbrev VM (e:Int):Value:=.iface 122 (.agg #[I e])
theorem Z2 (G:J4)  (e:Int) :JaG Tryz.prog 49 #[I e] G [] (fun u G' L'=>(e=0)∧u=.tuple #[]∧L'=[]) (fun u _ L'=>(¬ e=0)∧u=VM e∧L'=[]):=by
 refine ZG Tryz.func49 7 [(0,I e)] rfl (fun w0 G0 hT=>Jg [0,0] [(3,Bo (!decide (e=0)))] (Jm (!decide (e=0)) (fun h1=>?_) (fun h1=>?_)))
 refine Jd (Jb [0,0,0] [(6,.iface 122 (.agg #[I e]))] (JkB 122 (.agg #[I e]) ?_))
 have hp1:e=e:=by
  rfl
 refine Zb (Jcx [] (Jh _) ?_)
 rw [hp1];exact ⟨h1,rfl,rfl⟩
 refine Jq ?_
 have hf1:e=0:=by
  assumption
 exact ZX [] [] (bpx (JB [] (Jh _) (⟨hf1,rfl,rfl⟩)))
theorem Y1 (G:J4)  (s:Bb) (hs:s.length≤140737488351232):JaG Tryz.prog 136 #[Sr s] G [] (fun u G' L'=>((Ka s).2=0)∧u=I ((Ka s).1)∧L'=[]) (fun u _ L'=>(¬ (Ka s).2=0)∧u=VM ((Ka s).2)∧L'=[]):=by
 refine ZG Tryz.func136 29 [(0,Sr s)] rfl (fun w0 G0 hT=>Jg [0] [] (Jf (Jd (Jb [0] [(6,Sr s)] (Ye (Ls:=[]) (Lr:=[]) 7 hT ((JoK G s J5).frame) (fun v G1 L1 hl1 hp=>?_))))))
 rcases hp with ⟨⟨v1,ha1,rfl⟩ | ⟨ha1,v2,b1,rfl⟩,rfl⟩
 refine Jb [0,0,0,0,0] [(3,I v1),(4,.nilIface)] (Je (Jc (Jf (Jf (Jd (Jb [0,0,0,0,0,0,0] [(16,Bo (decide (v1<0)))] (Kk (decide (v1<0)) [16] [1,1,1,0] [0,0,0,0] (fun bb=>[(20,Bo (bb || (decide (((s).length:Int) > 9))))]) (Jb [0] [(21,Bo ((decide (v1<0)) || (decide (((s).length:Int) > 9))))] (QS [21] ((decide (v1<0)) || (decide (((s).length:Int) > 9))) (fun h1=>?_) (fun h1=>?_))))))))))
 refine Jb [1,1,1,1,0] [(26,Bo true)] (Je (Jc (JZ (Jd (K2 (Ls:=[]) (Lr:=[]) 27 hT ((Z2 G1 3).frame) (fun v G2 L1 hl2 hp=>?_) (fun v G2 L1 hl2 hp=>?_))))))
 obtain ⟨hne1,rfl,rfl⟩:=hp
 refine Km ?_
 have hp1:(Ka s).2=3:=by
  exact Jj5 ‹_› (.inl J5)
 refine Zb (Jcx [] (Ja hl1 hl2) ?_)
 rw [hp1];exact ⟨hne1,rfl,rfl⟩
 obtain ⟨he1,rfl,rfl⟩:=hp
 exact absurd he1 (by decide)
 refine Jb [0] [(22,I v1)] (Jb3 23 (Sr (Lib.itoa v1)) hT (JfY G1 v1 (Jhx ha1)) (Jb [0,0,0] [(26,Bo (!((B (Lib.itoa v1)).toList == (B s).toList)))] (KE 26 (Bo (!(Lib.itoa v1 == s))) (show (Bo (!((B (Lib.itoa v1)).toList == (B s).toList)):Value)=Bo (!(Lib.itoa v1 == s)) by simp only [QT]) (Je (Jc (Jm (!(Lib.itoa v1 == s)) (fun h2=>?_) (fun h2=>?_)))))))
 refine Jd (K2 (Ls:=[]) (Lr:=[]) 27 hT ((Z2 G1 3).frame) (fun v G3 L1 hl3 hp=>?_) (fun v G3 L1 hl3 hp=>?_))
 obtain ⟨hne2,rfl,rfl⟩:=hp
 refine Km ?_
 have hp3:(Ka s).2=3:=by
  exact Jj5 ‹_› (.inr ‹_›)
 refine Zb (Jcx [] (Ja hl1 hl3) ?_)
 rw [hp3];exact ⟨hne2,rfl,rfl⟩
 obtain ⟨he2,rfl,rfl⟩:=hp
 exact absurd he2 (by decide)
 refine Jq (Jc (Jg [0,0] [(2,I v1)] (Jo ?_)))
 have hf1:(Ka s).2=0∧(Ka s).1=v1:=by
  exact JqU ‹_› J5 J5 (by simp_all)
 refine Jp [0] [I v1] (bpx (JB [] hl1 ?_))
 rw [hf1.2]
 try dsimp only
 exact ⟨hf1.1,rfl,rfl⟩
 refine Jb [0,0,0,0,0] [(3,I v2),(4,.iface (Jid.t 168) (Pt b1 0))] (Je (Jc (Jf (Jg [0,0,0,1,1,0,0,1,1,1,0,0,1,1,1,1,0] [(26,Bo true)] (JZ (Jd (K2 (Ls:=[]) (Lr:=[]) 27 hT ((Z2 G1 3).frame) (fun v G4 L1 hl4 hp=>?_) (fun v G4 L1 hl4 hp=>?_))))))))
 obtain ⟨hne3,rfl,rfl⟩:=hp
 refine Km ?_
 have hp5:(Ka s).2=3:=by
  exact JnP ‹_›
 refine Zb (Jcx [] (Ja hl1 hl4) ?_)
 rw [hp5];exact ⟨hne3,rfl,rfl⟩
 obtain ⟨he3,rfl,rfl⟩:=hp
 exact absurd he3 (by decide)
theorem Jd1 (G:J4)  (a_w:Ba) (c_w:Nat) (w:Bs) (h_w:RS ES G a_w c_w w) (hw:w.length≤1048577) (hs:∀ s∈w,s.length≤1048576):JaG Tryz.prog 134 #[Sl a_w w.length c_w] G [] (fun u G' L'=>((QQ w).2=0)∧∃ (az1:Ba) (cz2:Nat) (rz3:Bg),u=Sl az1 (((QQ w).1).length) cz2∧(J0 EI G' az1 cz2 ((QQ w).1) rz3)∧L'=[rz3]) (fun u _ L'=>(¬ (QQ w).2=0)∧u=VM ((QQ w).2)∧L'=[]):=by
 refine ZG Tryz.func134 19 [(0,Sl a_w w.length c_w)] rfl (fun w0 G0 hT=>Jg [0] [] (Jg [0] [(3,Sl none 0 0)] (Jf (Jg [0,0,0] [(6,Sl a_w w.length c_w),(7,I (w.length:Int)),(8,I 0)] (Jx (Z4 ?_))))))
 have hlm_h_w:w.length≤9223372036854775807:=Ho (h_w).le (h_w).max
 refine Qb (σ:=Nat×Ba×Nat×Bg×List Int×J4) (fun q_=>(J4.le G q_.2.2.2.2.2)∧(q_.1≤w.length)∧(J0 EI q_.2.2.2.2.2 q_.2.1 q_.2.2.1 q_.2.2.2.2.1 q_.2.2.2.1)∧(q_.2.2.2.2.1=(w.take q_.1).map (fun s=>(Ka s).1))∧(∀ s∈w.take q_.1,(Ka s).2=0)) (fun q_=>[(3,Sl q_.2.1 q_.2.2.2.2.1.length q_.2.2.1),(6,Sl a_w w.length c_w),(7,I (w.length:Int)),(8,I (q_.1:Int))]) (fun q_=>q_.2.2.2.2.2) (fun q_=>[q_.2.2.2.1]) (fun q_=>w.length-q_.1) (0,none,0,[],[],G) ⟨(Jh _),(by (try dsimp only);exact Hq _),(J0.none EI _),rfl,(by (try dsimp only);simp)⟩ (fun q_ hs=>?_)
 obtain ⟨i,ax,cx,rx,xx,g⟩:=q_
 obtain ⟨hle,hi,hrx,hxx,hA⟩:=hs
 dsimp only at hle hi hrx hxx hA
 dsimp only
 refine Jg [0] [(9,Bo (decide ((i:Int)<(w.length:Int))))] (Jf (Jm (decide ((i:Int)<(w.length:Int))) (fun h1=>?_) (fun h1=>?_)))
 refine Jq (Jc (Jf (Jx (Jf (Jd ?_)))))
 obtain ⟨b1,o1,rfl⟩:=RS.addr (h_w.mono hle) (k:=i) (by omega)
 obtain ⟨x1,hx1⟩:=QW (l:=w) (k:=i) (by omega)
 obtain ⟨_,⟨rfl,_⟩,hc1⟩:=RS.get (h_w.mono hle) hx1
 refine JY (b:=b1) (off:=o1) (len:=w.length) (cap:=c_w) (ik:=.i64) 10 9 1 i J5 (JR 11 9 (cs:=[Sr x1]) 0 (Sr x1) hc1 (Jb [0] [(5,Sr x1)] (Je (Jc (Jd (Jb [0,0] [(12,Sl ax xx.length cx),(13,Sr x1)] (K2 (Ls:=[]) (Lr:=[rx]) 14 hT ((Y1 g x1 (by have q_:=hs _ (Hi hx1);omega)).frame) (fun v G1 L1 hl1 hp=>?_) (fun v G1 L1 hl1 hp=>?_))))))))
 obtain ⟨hne1,rfl,rfl⟩:=hp
 refine Jdz (Km (JkC (Jdz (Km ?_))))
 have hp1:(QQ w).2=(Ka x1).2:=by
  exact JnQ hx1 ‹_›
 refine Zb (Jcx [] (Ja hle hl1) ?_)
 rw [hp1];exact ⟨hne1,rfl,rfl⟩
 obtain ⟨he1,rfl,rfl⟩:=hp
 exact Ki 15 1 #[I ((Ka x1).1)] 3 (fun b2=>Qr (b:=b2) (cs:=[I ((Ka x1).1)]) 16 3 1 0 (E:=EI) ((Ka x1).1) (hrx.mono hl1) ⟨rfl,(by have q_:=Y0 x1;omega)⟩ (by have q_:=congrArg Hv hxx;simp only [Hj,Hk] at q_;(try simp only [EI]);omega) (by have q_:=congrArg Hv hxx;simp only [Hj,Hk] at q_;(try simp only [EI]);omega) (fun a1 c1 r1 hr1=>Jb [0] [(3,Sl a1 ((xx++[(Ka x1).1]).length) c1)] (Je (JN (Jc (Jd (Jb [0,0] [(8,I (Hh.wrap ((i:Int)+1)))] (Kp 8 ((i:Int)+1) J5 (Je (QA [r1] (Qf (i+1,a1,c1,r1,xx++[(Ka x1).1],G1) ⟨(Ja hle hl1),J5,hr1,(by (try dsimp only);rw [hxx,JnS hx1]),(JpO hx1 hA he1)⟩ (by (try dsimp only);omega))))))))))))
 refine KW (J1 (J8 (JT (Jc (Jg [0,0] [(2,Sl ax xx.length cx)] (Jo ?_))))))
 have hf1:(QQ w).2=0∧(QQ w).1=xx:=by
  have q_:=Hl (i:=i) (l:=w) (by omega);rw [q_] at hA hxx;have q2_:=JpN hA;exact ⟨q2_.1,by rw [q2_.2,hxx]⟩
 refine Jp [0] [Sl ax xx.length cx] (bpx (JB [rx] hle ?_))
 rw [hf1.2]
 try dsimp only
 exact ⟨hf1.1,ax,cx,rx,rfl,hrx,rfl⟩
theorem JgB (G:J4)  (a_l:Ba) (c_l:Nat) (l:List Int) (h_l:RS EI G a_l c_l l) (hl:l.length≤20):JaG Tryz.prog 140 #[Sl a_l l.length c_l] G [] (fun u G' L'=>((0:Int)=0)∧∃ (az1:Ba) (cz2:Nat) (rz3:Bg),u=Sl az1 ((l.map Lib.itoa).length) cz2∧(J0 ES G' az1 cz2 (l.map Lib.itoa) rz3)∧L'=[rz3]) (fun _ _ _=>False):=by
 refine ZG Tryz.func140 19 [(0,Sl a_l l.length c_l)] rfl (fun w0 G0 hT=>Jg [0] [] (Jg [0] [(3,Sl none 0 0)] (Jf (Jg [0,0,0] [(6,Sl a_l l.length c_l),(7,I (l.length:Int)),(8,I 0)] (Jx (Z4 ?_))))))
 have hlm_h_l:l.length≤9223372036854775807:=Ho (h_l).le (h_l).max
 refine Qb (σ:=Nat×Ba×Nat×Bg×Bs×J4) (fun q_=>(J4.le G q_.2.2.2.2.2)∧(q_.1≤l.length)∧(J0 ES q_.2.2.2.2.2 q_.2.1 q_.2.2.1 q_.2.2.2.2.1 q_.2.2.2.1)∧(q_.2.2.2.2.1=(l.take q_.1).map Lib.itoa)) (fun q_=>[(3,Sl q_.2.1 q_.2.2.2.2.1.length q_.2.2.1),(6,Sl a_l l.length c_l),(7,I (l.length:Int)),(8,I (q_.1:Int))]) (fun q_=>q_.2.2.2.2.2) (fun q_=>[q_.2.2.2.1]) (fun q_=>l.length-q_.1) (0,none,0,[],[],G) ⟨(Jh _),(by (try dsimp only);exact Hq _),(J0.none ES _),rfl⟩ (fun q_ hs=>?_)
 obtain ⟨i,ax,cx,rx,xx,g⟩:=q_
 obtain ⟨hle,hi,hrx,hxx⟩:=hs
 dsimp only at hle hi hrx hxx
 dsimp only
 refine Jg [0] [(9,Bo (decide ((i:Int)<(l.length:Int))))] (Jf (Jm (decide ((i:Int)<(l.length:Int))) (fun h1=>?_) (fun h1=>?_)))
 refine Jq (Jc (Jf (Jx (Jf (Jd ?_)))))
 obtain ⟨b1,o1,rfl⟩:=RS.addr (h_l.mono hle) (k:=i) (by omega)
 obtain ⟨x1,hx1⟩:=QW (l:=l) (k:=i) (by omega)
 obtain ⟨_,⟨rfl,w1⟩,hc1⟩:=RS.get (h_l.mono hle) hx1
 refine JY (b:=b1) (off:=o1) (len:=l.length) (cap:=c_l) (ik:=.i64) 10 3 1 i J5 (JR 11 3 (cs:=[I x1]) 0 (I x1) hc1 (Jb [0] [(5,I x1)] (Je (Jc (Jd (Jb [0,0] [(12,Sl ax xx.length cx),(13,I x1)] (Jb3 14 (Sr (Lib.itoa x1)) hT (JfY g x1 w1) (Ki 15 1 #[Sr (Lib.itoa x1)] 9 (fun b2=>Qr (b:=b2) (cs:=[Sr (Lib.itoa x1)]) 16 9 1 0 (E:=ES) (Lib.itoa x1) hrx ⟨rfl,(by have q_:=JbS x1;omega)⟩ (by have q_:=congrArg Hv hxx;simp only [Hj,Hk] at q_;(try simp only [EI]);omega) (by have q_:=congrArg Hv hxx;simp only [Hj,Hk] at q_;(try simp only [ES]);omega) (fun a1 c1 r1 hr1=>Jb [0] [(3,Sl a1 ((xx++[Lib.itoa x1]).length) c1)] (Je (JN (Jc (Jd (Jb [0,0] [(8,I (Hh.wrap ((i:Int)+1)))] (Kp 8 ((i:Int)+1) J5 (Je ?_)))))))))))))))))
 exact QA [r1] (Qf (i+1,a1,c1,r1,xx++[Lib.itoa x1],g) ⟨(Ja hle (Jh _)),J5,hr1,(by (try dsimp only);rw [hxx,JnT hx1])⟩ (by (try dsimp only);omega))
 refine KW (J1 (J8 (JT (Jc (Jg [0,0] [(2,Sl ax xx.length cx)] (Jo ?_))))))
 have hf1:(0:Int)=0∧l.map Lib.itoa=xx:=by
  have q_:=Hl (i:=i) (l:=l) (by omega);rw [q_] at hxx;exact ⟨rfl,hxx.symm⟩
 refine Jp [0] [Sl ax xx.length cx] (bpx (JB [rx] hle ?_))
 rw [hf1.2]
 try dsimp only
 exact ⟨hf1.1,ax,cx,rx,rfl,hrx,rfl⟩
theorem Jfh (G:J4) (a_l:Ba) (c_l:Nat) (p:KV) (h_l:RS Wr G a_l c_l [p]) (n:Nat) (hn:n≤1000):VB Tryz.prog 19 #[Sl a_l 1 c_l,I (n:Int)] G [] (fun u G' L'=>∃ a' c' r,u=Sl a' (Hb n p).length c'∧J0 Wr G' a' c' (Hb n p) r∧L'=[r]):=by
 obtain ⟨bx,ox,rfl⟩:=RS.addr h_l (k:=0) (by simp)
 obtain ⟨csx,h_p,hcx⟩:=RS.get h_l (k:=0) (x:=p) rfl
 have h1x:=Wr.one h_p
 obtain ⟨a1,c1,a2,c2,a3,c3,a4,c4,rfl,_,_,_,_,_,_,_,_,_,_,_,_,_,_,_,_⟩:=id h_p
 rw [Nat.zero_mul,Nat.add_zero] at hcx
 refine JS Tryz.func19 48 [(0,Sl (At bx ox) 1 c_l),(1,I (n:Int))] rfl (fun w0 G0=>?_)
 refine Jg [0] [] (Jf (Jg [0,0] [(10,Bo (decide ((n:Int)<0)))] (Jm (decide ((n:Int)<0)) (fun h1=>?_) (fun h1=>?_))))
 exfalso;omega
 refine Jq (Jc (Jf (Jd (Jb [0,0,0,0,0] [(15,U (Hp.wrap (1:Int))),(17,U (Hp.wrap (n:Int)))] (Jbk 17 (n:Int) J5 (Jl 18 (.tuple #[U 0,U (n:Int)]) (JjY (n:Int) J5 G) (Jb [0,0,0,0,0] [(5,U 0),(6,U (n:Int))] (Je (Jc (Jf (Jg [0,0,0,0,0,0] [(26,Bo (decide ((n:Int) > 9223372036854775807)))] (Jm (decide ((n:Int) > 9223372036854775807)) (fun h2=>?_) (fun h2=>?_)))))))))))))
 exfalso;omega
 refine Jq (Jc (Jf (Jd (Jb [0,0] [(29,I (Hh.wrap (n:Int)))] (Kp 29 (n:Int) J5 (Jgx (z:=(.agg #[I 0,I 0,Sr ([]),Sl none 0 0,I 0,I 0,I 0,I 0,Sl none 0 0,I 0,U 0,U 0,I 0,Sr ([]),Sl none 0 0,Sl none 0 0])) (bytes:=208) 30 38 53 n 16 J5 J5 (by kernel_rfl) (fun bz Fz hFz=>Jb [0] [(7,Sl (At bz 0) n n)] (Je (Jc (Jf (Jd (Jb [0,0] [(31,Sl (At bz 0) n n),(32,Sl (At bx ox) 1 c_l)] (V9 (b:=bz) (off:=0) (p:=0) (nd:=n) (cd:=n) (bs:=bx) (os:=ox) (ns:=1) (cs:=c_l) (F:=Fz) 33 0 16 (Jgy (WY p a1 c1 a2 c2 a3 c3 a4 c4) n) (Jcp _ _) (by rw [Jcp,hFz,Nat.zero_add];exact Nat.mul_le_mul_right _ (Nat.min_le_right 1 n)) (fun u hu=>h1x u (JjX hu)) (Jmv hcx) (Jb [0] [(8,I ((He 1 n:Nat):Int))] (Je (Jc (Jf (Jx ?_))))))))))))))))))
 refine Qb (σ:=Nat×Bv) (fun q_=>(Jdk (WY p a1 c1 a2 c2 a3 c3 a4 c4) n q_.1 q_.2)) (fun q_=>[(7,Sl (At bz 0) n n),(8,I (q_.1:Int))]) (fun q_=>G) (fun q_=>[[Sg bz 0 q_.2]]) (fun q_=>n-q_.1) ((He 1 n),(QV Fz 0 (Jgy (WY p a1 c1 a2 c2 a3 c3 a4 c4) n))) (.start hFz) (fun q_ hs=>?_)
 obtain ⟨k,F⟩:=q_
 have hI:=hs
 dsimp only at hI
 dsimp only
 refine Jf (Jg [0,0,0,0] [(37,Bo (decide ((k:Int)<(n:Int))))] (Jm (decide ((k:Int)<(n:Int))) (fun h3=>?_) (fun h3=>?_)))
 refine Jq (Jc (Jx (Kt [7] (Wz [(0,I (k:Int)),(1,Sl (At bz 0) n n),(2,I (k:Int)),(3,Sl (At bz (0+k*16)) (n-k) (n-k)),(4,Sl (At bz 0) n n),(5,I (k:Int)),(6,Sl (At bz 0) k n)] (JL [] [(0,0),(1,0),(2,0),(4,0),(5,0)] [3,6] [7] (Kb ?_ (Kb ?_ K4)) (Kb ?_ K4))))))
 refine Jr 3 41 (Sl (At bz (0+k*16)) (n-k) (n-k)) [(39,Sl (At bz 0) n n),(40,I (k:Int))] (fun X=>?_)
 exact VF (b:=bz) (off:=0) (len:=n) (cap:=n) 41 16 (some (I (k:Int))) none k n (.inr ⟨_,rfl⟩) (.inl ⟨rfl,rfl⟩) J5 J5 J5 Jn
 refine Jr 6 44 (Sl (At bz 0) k n) [(42,Sl (At bz 0) n n),(43,I (k:Int))] (fun X=>?_)
 exact Jcw (b:=bz) (off:=0) (len:=n) (cap:=n) 44 16 (some (I (k:Int))) k (.inr ⟨_,rfl⟩) J5 Jn
 refine JA 7 [(41,Sl (At bz (0+k*16)) (n-k) (n-k)),(44,Sl (At bz 0) k n)] (fun X=>?_)
 refine V9 (b:=bz) (off:=0) (p:=k*16) (nd:=n-k) (cd:=n-k) (bs:=bz) (os:=0) (ns:=k) (cs:=n) (F:=F) 45 0 16 (F.take (He k (n-k)*16)) (hI.xlen (Yo _ _).1) (by have q_:(F.take (He k (n-k)*16)).length=He k (n-k)*16:=hI.xlen (Yo _ _).1;have q1_:F.length=n*16:=hI.len;have q2_:=Yo k (n-k);omega) (hI.one (Yo _ _).1 h1x) (Jmw 0 rfl) ?_
 have e1:Hh.wrap ((k:Int)+((He k (n-k):Nat):Int))=((k+He k (n-k):Nat):Int):=(Hw _ (by (have q_:=Yo k (n-k);have q2_:=hI.le;omega))).trans (show (k:Int)+((He k (n-k):Nat):Int)=((k+He k (n-k):Nat):Int) from (Int.natCast_add _ _).symm)
 refine JC [(7,I ((He k (n-k):Nat):Int)),(8,I ((k+He k (n-k):Nat):Int)),(9,I ((k+He k (n-k):Nat):Int))] (Kq [1,2,3,4,5,6] [(0,0),(9,0)] [8] [(7,Sl (At bz 0) n n),(8,I ((k+He k (n-k):Nat):Int))] (Kb ?_ K4) ?_)
 refine Jr 8 46 (I ((k+He k (n-k):Nat):Int)) [(38,I (k:Int)),(45,I ((He k (n-k):Nat):Int))] (fun X=>?_)
 exact Qc 46 (I (Hh.wrap ((k:Int)+((He k (n-k):Nat):Int)))) (I ((k+He k (n-k):Nat):Int)) (by simp only [e1]) Jn
 exact JN (Qf (k+He k (n-k),(QV F (k*16) (F.take (He k (n-k)*16)))) (hI.next (Yo _ _).1 (by (try dsimp only);have q_:=Yo k (n-k);have q2_:=hI.le;omega)) (by (try dsimp only);have q_:=hI.pos;have q2_:=Yo k (n-k);omega))
 refine KW (J1 (J8 (JT (Jc (Jg [0,0] [(4,Sl (At bz 0) n n)] (Jo ?_))))))
 have hrw:=hI.row (E:=Wr) (G:=G) (x:=p) (b:=bz) (by omega) h_p (by omega)
 refine Jc6 4 (Sl (At bz 0) ((Hb n p).length) n) (show (Sl (At bz 0) n n:Value)=Sl (At bz 0) ((Hb n p).length) n by simp only [Hm]) (Jk 0 ?_)
 have hf1:Hb n p=(Hb n p):=by
  rfl
 refine Jp [0] [Sl (At bz 0) ((Hb n p).length) n] (JB [[Sg bz 0 F]] (Jh _) ?_)
 rw [hf1]
 try dsimp only
 exact ⟨(At bz 0),n,([Sg bz 0 F]),rfl,hrw,rfl⟩
structure KD where
 setup:Ky
 deeds:List KV
abbrev Kj (x:KD) (a0:Ba) (c0:Nat) (a1:Ba) (c1:Nat) (a2:Ba) (c2:Nat):Bv:=[Sl a0 x.setup.names.length c0,Sl a1 x.setup.keys.length c1,I x.setup.most,I x.setup.batch,I x.setup.every,I x.setup.least,I x.setup.top,I x.setup.lost,I x.setup.reach,Sl a2 x.deeds.length c2]
abbrev vDesk (x:KD) (a0:Ba) (c0:Nat) (a1:Ba) (c1:Nat) (a2:Ba) (c2:Nat):Value:=.agg #[Sl a0 x.setup.names.length c0,Sl a1 x.setup.keys.length c1,I x.setup.most,I x.setup.batch,I x.setup.every,I x.setup.least,I x.setup.top,I x.setup.lost,I x.setup.reach,Sl a2 x.deeds.length c2]
def Zw (t:KD) (s:Ky):KD×Int:=if t.deeds.length > 0 then (t,9) else if ¬ (Js s []).2.2=0 then (t,(Js s []).2.2) else (⟨s,t.deeds⟩,0)
theorem JnU {t:KD} {s:Ky} (h:t.deeds.length > 0):(Zw t s).2=9:=by unfold Zw;rw [if_pos h]
theorem JpP {t:KD} {s:Ky} (h:¬ t.deeds.length > 0) (h2:¬ (Js s []).2.2=0):(Zw t s).2=(Js s []).2.2:=by unfold Zw;rw [if_neg h,if_pos h2]
theorem Jmz {t:KD} {s:Ky} (h:¬ t.deeds.length > 0) (h2:(Js s []).2.2=0):(Zw t s).2=0∧(Zw t s).1=⟨s,t.deeds⟩:=by unfold Zw;rw [if_neg h,if_neg (by rw [Hu];exact h2)];exact ⟨rfl,rfl⟩
def ZU (t:KD) (l:List KV):KD×Int:=if (l.length:Int) > 200-t.deeds.length then (t,2) else (⟨t.setup,t.deeds++l⟩,0)
theorem JpQ {t:KD} {l:List KV} (h:(l.length:Int) > 200-t.deeds.length):(ZU t l).2=2:=by unfold ZU;rw [if_pos h]
theorem JmA {t:KD} {l:List KV} (h:¬ (l.length:Int) > 200-t.deeds.length):(ZU t l).2=0∧(ZU t l).1=⟨t.setup,t.deeds++l⟩:=by unfold ZU;rw [if_neg h];exact ⟨rfl,rfl⟩
def cmdT:Bs:=[[99,108,101,114,107],[112,111,108,108,115],[114,101,97,99,104],[111,119,110,101,114],[119,97,110,116],[102,97,116,101],[116,105,99,107],[110,111,119],[108,111,111,107],[101,118,101,110,116,115],[115,101,101,110],[109,97,114,107]]
def KH (w:Bb):Nat:=cmdT.findIdx (fun x=>decide (w=x))
def ZY (c:Nat):Int:=[3,3,1,2,2,-1,1,0,2,0,1,0][c]?.getD 0
def Jag (c:Nat):FuncId:=[78,79,80,81,82,83,84,85,86,87,88,89][c]?.getD 0
theorem JpR (G:J4) (w:Bb):JaG Tryz.prog 48 #[Sr w] G [] (fun u _ L'=>(KH w<12)∧u=.agg #[I (ZY (KH w)),Fv (Jag (KH w)) #[]]∧L'=[]) (fun u _ L'=>(KH w=12)∧u=VM 1∧L'=[]):=by
 refine ZG Tryz.func48 42 [(0,Sr w)] rfl (fun w0 G0 hT=>Jf (Jd (Jv 2 #[I 0,.nilFunc] 127 (fun b1=>Je (Jc (Jf (Jg [0] [(3,Sr w)] (Jx (Jg [0,0] [(4,Bo ((B w).toList == (B ([99,108,101,114,107])).toList))] (Wa 4 (Bo (w == [99,108,101,114,107])) (show (Bo ((B w).toList == (B ([99,108,101,114,107])).toList):Value)=Bo (w == [99,108,101,114,107]) by simp only [QT]) (Jm (w == [99,108,101,114,107]) (fun h1=>?_) (fun h1=>?_))))))))))))
 refine QF [0,3] [] [[Sg b1 0 [I 3,Fv 78 #[]]]] (Jo (Ju (Jj (Jp [0] [.agg #[I 3,Fv 78 #[]]] (bpx (JB [] (Jh _) ?_))))))
 subst h1;exact ⟨by decide,rfl,rfl⟩
 refine Jg [0,0] [(7,Bo ((B w).toList == (B ([112,111,108,108,115])).toList))] (Wa 7 (Bo (w == [112,111,108,108,115])) (show (Bo ((B w).toList == (B ([112,111,108,108,115])).toList):Value)=Bo (w == [112,111,108,108,115]) by simp only [QT]) (Jm (w == [112,111,108,108,115]) (fun h2=>?_) (fun h2=>?_)))
 refine QF [0,3] [] [[Sg b1 0 [I 3,Fv 79 #[]]]] (Jo (Ju (Jj (Jp [0] [.agg #[I 3,Fv 79 #[]]] (bpx (JB [] (Jh _) ?_))))))
 subst h2;exact ⟨by decide,rfl,rfl⟩
 refine Jg [0,0] [(10,Bo ((B w).toList == (B ([114,101,97,99,104])).toList))] (Wa 10 (Bo (w == [114,101,97,99,104])) (show (Bo ((B w).toList == (B ([114,101,97,99,104])).toList):Value)=Bo (w == [114,101,97,99,104]) by simp only [QT]) (Jm (w == [114,101,97,99,104]) (fun h3=>?_) (fun h3=>?_)))
 refine QF [0,3] [] [[Sg b1 0 [I 1,Fv 80 #[]]]] (Jo (Ju (Jj (Jp [0] [.agg #[I 1,Fv 80 #[]]] (bpx (JB [] (Jh _) ?_))))))
 subst h3;exact ⟨by decide,rfl,rfl⟩
 refine Jg [0,0] [(13,Bo ((B w).toList == (B ([111,119,110,101,114])).toList))] (Wa 13 (Bo (w == [111,119,110,101,114])) (show (Bo ((B w).toList == (B ([111,119,110,101,114])).toList):Value)=Bo (w == [111,119,110,101,114]) by simp only [QT]) (Jm (w == [111,119,110,101,114]) (fun h4=>?_) (fun h4=>?_)))
 refine QF [0,3] [] [[Sg b1 0 [I 2,Fv 81 #[]]]] (Jo (Ju (Jj (Jp [0] [.agg #[I 2,Fv 81 #[]]] (bpx (JB [] (Jh _) ?_))))))
 subst h4;exact ⟨by decide,rfl,rfl⟩
 refine Jg [0,0] [(16,Bo ((B w).toList == (B ([119,97,110,116])).toList))] (Wa 16 (Bo (w == [119,97,110,116])) (show (Bo ((B w).toList == (B ([119,97,110,116])).toList):Value)=Bo (w == [119,97,110,116]) by simp only [QT]) (Jm (w == [119,97,110,116]) (fun h5=>?_) (fun h5=>?_)))
 refine QF [0,3] [] [[Sg b1 0 [I 2,Fv 82 #[]]]] (Jo (Ju (Jj (Jp [0] [.agg #[I 2,Fv 82 #[]]] (bpx (JB [] (Jh _) ?_))))))
 subst h5;exact ⟨by decide,rfl,rfl⟩
 refine Jg [0,0] [(19,Bo ((B w).toList == (B ([102,97,116,101])).toList))] (Wa 19 (Bo (w == [102,97,116,101])) (show (Bo ((B w).toList == (B ([102,97,116,101])).toList):Value)=Bo (w == [102,97,116,101]) by simp only [QT]) (Jm (w == [102,97,116,101]) (fun h6=>?_) (fun h6=>?_)))
 refine QF [0,3] [] [[Sg b1 0 [I (-1),Fv 83 #[]]]] (Jo (Ju (Jj (Jp [0] [.agg #[I (-1),Fv 83 #[]]] (bpx (JB [] (Jh _) ?_))))))
 subst h6;exact ⟨by decide,rfl,rfl⟩
 refine Jg [0,0] [(22,Bo ((B w).toList == (B ([116,105,99,107])).toList))] (Wa 22 (Bo (w == [116,105,99,107])) (show (Bo ((B w).toList == (B ([116,105,99,107])).toList):Value)=Bo (w == [116,105,99,107]) by simp only [QT]) (Jm (w == [116,105,99,107]) (fun h7=>?_) (fun h7=>?_)))
 refine QF [0,3] [] [[Sg b1 0 [I 1,Fv 84 #[]]]] (Jo (Ju (Jj (Jp [0] [.agg #[I 1,Fv 84 #[]]] (bpx (JB [] (Jh _) ?_))))))
 subst h7;exact ⟨by decide,rfl,rfl⟩
 refine Jg [0,0] [(25,Bo ((B w).toList == (B ([110,111,119])).toList))] (Wa 25 (Bo (w == [110,111,119])) (show (Bo ((B w).toList == (B ([110,111,119])).toList):Value)=Bo (w == [110,111,119]) by simp only [QT]) (Jm (w == [110,111,119]) (fun h8=>?_) (fun h8=>?_)))
 refine QF [0,3] [] [[Sg b1 0 [I 0,Fv 85 #[]]]] (Jo (Ju (Jj (Jp [0] [.agg #[I 0,Fv 85 #[]]] (bpx (JB [] (Jh _) ?_))))))
 subst h8;exact ⟨by decide,rfl,rfl⟩
 refine Jg [0,0] [(28,Bo ((B w).toList == (B ([108,111,111,107])).toList))] (Wa 28 (Bo (w == [108,111,111,107])) (show (Bo ((B w).toList == (B ([108,111,111,107])).toList):Value)=Bo (w == [108,111,111,107]) by simp only [QT]) (Jm (w == [108,111,111,107]) (fun h9=>?_) (fun h9=>?_)))
 refine QF [0,3] [] [[Sg b1 0 [I 2,Fv 86 #[]]]] (Jo (Ju (Jj (Jp [0] [.agg #[I 2,Fv 86 #[]]] (bpx (JB [] (Jh _) ?_))))))
 subst h9;exact ⟨by decide,rfl,rfl⟩
 refine Jg [0,0] [(31,Bo ((B w).toList == (B ([101,118,101,110,116,115])).toList))] (Wa 31 (Bo (w == [101,118,101,110,116,115])) (show (Bo ((B w).toList == (B ([101,118,101,110,116,115])).toList):Value)=Bo (w == [101,118,101,110,116,115]) by simp only [QT]) (Jm (w == [101,118,101,110,116,115]) (fun h10=>?_) (fun h10=>?_)))
 refine QF [0,3] [] [[Sg b1 0 [I 0,Fv 87 #[]]]] (Jo (Ju (Jj (Jp [0] [.agg #[I 0,Fv 87 #[]]] (bpx (JB [] (Jh _) ?_))))))
 subst h10;exact ⟨by decide,rfl,rfl⟩
 refine Jg [0,0] [(34,Bo ((B w).toList == (B ([115,101,101,110])).toList))] (Wa 34 (Bo (w == [115,101,101,110])) (show (Bo ((B w).toList == (B ([115,101,101,110])).toList):Value)=Bo (w == [115,101,101,110]) by simp only [QT]) (Jm (w == [115,101,101,110]) (fun h11=>?_) (fun h11=>?_)))
 refine QF [0,3] [] [[Sg b1 0 [I 1,Fv 88 #[]]]] (Jo (Ju (Jj (Jp [0] [.agg #[I 1,Fv 88 #[]]] (bpx (JB [] (Jh _) ?_))))))
 subst h11;exact ⟨by decide,rfl,rfl⟩
 refine Jg [0,0] [(37,Bo ((B w).toList == (B ([109,97,114,107])).toList))] (Wa 37 (Bo (w == [109,97,114,107])) (show (Bo ((B w).toList == (B ([109,97,114,107])).toList):Value)=Bo (w == [109,97,114,107]) by simp only [QT]) (Jm (w == [109,97,114,107]) (fun h12=>?_) (fun h12=>?_)))
 refine QF [0,3] [] [[Sg b1 0 [I 0,Fv 89 #[]]]] (Jo (Ju (Jj (Jp [0] [.agg #[I 0,Fv 89 #[]]] (bpx (JB [] (Jh _) ?_))))))
 subst h12;exact ⟨by decide,rfl,rfl⟩
 refine Jq (JN (Jc (Jf (Jd (K2 (Ls:=[]) (Lr:=[[Sg b1 0 [I 0,.nilFunc]]]) 40 hT ((Z2 G 1).frame) (fun v G1 L1 hl1 hp=>?_) (fun v G1 L1 hl1 hp=>?_))))))
 obtain ⟨_,rfl,rfl⟩:=hp
 exact Km (Zb (Jcx [] hl1 (⟨by unfold KH cmdT;simp only [List.findIdx_cons];simp_all,rfl,rfl⟩)))
 obtain ⟨he1,rfl,rfl⟩:=hp
 exact absurd he1 (by decide)
abbrev Jbf (s:Ky):=Js s ([]:List KV)
theorem JgC (G:J4) (b:Nat) (t:KD) (a_0:Ba) (c_0:Nat) (a_1:Ba) (c_1:Nat) (a_9:Ba) (c_9:Nat) (r_9:Bg) (h_0:RS ES G a_0 c_0 t.setup.names) (h_1:RS EU G a_1 c_1 t.setup.keys) (h_2:rI t.setup.most) (h_3:rI t.setup.batch) (h_4:rI t.setup.every) (h_5:rI t.setup.least) (h_6:rI t.setup.top) (h_7:rI t.setup.lost) (h_8:rI t.setup.reach) (h_9:J0 Wr G a_9 c_9 t.deeds r_9) (vs_s:Bv) (s:Ky) (h_s:Jic.R G vs_s s) (ht:t.deeds.length≤200):ZV Tryz.prog 135 #[Pt b 0,.agg vs_s.toArray] G [[Sg b 0 [Sl a_0 t.setup.names.length c_0,Sl a_1 t.setup.keys.length c_1,I t.setup.most,I t.setup.batch,I t.setup.every,I t.setup.least,I t.setup.top,I t.setup.lost,I t.setup.reach,Sl a_9 t.deeds.length c_9]],r_9] (fun u G' L'=>((Zw t s).2=0)∧∃ (az1:Ba) (cz2:Nat) (az3:Ba) (cz4:Nat) (az5:Ba) (cz6:Nat) (az7:Ba) (cz8:Nat) (rz9:Bg),u=Sl az1 (([]:Bs).length) cz2∧(RS ES G' az1 cz2 ([]:Bs))∧(RS ES G' az3 cz4 (((Zw t s).1).setup.names))∧(RS EU G' az5 cz6 (((Zw t s).1).setup.keys))∧(rI (((Zw t s).1).setup.most))∧(rI (((Zw t s).1).setup.batch))∧(rI (((Zw t s).1).setup.every))∧(rI (((Zw t s).1).setup.least))∧(rI (((Zw t s).1).setup.top))∧(rI (((Zw t s).1).setup.lost))∧(rI (((Zw t s).1).setup.reach))∧(J0 Wr G' az7 cz8 (((Zw t s).1).deeds) rz9)∧L'=[[Sg b 0 [Sl az3 ((((Zw t s).1).setup.names).length) cz4,Sl az5 ((((Zw t s).1).setup.keys).length) cz6,I (((Zw t s).1).setup.most),I (((Zw t s).1).setup.batch),I (((Zw t s).1).setup.every),I (((Zw t s).1).setup.least),I (((Zw t s).1).setup.top),I (((Zw t s).1).setup.lost),I (((Zw t s).1).setup.reach),Sl az7 ((((Zw t s).1).deeds).length) cz8]],rz9]) (fun u _ L'=>(¬ (Zw t s).2=0)∧u=VM ((Zw t s).2)∧L'=[[Sg b 0 [Sl a_0 t.setup.names.length c_0,Sl a_1 t.setup.keys.length c_1,I t.setup.most,I t.setup.batch,I t.setup.every,I t.setup.least,I t.setup.top,I t.setup.lost,I t.setup.reach,Sl a_9 t.deeds.length c_9]],r_9]):=by
 obtain ⟨a1,c1,a2,c2,rfl,hs1,hs2,w1,w2,w3,w4,w5,w6,w7⟩:=h_s
 intro Lr
 refine ZG Tryz.func135 27 [(0,Pt b 0),(1,(Va s a1 c1 a2 c2))] rfl (fun w0 G0 hT=>?_)
 show TC _ _ _ _ _ ([Sg b 0 (Kj t a_0 c_0 a_1 c_1 a_9 c_9)]::r_9::Lr)
 refine Jf (Jd (Jv 3 #[Sl a1 s.names.length c1,Sl a2 s.keys.length c2,I s.most,I s.batch,I s.every,I s.least,I s.top,I s.lost,I s.reach] 72 (fun b1=>Jb [0] [] (Je (Jc (Jf (Jg [0,0,0,4,0,0] [(13,Bo (decide ((t.deeds.length:Int) > 0)))] (Jm (decide ((t.deeds.length:Int) > 0)) (fun h1=>?_) (fun h1=>?_)))))))))
 refine Jd (K2 (Ls:=[]) (Lr:=([Sg b1 0 (WH s a1 c1 a2 c2)]::[Sg b 0 (Kj t a_0 c_0 a_1 c_1 a_9 c_9)]::r_9::Lr)) 14 hT ((Z2 G 9).frame) (fun v G1 L1 hl1 hp=>?_) (fun v G1 L1 hl1 hp=>?_))
 obtain ⟨hne1,rfl,rfl⟩:=hp
 refine Km ?_
 have hp1:(Zw t s).2=9:=by
  exact JnU (by omega)
 refine Zb (WF (Lr:=Lr) [[Sg b 0 (Kj t a_0 c_0 a_1 c_1 a_9 c_9)],r_9] hl1 ?_)
 rw [hp1];exact ⟨hne1,rfl,rfl⟩
 obtain ⟨he1,rfl,rfl⟩:=hp
 exact absurd he1 (by decide)
 refine Jq (Jc (Jf (Jd (Jb [2] [(16,(Va s a1 c1 a2 c2))] (Jkw (Jw 0 (Qq (Ls:=[[]]) (Lr:=([Sg b1 0 (WH s a1 c1 a2 c2)]::[Sg b 0 (Kj t a_0 c_0 a_1 c_1 a_9 c_9)]::r_9::Lr)) 17 (JeJ G (WH s a1 c1 a2 c2) s (⟨a1,c1,a2,c2,rfl,hs1,hs2,w1,w2,w3,w4,w5,w6,w7⟩) none 0 ([]:List KV) ([]) (J0.none Wr _)) (fun v G2 L1 hl2 hp=>?_))))))))
 obtain ⟨a3,c3,a4,c4,a5,c5,a6,c6,a7,c7,a8,c8,a9,c9,rfl,_,_,_,_,_,_,_,_,_,_,_,_,rfl⟩:=hp
 refine Jb [0,0,0,0] [(18,(Vf (Jbf s).1 a3 c3 a4 c4 a5 c5 a6 c6 a7 c7 a8 c8)),(19,Sl a9 (((Jbf s).2.1).length) c9),(20,I ((Jbf s).2.2))] (Jv 5 #[I 0,Sl none 0 0,I 0,I 0,I 0,Sl none 0 0,Sl none 0 0,Sl none 0 0,Sl none 0 0,I 0,Sl none 0 0] 67 (fun b2=>JX [3,0,0] [(7,I ((Jbf s).2.2))] ([Sg b2 0 (ZW (Jbf s).1 a3 c3 a4 c4 a5 c5 a6 c6 a7 c7 a8 c8)]::[]::[Sg b1 0 (WH s a1 c1 a2 c2)]::[Sg b 0 (Kj t a_0 c_0 a_1 c_1 a_9 c_9)]::r_9::Lr) (Je (Jc (Jf (Jd (Jb [0] [(21,I ((Jbf s).2.2))] (K2 (Ls:=[]) (Lr:=([Sg b2 0 (ZW (Jbf s).1 a3 c3 a4 c4 a5 c5 a6 c6 a7 c7 a8 c8)]::[]::[Sg b1 0 (WH s a1 c1 a2 c2)]::[Sg b 0 (Kj t a_0 c_0 a_1 c_1 a_9 c_9)]::r_9::Lr)) 22 hT ((Z2 G2 ((Jbf s).2.2)).frame) (fun v G3 L1 hl3 hp=>?_) (fun v G3 L1 hl3 hp=>?_)))))))))
 obtain ⟨hne2,rfl,rfl⟩:=hp
 refine Km ?_
 have hp3:(Zw t s).2=(Jbf s).2.2:=by
  exact JpP J5 ‹_›
 refine Zb (WF (Lr:=Lr) [[Sg b 0 (Kj t a_0 c_0 a_1 c_1 a_9 c_9)],r_9] (Ja hl2 hl3) ?_)
 rw [hp3];exact ⟨hne2,rfl,rfl⟩
 obtain ⟨_,rfl,rfl⟩:=hp
 refine Je (Jc (QF [0,6,0,0,9] [] ([Sg b2 0 (ZW (Jbf s).1 a3 c3 a4 c4 a5 c5 a6 c6 a7 c7 a8 c8)]::[]::[Sg b1 0 (WH s a1 c1 a2 c2)]::[Sg b 0 (Kj (⟨s,t.deeds⟩:KD) a1 c1 a2 c2 a_9 c_9)]::r_9::Lr) (Jg [0] [(4,Sl none 0 0)] (Jo (Jk 4 (Jk 4 ?_))))))
 have hf1:(Zw t s).2=0∧([]:Bs)=[]∧(Zw t s).1=(⟨s,t.deeds⟩:KD):=by
  exact ⟨(Jmz J5 ‹_›).1,rfl,(Jmz J5 ‹_›).2⟩
 refine Jp [0] [Sl none 0 0] (bpx (KQ (Lr:=Lr) [[Sg b 0 (Kj (⟨s,t.deeds⟩:KD) a1 c1 a2 c2 a_9 c_9)],r_9] (Ja hl2 hl3) ?_))
 rw [hf1.2.1,hf1.2.2]
 try dsimp only
 exact ⟨hf1.1,none,0,a1,c1,a2,c2,a_9,c_9,r_9,rfl,(JP ES G3),(hs1.mono (Ja hl2 hl3)),(hs2.mono (Ja hl2 hl3)),w1,w2,w3,w4,w5,w6,w7,(h_9.mono (Ja hl2 hl3)),rfl⟩
theorem Jj7 (G:J4) (b:Nat) (t:KD) (a_0:Ba) (c_0:Nat) (a_1:Ba) (c_1:Nat) (a_9:Ba) (c_9:Nat) (r_9:Bg) (h_0:RS ES G a_0 c_0 t.setup.names) (h_1:RS EU G a_1 c_1 t.setup.keys) (h_2:rI t.setup.most) (h_3:rI t.setup.batch) (h_4:rI t.setup.every) (h_5:rI t.setup.least) (h_6:rI t.setup.top) (h_7:rI t.setup.lost) (h_8:rI t.setup.reach) (h_9:J0 Wr G a_9 c_9 t.deeds r_9) (a_l:Ba) (c_l:Nat) (l:List KV) (h_l:RS Wr G a_l c_l l) (ht:t.deeds.length≤200) (hl:l.length≤1048577):ZV Tryz.prog 138 #[Pt b 0,Sl a_l l.length c_l] G [[Sg b 0 [Sl a_0 t.setup.names.length c_0,Sl a_1 t.setup.keys.length c_1,I t.setup.most,I t.setup.batch,I t.setup.every,I t.setup.least,I t.setup.top,I t.setup.lost,I t.setup.reach,Sl a_9 t.deeds.length c_9]],r_9] (fun u G' L'=>((ZU t l).2=0)∧∃ (az1:Ba) (cz2:Nat) (az3:Ba) (cz4:Nat) (az5:Ba) (cz6:Nat) (az7:Ba) (cz8:Nat) (rz9:Bg),u=Sl az1 (([]:Bs).length) cz2∧(RS ES G' az1 cz2 ([]:Bs))∧(RS ES G' az3 cz4 (((ZU t l).1).setup.names))∧(RS EU G' az5 cz6 (((ZU t l).1).setup.keys))∧(rI (((ZU t l).1).setup.most))∧(rI (((ZU t l).1).setup.batch))∧(rI (((ZU t l).1).setup.every))∧(rI (((ZU t l).1).setup.least))∧(rI (((ZU t l).1).setup.top))∧(rI (((ZU t l).1).setup.lost))∧(rI (((ZU t l).1).setup.reach))∧(J0 Wr G' az7 cz8 (((ZU t l).1).deeds) rz9)∧L'=[[Sg b 0 [Sl az3 ((((ZU t l).1).setup.names).length) cz4,Sl az5 ((((ZU t l).1).setup.keys).length) cz6,I (((ZU t l).1).setup.most),I (((ZU t l).1).setup.batch),I (((ZU t l).1).setup.every),I (((ZU t l).1).setup.least),I (((ZU t l).1).setup.top),I (((ZU t l).1).setup.lost),I (((ZU t l).1).setup.reach),Sl az7 ((((ZU t l).1).deeds).length) cz8]],rz9]) (fun u _ L'=>(¬ (ZU t l).2=0)∧u=VM ((ZU t l).2)∧L'=[[Sg b 0 [Sl a_0 t.setup.names.length c_0,Sl a_1 t.setup.keys.length c_1,I t.setup.most,I t.setup.batch,I t.setup.every,I t.setup.least,I t.setup.top,I t.setup.lost,I t.setup.reach,Sl a_9 t.deeds.length c_9]],r_9]):=by
 intro Lr
 refine ZG Tryz.func138 24 [(0,Pt b 0),(1,Sl a_l l.length c_l)] rfl (fun w0 G0 hT=>?_)
 show TC _ _ _ _ _ ([Sg b 0 (Kj t a_0 c_0 a_1 c_1 a_9 c_9)]::r_9::Lr)
 refine Jg [0] [] (Jf (Jg [0,0,0,0,0,2,0,0,0] [(13,Bo (decide ((l.length:Int) > Hh.wrap (200-(t.deeds.length:Int)))))] ?_))
 have e1:Hh.wrap (200-(t.deeds.length:Int))=200-(t.deeds.length:Int):=Hw _ (by omega)
 refine Wa 13 (Bo (decide ((l.length:Int) > 200-(t.deeds.length:Int)))) (show (Bo (decide ((l.length:Int) > Hh.wrap (200-(t.deeds.length:Int)))):Value)=Bo (decide ((l.length:Int) > 200-(t.deeds.length:Int))) by simp only [e1]) ?_
 clear e1
 refine Jm (decide ((l.length:Int) > 200-(t.deeds.length:Int))) (fun h1=>?_) (fun h1=>?_)
 refine Jd (K2 (Ls:=[]) (Lr:=([Sg b 0 (Kj t a_0 c_0 a_1 c_1 a_9 c_9)]::r_9::Lr)) 14 hT ((Z2 G 2).frame) (fun v G1 L1 hl1 hp=>?_) (fun v G1 L1 hl1 hp=>?_))
 obtain ⟨hne1,rfl,rfl⟩:=hp
 refine Km ?_
 have hp1:(ZU t l).2=2:=by
  exact JpQ (by omega)
 refine Zb (WF (Lr:=Lr) [[Sg b 0 (Kj t a_0 c_0 a_1 c_1 a_9 c_9)],r_9] hl1 ?_)
 rw [hp1];exact ⟨hne1,rfl,rfl⟩
 obtain ⟨he1,rfl,rfl⟩:=hp
 exact absurd he1 (by decide)
 refine Jq (Jc (Jf (Jd (Jb [0,0,0,0,2,0] [(15,Pt b 0),(19,Sl a_9 t.deeds.length c_9),(20,Sl a_l l.length c_l)] (Jax 21 53 1 (E:=Wr) h_9 h_l J5 (by simp only [Wr];omega) (fun a1 c1 r1 hr1=>JX [0,0,3] [] ([Sg b 0 (Kj (⟨t.setup,(t.deeds++l)⟩:KD) a_0 c_0 a_1 c_1 a1 c1)]::r1::Lr) (Je (Jc (Jg [0] [(4,Sl none 0 0)] (Jo (Jk 1 (Jk 1 ?_))))))))))))
 have hf1:(ZU t l).2=0∧([]:Bs)=[]∧(ZU t l).1=(⟨t.setup,t.deeds++l⟩:KD):=by
  exact ⟨(JmA J5).1,rfl,(JmA J5).2⟩
 refine Jp [0] [Sl none 0 0] (bpx (KQ (Lr:=Lr) [[Sg b 0 (Kj (⟨t.setup,(t.deeds++l)⟩:KD) a_0 c_0 a_1 c_1 a1 c1)],r1] (Jh _) ?_))
 rw [hf1.2.1,hf1.2.2]
 try dsimp only
 exact ⟨hf1.1,none,0,a_0,c_0,a_1,c_1,a1,c1,r1,rfl,(JP ES G),h_0,h_1,‹_›,‹_›,‹_›,‹_›,‹_›,‹_›,‹_›,hr1,rfl⟩
def nth (l:List Int) (i:Nat):Int:=l[i]?.getD 0
theorem JiL {l:List Int} {i:Nat} {x:Int} (h:l[i]? = some x):x=nth l i:=by unfold nth;rw [h];rfl
def Y9 (l:Bs) (i:Nat):Bb:=l[i]?.getD []
theorem Wn {l:Bs} {i:Nat} {x:Bb} (h:l[i]? = some x):x=Y9 l i:=by unfold Y9;rw [h];rfl
theorem JpS (l:Bs):(QQ l).1.length≤l.length:=by
 unfold QQ;split <;> simp
theorem Vk {l:Bs} (h:(QQ l).2=0):(QQ l).1.length=l.length:=by rw [(JnR h).1,Hj]
def Jfi (t:KD) (w:Bs) (f:List Int→Ky):KD×Int:=if ¬ (QQ w).2=0 then (t,(QQ w).2) else Zw t (f (QQ w).1)
theorem JhO {t:KD} {w:Bs} {f:List Int→Ky} (h:¬ (QQ w).2=0):(Jfi t w f).2=(QQ w).2:=by unfold Jfi;rw [if_pos h]
theorem JpT {t:KD} {w:Bs} {f:List Int→Ky} (h:(QQ w).2=0):Jfi t w f=Zw t (f (QQ w).1):=by unfold Jfi;rw [if_neg (by rw [Hu];exact h)]
def JpU (s:Ky) (n:List Int):Ky:=⟨s.names,s.keys,nth n 0,nth n 1,nth n 2,s.least,s.top,s.lost,s.reach⟩
def sPolls (s:Ky) (n:List Int):Ky:=⟨s.names,s.keys,s.most,s.batch,s.every,nth n 0,nth n 1,nth n 2,s.reach⟩
def JpV (s:Ky) (n:Int):Ky:=⟨s.names,s.keys,s.most,s.batch,s.every,s.least,s.top,s.lost,n⟩
def W4 (t:KD) (w:Bs):KD×Int:=Jfi t w (JpU t.setup)
def JpW (t:KD) (w:Bs):KD×Int:=Jfi t w (sPolls t.setup)
theorem JhP {t:KD} {w:Bs} {x y z:Int} (he:(QQ w).2=0) (h0:(QQ w).1[0]? = some x) (h1:(QQ w).1[1]? = some y) (h2:(QQ w).1[2]? = some z):W4 t w=Zw t ⟨t.setup.names,t.setup.keys,x,y,z,t.setup.least,t.setup.top,t.setup.lost,t.setup.reach⟩:=by
 unfold W4;rw [JpT he,JpU,← JiL h0,← JiL h1,← JiL h2]
def Jlr (t:KD) (w:Bs):KD×Int:=if ¬ (Ka (Y9 w 0)).2=0 then (t,(Ka (Y9 w 0)).2) else Zw t (JpV t.setup (Ka (Y9 w 0)).1)
abbrev Jls:JQ:=⟨0,0,0,0,[],⟨⟨0,0,0,0⟩,⟨[],[],[]⟩⟩⟩
def WB (t:KD) (w:Bs):KD×Int:=if ¬ (Ka (Y9 w 1)).2=0 then (t,(Ka (Y9 w 1)).2) else Zw t ⟨t.setup.names++[Y9 w 0],t.setup.keys++[(Ka (Y9 w 1)).1],t.setup.most,t.setup.batch,t.setup.every,t.setup.least,t.setup.top,t.setup.lost,t.setup.reach⟩
def Zx (t:KD) (w:Bs):KD×Int:=if ¬ (Ka (Y9 w 0)).2=0 then (t,(Ka (Y9 w 0)).2) else ZU t [⟨1,(Ka (Y9 w 0)).1,Y9 w 1,[],Jls⟩]
def JpX (t:KD) (w:Bs):KD×Int:=if ¬ (QQ w).2=0 then (t,(QQ w).2) else ZU t [⟨2,0,[],(QQ w).1,Jls⟩]
def Zy (t:KD) (w:Bs):KD×Int:=if ¬ (Ka (Y9 w 0)).2=0 then (t,(Ka (Y9 w 0)).2) else ZU t (Hb (if 201<(Ka (Y9 w 0)).1 then 201 else (Ka (Y9 w 0)).1).toNat ⟨4,0,[],[],Jls⟩)
theorem JgD {t:KD} {w:Bs} {y:Bb} (h:w[1]? = some y) (he:¬ (Ka y).2=0):(WB t w).2=(Ka y).2:=by unfold WB;rw [← Wn h,if_pos he]
theorem JcG {t:KD} {w:Bs} {x y:Bb} (h:w[1]? = some y) (h0:w[0]? = some x) (he:(Ka y).2=0):WB t w=Zw t ⟨t.setup.names++[x],t.setup.keys++[(Ka y).1],t.setup.most,t.setup.batch,t.setup.every,t.setup.least,t.setup.top,t.setup.lost,t.setup.reach⟩:=by unfold WB;rw [← Wn h,← Wn h0,if_neg (by omega)]
theorem JnV {t:KD} {w:Bs} {y:Bb} (h:w[0]? = some y) (he:¬ (Ka y).2=0):(Zx t w).2=(Ka y).2:=by unfold Zx;rw [← Wn h,if_pos he]
theorem Jj8 {t:KD} {w:Bs} {x y:Bb} (h:w[0]? = some y) (h0:w[1]? = some x) (he:(Ka y).2=0):Zx t w=ZU t [⟨1,(Ka y).1,x,[],Jls⟩]:=by unfold Zx;rw [← Wn h,← Wn h0,if_neg (by omega)]
theorem JnW {t:KD} {w:Bs} {y:Bb} (h:w[0]? = some y) (he:¬ (Ka y).2=0):(Zy t w).2=(Ka y).2:=by unfold Zy;rw [← Wn h,if_pos he]
theorem Jj9 {t:KD} {w:Bs} {y:Bb} {k:Nat} (h:w[0]? = some y) (he:(Ka y).2=0) (hk:(if 201<(Ka y).1 then 201 else (Ka y).1)=(k:Int)):Zy t w=ZU t (Hb k ⟨4,0,[],[],Jls⟩):=by unfold Zy;rw [← Wn h,if_neg (by omega),hk];rfl
set_option maxRecDepth 20000 in
theorem Jlt (G:J4) (b:Nat) (t:KD) (a_0:Ba) (c_0:Nat) (a_1:Ba) (c_1:Nat) (a_9:Ba) (c_9:Nat) (r_9:Bg) (h_0:RS ES G a_0 c_0 t.setup.names) (h_1:RS EU G a_1 c_1 t.setup.keys) (h_2:rI t.setup.most) (h_3:rI t.setup.batch) (h_4:rI t.setup.every) (h_5:rI t.setup.least) (h_6:rI t.setup.top) (h_7:rI t.setup.lost) (h_8:rI t.setup.reach) (h_9:J0 Wr G a_9 c_9 t.deeds r_9) (a_w:Ba) (c_w:Nat) (w:Bs) (h_w:RS ES G a_w c_w w) (hw:w.length=3) (hs:∀ s∈w,s.length≤1048576) (ht:t.deeds.length≤200) (hn:t.setup.names.length≤1000) (hk:t.setup.keys.length≤1000):ZV Tryz.prog 78 #[Pt b 0,Sl a_w w.length c_w] G [[Sg b 0 [Sl a_0 t.setup.names.length c_0,Sl a_1 t.setup.keys.length c_1,I t.setup.most,I t.setup.batch,I t.setup.every,I t.setup.least,I t.setup.top,I t.setup.lost,I t.setup.reach,Sl a_9 t.deeds.length c_9]],r_9] (fun u G' L'=>((W4 t w).2=0)∧∃ (az1:Ba) (cz2:Nat) (az3:Ba) (cz4:Nat) (az5:Ba) (cz6:Nat) (az7:Ba) (cz8:Nat) (rz9:Bg),u=Sl az1 (([]:Bs).length) cz2∧(RS ES G' az1 cz2 ([]:Bs))∧(RS ES G' az3 cz4 (((W4 t w).1).setup.names))∧(RS EU G' az5 cz6 (((W4 t w).1).setup.keys))∧(rI (((W4 t w).1).setup.most))∧(rI (((W4 t w).1).setup.batch))∧(rI (((W4 t w).1).setup.every))∧(rI (((W4 t w).1).setup.least))∧(rI (((W4 t w).1).setup.top))∧(rI (((W4 t w).1).setup.lost))∧(rI (((W4 t w).1).setup.reach))∧(J0 Wr G' az7 cz8 (((W4 t w).1).deeds) rz9)∧L'=[[Sg b 0 [Sl az3 ((((W4 t w).1).setup.names).length) cz4,Sl az5 ((((W4 t w).1).setup.keys).length) cz6,I (((W4 t w).1).setup.most),I (((W4 t w).1).setup.batch),I (((W4 t w).1).setup.every),I (((W4 t w).1).setup.least),I (((W4 t w).1).setup.top),I (((W4 t w).1).setup.lost),I (((W4 t w).1).setup.reach),Sl az7 ((((W4 t w).1).deeds).length) cz8]],rz9]) (fun u _ L'=>(¬ (W4 t w).2=0)∧u=VM ((W4 t w).2)∧L'=[[Sg b 0 [Sl a_0 t.setup.names.length c_0,Sl a_1 t.setup.keys.length c_1,I t.setup.most,I t.setup.batch,I t.setup.every,I t.setup.least,I t.setup.top,I t.setup.lost,I t.setup.reach,Sl a_9 t.deeds.length c_9]],r_9]):=by
 intro Lr
 refine ZG Tryz.func78 28 [(0,Pt b 0),(1,Sl a_w w.length c_w)] rfl (fun w0 G0 hT=>?_)
 show TC _ _ _ _ _ ([Sg b 0 (Kj t a_0 c_0 a_1 c_1 a_9 c_9)]::r_9::Lr)
 refine Jg [0] [] ?_
 refine Ym (σ:=Ba×Nat×Nat×Bg×J4) (fun q_=>(J4.le G q_.2.2.2.2)∧(J0 EI q_.2.2.2.2 q_.1 q_.2.1 ((QQ w).1) q_.2.2.2.1)∧((QQ w).2=0)) (fun q_=>[(0,Pt b 0),(5,Sl q_.1 (((QQ w).1).length) q_.2.1),(6,Pt q_.2.2.1 0)]) (fun q_=>q_.2.2.2.2) (fun q_=>([Sg q_.2.2.1 0 (WH t.setup a_0 c_0 a_1 c_1)]::q_.2.2.2.1::[Sg b 0 (Kj t a_0 c_0 a_1 c_1 a_9 c_9)]::r_9::Lr)) ?_ (fun q_ hs=>?_)
 refine Kt [1,6,8] (Wz [(0,Sl a_w w.length c_w),(2,Pt b 0),(3,Pt b 0),(4,Pt b 0),(5,(Va t.setup a_0 c_0 a_1 c_1))] (JL [] [(0,0),(2,0),(3,0),(4,0),(5,2)] [] [1,6] (Ha _) (Kb ?_ (Kb ?_ K4))))
 refine JA 1 [(7,Sl a_w w.length c_w)] (fun X=>?_)
 refine K2 (Ls:=[]) (Lr:=([Sg b 0 (Kj t a_0 c_0 a_1 c_1 a_9 c_9)]::r_9::Lr)) 8 hT ((Jd1 G a_w c_w w h_w J5 ‹_›).frame) (fun v G1 L1 hl1 hp=>?_) (fun v G1 L1 hl1 hp=>?_)
 obtain ⟨hne1,rfl,rfl⟩:=hp
 refine Km (Km ?_)
 have hp1:(W4 t w).2=(QQ w).2:=by
  exact JhO ‹_›
 refine Zb (WF (Lr:=Lr) [[Sg b 0 (Kj t a_0 c_0 a_1 c_1 a_9 c_9)],r_9] hl1 ?_)
 rw [hp1];exact ⟨hne1,rfl,rfl⟩
 obtain ⟨he2,a1,c1,r1,rfl,hr1,rfl⟩:=hp
 refine JC [(1,Sl a1 (((QQ w).1).length) c1)] (JL [0] [(2,0),(3,0),(4,0),(5,4)] [] [6] (Ha _) (Kb ?_ K4))
 refine JA 6 [] (fun X=>?_)
 refine Jv 6 #[Sl none 0 0,Sl none 0 0,I 0,I 0,I 0,I 0,I 0,I 0,I 0] 72 (fun b1=>JC [(6,Pt b1 0),(7,Sl a1 (((QQ w).1).length) c1)] (JL [0] [(2,0),(3,0),(4,0),(5,6),(7,0)] [] [8] (Ha _) (Kb ?_ K4)))
 refine JA 8 [(6,Pt b1 0),(12,(Va t.setup a_0 c_0 a_1 c_1))] (fun X=>?_)
 exact KI 0 ([Sg b1 0 (WH t.setup a_0 c_0 a_1 c_1)]::r1::[Sg b 0 (Kj t a_0 c_0 a_1 c_1 a_9 c_9)]::r_9::Lr) (J9 [] (Kq [0,2,3,4,5,7] [] [] [(0,Pt b 0),(5,Sl a1 (((QQ w).1).length) c1),(6,Pt b1 0)] (Ha _) (Q3 (a1,c1,b1,r1,G1) ⟨hl1,hr1,he2⟩)))
 refine JA 6 [] (fun X=>?_)
 refine Jv 6 #[Sl none 0 0,Sl none 0 0,I 0,I 0,I 0,I 0,I 0,I 0,I 0] 72 (fun b2=>JC [(6,Pt b2 0)] (JL [] [(0,0),(2,0),(3,0),(4,0),(5,4)] [] [1] (Ha _) (Kb ?_ K4)))
 refine JA 1 [(7,Sl a_w w.length c_w)] (fun X=>?_)
 refine K2 (Ls:=[]) (Lr:=([Sg b2 0 [Sl none 0 0,Sl none 0 0,I 0,I 0,I 0,I 0,I 0,I 0,I 0]]::[Sg b 0 (Kj t a_0 c_0 a_1 c_1 a_9 c_9)]::r_9::Lr)) 8 hT ((Jd1 G a_w c_w w h_w J5 ‹_›).frame) (fun v G2 L1 hl2 hp=>?_) (fun v G2 L1 hl2 hp=>?_)
 obtain ⟨hne2,rfl,rfl⟩:=hp
 refine Km (Km ?_)
 have hp3:(W4 t w).2=(QQ w).2:=by
  exact JhO ‹_›
 refine Zb (WF (Lr:=Lr) [[Sg b 0 (Kj t a_0 c_0 a_1 c_1 a_9 c_9)],r_9] hl2 ?_)
 rw [hp3];exact ⟨hne2,rfl,rfl⟩
 obtain ⟨he3,a2,c2,r2,rfl,hr2,rfl⟩:=hp
 refine JC [(1,Sl a2 (((QQ w).1).length) c2),(7,Sl a2 (((QQ w).1).length) c2)] (JL [0] [(2,0),(3,0),(4,0),(5,6),(7,0)] [] [8] (Ha _) (Kb ?_ K4))
 refine JA 8 [(6,Pt b2 0),(12,(Va t.setup a_0 c_0 a_1 c_1))] (fun X=>?_)
 exact KI 1 (r2::[Sg b2 0 (WH t.setup a_0 c_0 a_1 c_1)]::[Sg b 0 (Kj t a_0 c_0 a_1 c_1 a_9 c_9)]::r_9::Lr) (J9 [] (Kq [0,2,3,4,5,7] [] [] [(0,Pt b 0),(5,Sl a2 (((QQ w).1).length) c2),(6,Pt b2 0)] (Ha _) (Jk 3 (Jk 3 (Jk 2 (Jk 3 (Q3 (a2,c2,b2,r2,G2) ⟨hl2,hr2,he3⟩)))))))
 obtain ⟨a1,c1,b1,r1,G1⟩:=q_
 obtain ⟨hle1,hj1,he1⟩:=hs
 dsimp only at hle1 hj1 he1
 dsimp only
 refine JlP (E:=EI) 1 hj1 (by have q_:=JpS w;simp only [EI];omega) (fun G3 hl3 hs1=>Jf ?_)
 obtain ⟨b3,o1,rfl⟩:=RS.addr hs1 (k:=0) (by (have q_:=Vk ‹_›;omega))
 obtain ⟨x1,hx1⟩:=QW (l:=(QQ w).1) (k:=0) (by (have q_:=Vk ‹_›;omega))
 obtain ⟨_,⟨rfl,w1⟩,hc1⟩:=RS.get hs1 hx1
 obtain ⟨x2,hx2⟩:=QW (l:=(QQ w).1) (k:=1) (by (have q_:=Vk ‹_›;omega))
 obtain ⟨_,⟨rfl,w2⟩,hc2⟩:=RS.get hs1 hx2
 obtain ⟨x3,hx3⟩:=QW (l:=(QQ w).1) (k:=2) (by (have q_:=Vk ‹_›;omega))
 obtain ⟨_,⟨rfl,w3⟩,hc3⟩:=RS.get hs1 hx3
 refine Kt [10,12,14] (Wz [(0,Sl (At b3 o1) (((QQ w).1).length) c1),(1,Pt b3 (o1+0*1)),(2,I x1),(3,Sl (At b3 o1) (((QQ w).1).length) c1),(4,Pt b3 (o1+1*1)),(5,I x2),(6,Sl (At b3 o1) (((QQ w).1).length) c1),(7,Pt b3 (o1+2*1)),(8,I x3),(9,Pt b1 2)] (JL [] [(0,0),(3,0),(6,0),(9,0)] [1,2,4,5,7,8] [10] (Kb ?_ (Kb ?_ (Kb ?_ (Kb ?_ (Kb ?_ (Kb ?_ K4)))))) (Kb ?_ K4)))
 refine Jr 1 14 (Pt b3 (o1+0*1)) [(13,Sl (At b3 o1) (((QQ w).1).length) c1)] (fun X=>?_)
 exact JY (b:=b3) (off:=o1) (len:=((QQ w).1).length) (cap:=c1) (ik:=.i64) 14 3 1 0 (by (have q_:=Vk ‹_›;omega)) Jn
 refine Jr 2 15 (I x1) [(14,Pt b3 (o1+0*1))] (fun X=>?_)
 exact JR 15 3 (cs:=[I x1]) 0 (I x1) hc1 Jn
 refine Jr 4 17 (Pt b3 (o1+1*1)) [(16,Sl (At b3 o1) (((QQ w).1).length) c1)] (fun X=>?_)
 exact JY (b:=b3) (off:=o1) (len:=((QQ w).1).length) (cap:=c1) (ik:=.i64) 17 3 1 1 (by (have q_:=Vk ‹_›;omega)) Jn
 refine Jr 5 18 (I x2) [(17,Pt b3 (o1+1*1))] (fun X=>?_)
 exact JR 18 3 (cs:=[I x2]) 0 (I x2) hc2 Jn
 refine Jr 7 20 (Pt b3 (o1+2*1)) [(19,Sl (At b3 o1) (((QQ w).1).length) c1)] (fun X=>?_)
 exact JY (b:=b3) (off:=o1) (len:=((QQ w).1).length) (cap:=c1) (ik:=.i64) 20 3 1 2 (by (have q_:=Vk ‹_›;omega)) Jn
 refine Jr 8 21 (I x3) [(20,Pt b3 (o1+2*1))] (fun X=>?_)
 exact JR 21 3 (cs:=[I x3]) 0 (I x3) hc3 Jn
 refine JA 10 [(15,I x1),(22,Pt b1 2)] (fun X=>?_)
 refine KI 0 ([Sg b1 0 [Sl a_0 t.setup.names.length c_0,Sl a_1 t.setup.keys.length c_1,I x1,I t.setup.batch,I t.setup.every,I t.setup.least,I t.setup.top,I t.setup.lost,I t.setup.reach]]::[]::[Sg b 0 (Kj t a_0 c_0 a_1 c_1 a_9 c_9)]::r_9::Lr) (J9 [(11,Pt b1 3)] (JL [0,1,2,9] [(3,0),(6,0),(11,0)] [4,5,7,8] [12] (Kb ?_ (Kb ?_ (Kb ?_ (Kb ?_ K4)))) (Kb ?_ K4)))
 refine Jr 4 17 (Pt b3 (o1+1*1)) [(16,Sl (At b3 o1) (((QQ w).1).length) c1)] (fun X=>?_)
 exact JY (b:=b3) (off:=o1) (len:=((QQ w).1).length) (cap:=c1) (ik:=.i64) 17 3 1 1 (by (have q_:=Vk ‹_›;omega)) Jn
 refine Jr 5 18 (I x2) [(17,Pt b3 (o1+1*1))] (fun X=>?_)
 exact JR 18 3 (cs:=[I x2]) 0 (I x2) hc2 Jn
 refine Jr 7 20 (Pt b3 (o1+2*1)) [(19,Sl (At b3 o1) (((QQ w).1).length) c1)] (fun X=>?_)
 exact JY (b:=b3) (off:=o1) (len:=((QQ w).1).length) (cap:=c1) (ik:=.i64) 20 3 1 2 (by (have q_:=Vk ‹_›;omega)) Jn
 refine Jr 8 21 (I x3) [(20,Pt b3 (o1+2*1))] (fun X=>?_)
 exact JR 21 3 (cs:=[I x3]) 0 (I x3) hc3 Jn
 refine JA 12 [(18,I x2),(23,Pt b1 3)] (fun X=>?_)
 refine KI 0 ([Sg b1 0 [Sl a_0 t.setup.names.length c_0,Sl a_1 t.setup.keys.length c_1,I x1,I x2,I t.setup.every,I t.setup.least,I t.setup.top,I t.setup.lost,I t.setup.reach]]::[]::[Sg b 0 (Kj t a_0 c_0 a_1 c_1 a_9 c_9)]::r_9::Lr) (J9 [(13,Pt b1 4)] (JL [0,1,2,3,4,5,9,11] [(6,0),(13,0)] [7,8] [14] (Kb ?_ (Kb ?_ K4)) (Kb ?_ K4)))
 refine Jr 7 20 (Pt b3 (o1+2*1)) [(19,Sl (At b3 o1) (((QQ w).1).length) c1)] (fun X=>?_)
 exact JY (b:=b3) (off:=o1) (len:=((QQ w).1).length) (cap:=c1) (ik:=.i64) 20 3 1 2 (by (have q_:=Vk ‹_›;omega)) Jn
 refine Jr 8 21 (I x3) [(20,Pt b3 (o1+2*1))] (fun X=>?_)
 exact JR 21 3 (cs:=[I x3]) 0 (I x3) hc3 Jn
 refine JA 14 [(21,I x3),(24,Pt b1 4)] (fun X=>?_)
 refine KI 0 ([Sg b1 0 [Sl a_0 t.setup.names.length c_0,Sl a_1 t.setup.keys.length c_1,I x1,I x2,I x3,I t.setup.least,I t.setup.top,I t.setup.lost,I t.setup.reach]]::[]::[Sg b 0 (Kj t a_0 c_0 a_1 c_1 a_9 c_9)]::r_9::Lr) (J9 [] (Kq [0,1,2,3,4,5,6,7,8,9,11,13] [] [] [(0,Pt b 0),(6,Pt b1 0)] (Ha _) (Jc (Jf (Jd (Jb [0,2] [(25,Pt b 0),(26,.agg #[Sl a_0 t.setup.names.length c_0,Sl a_1 t.setup.keys.length c_1,I x1,I x2,I x3,I t.setup.least,I t.setup.top,I t.setup.lost,I t.setup.reach])] (Jw 3 (Jw 3 (K2 (Ls:=[[Sg b 0 (Kj t a_0 c_0 a_1 c_1 a_9 c_9)],r_9]) (Lr:=([Sg b1 0 [Sl a_0 t.setup.names.length c_0,Sl a_1 t.setup.keys.length c_1,I x1,I x2,I x3,I t.setup.least,I t.setup.top,I t.setup.lost,I t.setup.reach]]::[]::Lr)) 27 hT (JgC G3 b t a_0 c_0 a_1 c_1 a_9 c_9 r_9 (h_0.mono (Ja hle1 hl3)) (h_1.mono (Ja hle1 hl3)) h_2 h_3 h_4 h_5 h_6 h_7 h_8 (h_9.mono (Ja hle1 hl3)) [Sl a_0 t.setup.names.length c_0,Sl a_1 t.setup.keys.length c_1,I x1,I x2,I x3,I t.setup.least,I t.setup.top,I t.setup.lost,I t.setup.reach] (⟨t.setup.names,t.setup.keys,x1,x2,x3,t.setup.least,t.setup.top,t.setup.lost,t.setup.reach⟩:Ky) (⟨a_0,c_0,a_1,c_1,rfl,(h_0.mono (Ja hle1 hl3)),(h_1.mono (Ja hle1 hl3)),w1,w2,w3,h_5,h_6,h_7,h_8⟩) ‹_›) (fun v G4 L1 hl4 hp=>?_) (fun v G4 L1 hl4 hp=>?_))))))))))
 obtain ⟨hne3,rfl,rfl⟩:=hp
 refine Km ?_
 have hp5:(W4 t w).2=(Zw t (⟨t.setup.names,t.setup.keys,x1,x2,x3,t.setup.least,t.setup.top,t.setup.lost,t.setup.reach⟩:Ky)).2:=by
  rw [JhP ‹_› hx1 hx2 hx3]
 refine Zb (WF (Lr:=Lr) [[Sg b 0 (Kj t a_0 c_0 a_1 c_1 a_9 c_9)],r_9] (Ja (Ja hle1 hl3) hl4) ?_)
 rw [hp5];exact ⟨hne3,rfl,rfl⟩
 obtain ⟨_,a3,c3,a4,c4,a5,c5,a6,c6,r3,rfl,hs2,hs3,hs4,w4,w5,w6,w7,w8,w9,w10,hr3,rfl⟩:=hp
 refine Jb [0] [(4,Sl a3 (([]:Bs).length) c3)] (Je (Jc (Jo (Jk 1 (Jk 1 ?_)))))
 have hf1:(W4 t w).2=0∧([]:Bs)=([]:Bs)∧(W4 t w).1=((Zw t (⟨t.setup.names,t.setup.keys,x1,x2,x3,t.setup.least,t.setup.top,t.setup.lost,t.setup.reach⟩:Ky)).1):=by
  rw [JhP ‹_› hx1 hx2 hx3];exact ⟨by assumption,rfl,rfl⟩
 refine Jp [0] [Sl a3 (([]:Bs).length) c3] (bpx (KQ (Lr:=Lr) [[Sg b 0 (Kj (Zw t (⟨t.setup.names,t.setup.keys,x1,x2,x3,t.setup.least,t.setup.top,t.setup.lost,t.setup.reach⟩:Ky)).1 a4 c4 a5 c5 a6 c6)],r3] (Ja (Ja hle1 hl3) hl4) ?_))
 rw [hf1.2.1,hf1.2.2]
 try dsimp only
 exact ⟨hf1.1,a3,c3,a4,c4,a5,c5,a6,c6,r3,rfl,hs2,hs3,hs4,w4,w5,w6,w7,w8,w9,w10,hr3,rfl⟩
set_option maxRecDepth 20000 in
theorem Jlu (G:J4) (b:Nat) (t:KD) (a_0:Ba) (c_0:Nat) (a_1:Ba) (c_1:Nat) (a_9:Ba) (c_9:Nat) (r_9:Bg) (h_0:RS ES G a_0 c_0 t.setup.names) (h_1:RS EU G a_1 c_1 t.setup.keys) (h_2:rI t.setup.most) (h_3:rI t.setup.batch) (h_4:rI t.setup.every) (h_5:rI t.setup.least) (h_6:rI t.setup.top) (h_7:rI t.setup.lost) (h_8:rI t.setup.reach) (h_9:J0 Wr G a_9 c_9 t.deeds r_9) (a_w:Ba) (c_w:Nat) (w:Bs) (h_w:RS ES G a_w c_w w) (hw:w.length=2) (hs:∀ s∈w,s.length≤1048576) (ht:t.deeds.length≤200) (hn:t.setup.names.length≤1000) (hk:t.setup.keys.length≤1000):ZV Tryz.prog 81 #[Pt b 0,Sl a_w w.length c_w] G [[Sg b 0 [Sl a_0 t.setup.names.length c_0,Sl a_1 t.setup.keys.length c_1,I t.setup.most,I t.setup.batch,I t.setup.every,I t.setup.least,I t.setup.top,I t.setup.lost,I t.setup.reach,Sl a_9 t.deeds.length c_9]],r_9] (fun u G' L'=>((WB t w).2=0)∧∃ (az1:Ba) (cz2:Nat) (az3:Ba) (cz4:Nat) (az5:Ba) (cz6:Nat) (az7:Ba) (cz8:Nat) (rz9:Bg),u=Sl az1 (([]:Bs).length) cz2∧(RS ES G' az1 cz2 ([]:Bs))∧(RS ES G' az3 cz4 (((WB t w).1).setup.names))∧(RS EU G' az5 cz6 (((WB t w).1).setup.keys))∧(rI (((WB t w).1).setup.most))∧(rI (((WB t w).1).setup.batch))∧(rI (((WB t w).1).setup.every))∧(rI (((WB t w).1).setup.least))∧(rI (((WB t w).1).setup.top))∧(rI (((WB t w).1).setup.lost))∧(rI (((WB t w).1).setup.reach))∧(J0 Wr G' az7 cz8 (((WB t w).1).deeds) rz9)∧L'=[[Sg b 0 [Sl az3 ((((WB t w).1).setup.names).length) cz4,Sl az5 ((((WB t w).1).setup.keys).length) cz6,I (((WB t w).1).setup.most),I (((WB t w).1).setup.batch),I (((WB t w).1).setup.every),I (((WB t w).1).setup.least),I (((WB t w).1).setup.top),I (((WB t w).1).setup.lost),I (((WB t w).1).setup.reach),Sl az7 ((((WB t w).1).deeds).length) cz8]],rz9]) (fun u _ L'=>(¬ (WB t w).2=0)∧u=VM ((WB t w).2)∧L'=[[Sg b 0 [Sl a_0 t.setup.names.length c_0,Sl a_1 t.setup.keys.length c_1,I t.setup.most,I t.setup.batch,I t.setup.every,I t.setup.least,I t.setup.top,I t.setup.lost,I t.setup.reach,Sl a_9 t.deeds.length c_9]],r_9]):=by
 intro Lr
 refine ZG Tryz.func81 35 [(0,Pt b 0),(1,Sl a_w w.length c_w)] rfl (fun w0 G0 hT=>?_)
 show TC _ _ _ _ _ ([Sg b 0 (Kj t a_0 c_0 a_1 c_1 a_9 c_9)]::r_9::Lr)
 refine Jg [0] [] ?_
 obtain ⟨b1,o1,rfl⟩:=RS.addr h_w (k:=1) (by omega)
 obtain ⟨x1,hx1⟩:=QW (l:=w) (k:=1) (by omega)
 obtain ⟨_,⟨rfl,_⟩,hc1⟩:=RS.get h_w hx1
 refine Ym (σ:=Nat×J4) (fun q_=>(J4.le G q_.2)∧((Ka x1).2=0)) (fun q_=>[(0,Pt b 0),(1,Sl (At b1 o1) w.length c_w),(5,I ((Ka x1).1)),(6,Pt q_.1 0)]) (fun q_=>q_.2) (fun q_=>([Sg q_.1 0 (WH t.setup a_0 c_0 a_1 c_1)]::[Sg b 0 (Kj t a_0 c_0 a_1 c_1 a_9 c_9)]::r_9::Lr)) ?_ (fun q_ hs=>?_)
 refine Kt [3,8,10] (Wz [(0,Sl (At b1 o1) w.length c_w),(1,Pt b1 (o1+1*1)),(2,Sr x1),(4,Pt b 0),(5,Pt b 0),(6,Pt b 0),(7,(Va t.setup a_0 c_0 a_1 c_1))] (JL [] [(0,0),(4,0),(5,0),(6,0),(7,2)] [1,2] [3,8] (Kb ?_ (Kb ?_ K4)) (Kb ?_ (Kb ?_ K4))))
 refine Jr 1 8 (Pt b1 (o1+1*1)) [(7,Sl (At b1 o1) w.length c_w)] (fun X=>?_)
 exact JY (b:=b1) (off:=o1) (len:=w.length) (cap:=c_w) (ik:=.i64) 8 9 1 1 J5 Jn
 refine Jr 2 9 (Sr x1) [(8,Pt b1 (o1+1*1))] (fun X=>?_)
 exact JR 9 9 (cs:=[Sr x1]) 0 (Sr x1) hc1 Jn
 refine JA 3 [(9,Sr x1)] (fun X=>?_)
 refine K2 (Ls:=[]) (Lr:=([Sg b 0 (Kj t a_0 c_0 a_1 c_1 a_9 c_9)]::r_9::Lr)) 10 hT ((Y1 G x1 (by have q_:=hs _ (Hi hx1);omega)).frame) (fun v G1 L1 hl1 hp=>?_) (fun v G1 L1 hl1 hp=>?_)
 obtain ⟨hne1,rfl,rfl⟩:=hp
 refine Km (Km ?_)
 have hp1:(WB t w).2=(Ka x1).2:=by
  exact JgD ‹_› ‹_›
 refine Zb (WF (Lr:=Lr) [[Sg b 0 (Kj t a_0 c_0 a_1 c_1 a_9 c_9)],r_9] hl1 ?_)
 rw [hp1];exact ⟨hne1,rfl,rfl⟩
 obtain ⟨he2,rfl,rfl⟩:=hp
 refine JC [(3,I ((Ka x1).1))] (JL [0,1,2] [(4,0),(5,0),(6,0),(7,2)] [] [8] (Ha _) (Kb ?_ K4))
 refine JA 8 [] (fun X=>?_)
 refine Jv 6 #[Sl none 0 0,Sl none 0 0,I 0,I 0,I 0,I 0,I 0,I 0,I 0] 72 (fun b2=>JC [(8,Pt b2 0),(9,I ((Ka x1).1))] (JL [0,1,2] [(4,0),(5,0),(6,0),(7,4),(9,0)] [] [10] (Ha _) (Kb ?_ K4)))
 refine JA 10 [(6,Pt b2 0),(14,(Va t.setup a_0 c_0 a_1 c_1))] (fun X=>?_)
 exact KI 0 ([Sg b2 0 (WH t.setup a_0 c_0 a_1 c_1)]::[Sg b 0 (Kj t a_0 c_0 a_1 c_1 a_9 c_9)]::r_9::Lr) (J9 [] (Kq [0,1,2,4,5,6,7,9] [] [] [(0,Pt b 0),(1,Sl (At b1 o1) w.length c_w),(5,I ((Ka x1).1)),(6,Pt b2 0)] (Ha _) (Q3 (b2,G1) ⟨hl1,he2⟩)))
 refine JA 8 [] (fun X=>?_)
 refine Jv 6 #[Sl none 0 0,Sl none 0 0,I 0,I 0,I 0,I 0,I 0,I 0,I 0] 72 (fun b3=>JC [(8,Pt b3 0)] (JL [] [(0,0),(4,0),(5,0),(6,0),(7,4)] [1,2] [3] (Kb ?_ (Kb ?_ K4)) (Kb ?_ K4)))
 refine Jr 1 8 (Pt b1 (o1+1*1)) [(7,Sl (At b1 o1) w.length c_w)] (fun X=>?_)
 exact JY (b:=b1) (off:=o1) (len:=w.length) (cap:=c_w) (ik:=.i64) 8 9 1 1 J5 Jn
 refine Jr 2 9 (Sr x1) [(8,Pt b1 (o1+1*1))] (fun X=>?_)
 exact JR 9 9 (cs:=[Sr x1]) 0 (Sr x1) hc1 Jn
 refine JA 3 [(9,Sr x1)] (fun X=>?_)
 refine K2 (Ls:=[]) (Lr:=([Sg b3 0 [Sl none 0 0,Sl none 0 0,I 0,I 0,I 0,I 0,I 0,I 0,I 0]]::[Sg b 0 (Kj t a_0 c_0 a_1 c_1 a_9 c_9)]::r_9::Lr)) 10 hT ((Y1 G x1 (by have q_:=hs _ (Hi hx1);omega)).frame) (fun v G2 L1 hl2 hp=>?_) (fun v G2 L1 hl2 hp=>?_)
 obtain ⟨hne2,rfl,rfl⟩:=hp
 refine Km (Km ?_)
 have hp3:(WB t w).2=(Ka x1).2:=by
  exact JgD ‹_› ‹_›
 refine Zb (WF (Lr:=Lr) [[Sg b 0 (Kj t a_0 c_0 a_1 c_1 a_9 c_9)],r_9] hl2 ?_)
 rw [hp3];exact ⟨hne2,rfl,rfl⟩
 obtain ⟨he3,rfl,rfl⟩:=hp
 refine JC [(3,I ((Ka x1).1)),(9,I ((Ka x1).1))] (JL [0,1,2] [(4,0),(5,0),(6,0),(7,4),(9,0)] [] [10] (Ha _) (Kb ?_ K4))
 refine JA 10 [(6,Pt b3 0),(14,(Va t.setup a_0 c_0 a_1 c_1))] (fun X=>?_)
 exact KI 0 ([Sg b3 0 (WH t.setup a_0 c_0 a_1 c_1)]::[Sg b 0 (Kj t a_0 c_0 a_1 c_1 a_9 c_9)]::r_9::Lr) (J9 [] (Kq [0,1,2,4,5,6,7,9] [] [] [(0,Pt b 0),(1,Sl (At b1 o1) w.length c_w),(5,I ((Ka x1).1)),(6,Pt b3 0)] (Ha _) (Q3 (b3,G2) ⟨hl2,he3⟩)))
 obtain ⟨b2,G1⟩:=q_
 obtain ⟨hle1,he1⟩:=hs
 dsimp only at hle1 he1
 dsimp only
 refine Jf ?_
 obtain ⟨x2,hx2⟩:=QW (l:=w) (k:=0) (by omega)
 obtain ⟨_,⟨rfl,w2⟩,hc2⟩:=RS.get (h_w.mono hle1) hx2
 refine Kt [2,6,7,9] (Wz [(0,Pt b2 0),(1,Sl a_0 t.setup.names.length c_0),(3,Sl (At b1 o1) w.length c_w),(4,Pt b1 (o1+0*1)),(5,Sr x2)] (JL [] [(0,0),(1,2),(3,0)] [4,5] [2,6] (Kb ?_ (Kb ?_ K4)) (Kb ?_ (Kb ?_ K4))))
 refine Jr 4 19 (Pt b1 (o1+0*1)) [(18,Sl (At b1 o1) w.length c_w)] (fun X=>?_)
 exact JY (b:=b1) (off:=o1) (len:=w.length) (cap:=c_w) (ik:=.i64) 19 9 1 0 J5 Jn
 refine Jr 5 20 (Sr x2) [(19,Pt b1 (o1+0*1))] (fun X=>?_)
 exact JR 20 9 (cs:=[Sr x2]) 0 (Sr x2) hc2 Jn
 refine JA 2 [(16,Sl a_0 t.setup.names.length c_0)] (fun X=>?_)
 refine JM 17 (JcA G1 a_0 c_0 t.setup.names (h_0.mono hle1)) (fun v G3 L1 hl3 hp=>?_)
 obtain ⟨a1,c1,_,rfl,hr1,rfl⟩:=hp
 refine JC [(2,Sl a1 t.setup.names.length c1)] (JL [0,1] [(3,0)] [4,5] [6] (Kb ?_ (Kb ?_ K4)) (Kb ?_ K4))
 refine Jr 4 19 (Pt b1 (o1+0*1)) [(18,Sl (At b1 o1) w.length c_w)] (fun X=>?_)
 exact JY (b:=b1) (off:=o1) (len:=w.length) (cap:=c_w) (ik:=.i64) 19 9 1 0 J5 Jn
 refine Jr 5 20 (Sr x2) [(19,Pt b1 (o1+0*1))] (fun X=>?_)
 exact JR 20 9 (cs:=[Sr x2]) 0 (Sr x2) (fun j v hv=>hl3 _ _ _ (hc2 j v hv)) Jn
 refine JA 6 [(20,Sr x2)] (fun X=>?_)
 refine Ki 21 1 #[Sr x2] 9 (fun b4=>JC [(6,Sl (At b4 0) 1 1)] (JL [0,1,3,4,5] [] [] [7] (Ha _) (Kb ?_ K4)))
 refine JA 7 [(17,Sl a1 t.setup.names.length c1),(21,Sl (At b4 0) 1 1)] (fun X=>?_)
 refine Qr (b:=b4) (cs:=[Sr x2]) 22 9 1 0 (E:=ES) x2 hr1 ⟨rfl,w2⟩ (by (try simp only [Hd,Hc,Hg]);omega) (by (try simp only [ES,Hd,Hc,Hg]);omega) (fun a2 c2 r2 hr2=>JC [(7,Sl a2 ((t.setup.names++[x2]).length) c2),(8,Pt b2 0)] (JL [0,1,3,4,5] [(8,0)] [] [9] (Ha _) (Kb ?_ K4)))
 refine JA 9 [(22,Sl a2 ((t.setup.names++[x2]).length) c2),(23,Pt b2 0)] (fun X=>?_)
 refine KI 2 ([Sg b4 0 [Sr x2]]::r2::[Sg b2 0 [Sl a2 ((t.setup.names++[x2]).length) c2,Sl a_1 t.setup.keys.length c_1,I t.setup.most,I t.setup.batch,I t.setup.every,I t.setup.least,I t.setup.top,I t.setup.lost,I t.setup.reach]]::[Sg b 0 (Kj t a_0 c_0 a_1 c_1 a_9 c_9)]::r_9::Lr) (J9 [] (Kq [0,1,3,4,5,8] [] [] [(0,Pt b 0),(5,I ((Ka x1).1)),(6,Pt b2 0)] (Ha _) (Jc (Jf (Jd (Jb [0,6] [(25,Sl a_1 t.setup.keys.length c_1)] (JM 26 (Jem G3 a_1 c_1 t.setup.keys (h_1.mono (Ja hle1 hl3))) (fun v G4 L1 hl4 hp=>?_))))))))
 obtain ⟨_,_,_,rfl,hr3,rfl⟩:=hp
 refine Jb [0,0] [(28,U (Hp.wrap ((Ka x1).1)))] (Jbk 28 ((Ka x1).1) (by have q_:=Y0 x1;omega) (Ki 29 1 #[U ((Ka x1).1)] 41 (fun b5=>Qr (b:=b5) (cs:=[U ((Ka x1).1)]) 30 41 1 0 (E:=EU) ((Ka x1).1) hr3 ⟨rfl,(by have q_:=Y0 x1;omega)⟩ (by (try simp only [Hd,Hc,Hg]);omega) (by (try simp only [EU,Hd,Hc,Hg]);omega) (fun a4 c4 r4 hr4=>JX [0,11] [] ([Sg b5 0 [U ((Ka x1).1)]]::r4::[Sg b4 0 [Sr x2]]::r2::[Sg b2 0 [Sl a2 ((t.setup.names++[x2]).length) c2,Sl a4 ((t.setup.keys++[(Ka x1).1]).length) c4,I t.setup.most,I t.setup.batch,I t.setup.every,I t.setup.least,I t.setup.top,I t.setup.lost,I t.setup.reach]]::[Sg b 0 (Kj t a_0 c_0 a_1 c_1 a_9 c_9)]::r_9::Lr) (Je (Jc (Jf (Jd (Jb [0,10] [(32,Pt b 0),(33,.agg #[Sl a2 ((t.setup.names++[x2]).length) c2,Sl a4 ((t.setup.keys++[(Ka x1).1]).length) c4,I t.setup.most,I t.setup.batch,I t.setup.every,I t.setup.least,I t.setup.top,I t.setup.lost,I t.setup.reach])] (WC (E:=ES) 3 (hr2.mono hl4) (by (try simp only [ES,EU,Wr,EI,Hd,Hc,Hg]);omega) (fun G5 hl5 hs1=>WC (E:=EU) 1 (hr4.mono hl5) (by (try simp only [ES,EU,Wr,EI,Hd,Hc,Hg]);omega) (fun G6 hl6 hs2=>Jw 6 (Jw 6 (K2 (Ls:=[[Sg b 0 (Kj t a_0 c_0 a_1 c_1 a_9 c_9)],r_9]) (Lr:=([Sg b5 0 [U ((Ka x1).1)]]::[]::[Sg b4 0 [Sr x2]]::[]::[Sg b2 0 [Sl a2 ((t.setup.names++[x2]).length) c2,Sl a4 ((t.setup.keys++[(Ka x1).1]).length) c4,I t.setup.most,I t.setup.batch,I t.setup.every,I t.setup.least,I t.setup.top,I t.setup.lost,I t.setup.reach]]::Lr)) 34 hT (JgC G6 b t a_0 c_0 a_1 c_1 a_9 c_9 r_9 (h_0.mono (Ja (Ja (Ja (Ja hle1 hl3) hl4) hl5) hl6)) (h_1.mono (Ja (Ja (Ja (Ja hle1 hl3) hl4) hl5) hl6)) ‹_› ‹_› ‹_› ‹_› ‹_› ‹_› ‹_› (h_9.mono (Ja (Ja (Ja (Ja hle1 hl3) hl4) hl5) hl6)) [Sl a2 ((t.setup.names++[x2]).length) c2,Sl a4 ((t.setup.keys++[(Ka x1).1]).length) c4,I t.setup.most,I t.setup.batch,I t.setup.every,I t.setup.least,I t.setup.top,I t.setup.lost,I t.setup.reach] (⟨t.setup.names++[x2],t.setup.keys++[(Ka x1).1],t.setup.most,t.setup.batch,t.setup.every,t.setup.least,t.setup.top,t.setup.lost,t.setup.reach⟩:Ky) (⟨a2,c2,a4,c4,rfl,(hs1.mono hl6),hs2,‹_›,‹_›,‹_›,‹_›,‹_›,‹_›,‹_›⟩) ‹_›) (fun v G7 L1 hl7 hp=>?_) (fun v G7 L1 hl7 hp=>?_)))))))))))))))
 obtain ⟨hne3,rfl,rfl⟩:=hp
 refine Km ?_
 have hp5:(WB t w).2=(Zw t (⟨t.setup.names++[x2],t.setup.keys++[(Ka x1).1],t.setup.most,t.setup.batch,t.setup.every,t.setup.least,t.setup.top,t.setup.lost,t.setup.reach⟩:Ky)).2:=by
  rw [JcG (t:=t) (w:=w) ‹_› ‹_› ‹_›]
 refine Zb (WF (Lr:=Lr) [[Sg b 0 (Kj t a_0 c_0 a_1 c_1 a_9 c_9)],r_9] (Ja (Ja (Ja (Ja (Ja hle1 hl3) hl4) hl5) hl6) hl7) ?_)
 rw [hp5];exact ⟨hne3,rfl,rfl⟩
 obtain ⟨_,a5,c5,a6,c6,a7,c7,a8,c8,r5,rfl,hs3,hs4,hs5,w3,w4,w5,w6,w7,w8,w9,hr5,rfl⟩:=hp
 refine Jb [0] [(4,Sl a5 (([]:Bs).length) c5)] (Je (Jc (Jo (Jk 1 (Jk 1 ?_)))))
 have hf1:(WB t w).2=0∧([]:Bs)=([]:Bs)∧(WB t w).1=((Zw t (⟨t.setup.names++[x2],t.setup.keys++[(Ka x1).1],t.setup.most,t.setup.batch,t.setup.every,t.setup.least,t.setup.top,t.setup.lost,t.setup.reach⟩:Ky)).1):=by
  (rw [JcG (t:=t) (w:=w) ‹_› ‹_› ‹_›];exact ⟨by assumption,rfl,rfl⟩)
 refine Jp [0] [Sl a5 (([]:Bs).length) c5] (bpx (KQ (Lr:=Lr) [[Sg b 0 (Kj (Zw t (⟨t.setup.names++[x2],t.setup.keys++[(Ka x1).1],t.setup.most,t.setup.batch,t.setup.every,t.setup.least,t.setup.top,t.setup.lost,t.setup.reach⟩:Ky)).1 a6 c6 a7 c7 a8 c8)],r5] (Ja (Ja (Ja (Ja (Ja hle1 hl3) hl4) hl5) hl6) hl7) ?_))
 rw [hf1.2.1,hf1.2.2]
 try dsimp only
 exact ⟨hf1.1,a5,c5,a6,c6,a7,c7,a8,c8,r5,rfl,hs3,hs4,hs5,w3,w4,w5,w6,w7,w8,w9,hr5,rfl⟩
 refine JA 6 [(20,Sr x2)] (fun X=>?_)
 refine Ki 21 1 #[Sr x2] 9 (fun b6=>JC [(6,Sl (At b6 0) 1 1)] (JL [3,4,5] [(0,0),(1,4)] [] [2] (Ha _) (Kb ?_ K4)))
 refine JA 2 [(16,Sl a_0 t.setup.names.length c_0)] (fun X=>?_)
 refine JM 17 (JcA G1 a_0 c_0 t.setup.names (h_0.mono hle1)) (fun v G8 L1 hl8 hp=>?_)
 obtain ⟨a9,c9,_,rfl,hr6,rfl⟩:=hp
 refine JC [(2,Sl a9 t.setup.names.length c9)] (JL [0,1,3,4,5] [] [] [7] (Ha _) (Kb ?_ K4))
 refine JA 7 [(17,Sl a9 t.setup.names.length c9),(21,Sl (At b6 0) 1 1)] (fun X=>?_)
 refine Qr (b:=b6) (cs:=[Sr x2]) 22 9 0 1 (E:=ES) x2 hr6 ⟨rfl,w2⟩ (by (try simp only [Hd,Hc,Hg]);omega) (by (try simp only [ES,Hd,Hc,Hg]);omega) (fun a10 c10 r7 hr7=>JC [(7,Sl a10 ((t.setup.names++[x2]).length) c10),(8,Pt b2 0)] (JL [0,1,3,4,5] [(8,0)] [] [9] (Ha _) (Kb ?_ K4)))
 refine JA 9 [(22,Sl a10 ((t.setup.names++[x2]).length) c10),(23,Pt b2 0)] (fun X=>?_)
 refine KI 2 (r7::[Sg b6 0 [Sr x2]]::[Sg b2 0 [Sl a10 ((t.setup.names++[x2]).length) c10,Sl a_1 t.setup.keys.length c_1,I t.setup.most,I t.setup.batch,I t.setup.every,I t.setup.least,I t.setup.top,I t.setup.lost,I t.setup.reach]]::[Sg b 0 (Kj t a_0 c_0 a_1 c_1 a_9 c_9)]::r_9::Lr) (J9 [] (Kq [0,1,3,4,5,8] [] [] [(0,Pt b 0),(5,I ((Ka x1).1)),(6,Pt b2 0)] (Ha _) (Jc (Jf (Jd (Jb [0,6] [(25,Sl a_1 t.setup.keys.length c_1)] (JM 26 (Jem G8 a_1 c_1 t.setup.keys (h_1.mono (Ja hle1 hl8))) (fun v G9 L1 hl9 hp=>?_))))))))
 obtain ⟨_,_,_,rfl,hr8,rfl⟩:=hp
 refine Jb [0,0] [(28,U (Hp.wrap ((Ka x1).1)))] (Jbk 28 ((Ka x1).1) (by have q_:=Y0 x1;omega) (Ki 29 1 #[U ((Ka x1).1)] 41 (fun b7=>Qr (b:=b7) (cs:=[U ((Ka x1).1)]) 30 41 1 0 (E:=EU) ((Ka x1).1) hr8 ⟨rfl,(by have q_:=Y0 x1;omega)⟩ (by (try simp only [Hd,Hc,Hg]);omega) (by (try simp only [EU,Hd,Hc,Hg]);omega) (fun a12 c12 r9 hr9=>JX [0,11] [] ([Sg b7 0 [U ((Ka x1).1)]]::r9::r7::[Sg b6 0 [Sr x2]]::[Sg b2 0 [Sl a10 ((t.setup.names++[x2]).length) c10,Sl a12 ((t.setup.keys++[(Ka x1).1]).length) c12,I t.setup.most,I t.setup.batch,I t.setup.every,I t.setup.least,I t.setup.top,I t.setup.lost,I t.setup.reach]]::[Sg b 0 (Kj t a_0 c_0 a_1 c_1 a_9 c_9)]::r_9::Lr) (Je (Jc (Jf (Jd (Jb [0,10] [(32,Pt b 0),(33,.agg #[Sl a10 ((t.setup.names++[x2]).length) c10,Sl a12 ((t.setup.keys++[(Ka x1).1]).length) c12,I t.setup.most,I t.setup.batch,I t.setup.every,I t.setup.least,I t.setup.top,I t.setup.lost,I t.setup.reach])] (WC (E:=ES) 2 (hr7.mono hl9) (by (try simp only [ES,EU,Wr,EI,Hd,Hc,Hg]);omega) (fun G10 hl10 hs6=>WC (E:=EU) 1 (hr9.mono hl10) (by (try simp only [ES,EU,Wr,EI,Hd,Hc,Hg]);omega) (fun G11 hl11 hs7=>Jw 6 (Jw 6 (K2 (Ls:=[[Sg b 0 (Kj t a_0 c_0 a_1 c_1 a_9 c_9)],r_9]) (Lr:=([Sg b7 0 [U ((Ka x1).1)]]::[]::[]::[Sg b6 0 [Sr x2]]::[Sg b2 0 [Sl a10 ((t.setup.names++[x2]).length) c10,Sl a12 ((t.setup.keys++[(Ka x1).1]).length) c12,I t.setup.most,I t.setup.batch,I t.setup.every,I t.setup.least,I t.setup.top,I t.setup.lost,I t.setup.reach]]::Lr)) 34 hT (JgC G11 b t a_0 c_0 a_1 c_1 a_9 c_9 r_9 (h_0.mono (Ja (Ja (Ja (Ja hle1 hl8) hl9) hl10) hl11)) (h_1.mono (Ja (Ja (Ja (Ja hle1 hl8) hl9) hl10) hl11)) ‹_› ‹_› ‹_› ‹_› ‹_› ‹_› ‹_› (h_9.mono (Ja (Ja (Ja (Ja hle1 hl8) hl9) hl10) hl11)) [Sl a10 ((t.setup.names++[x2]).length) c10,Sl a12 ((t.setup.keys++[(Ka x1).1]).length) c12,I t.setup.most,I t.setup.batch,I t.setup.every,I t.setup.least,I t.setup.top,I t.setup.lost,I t.setup.reach] (⟨t.setup.names++[x2],t.setup.keys++[(Ka x1).1],t.setup.most,t.setup.batch,t.setup.every,t.setup.least,t.setup.top,t.setup.lost,t.setup.reach⟩:Ky) (⟨a10,c10,a12,c12,rfl,(hs6.mono hl11),hs7,‹_›,‹_›,‹_›,‹_›,‹_›,‹_›,‹_›⟩) ‹_›) (fun v G12 L1 hl12 hp=>?_) (fun v G12 L1 hl12 hp=>?_)))))))))))))))
 obtain ⟨hne4,rfl,rfl⟩:=hp
 refine Km ?_
 have hp7:(WB t w).2=(Zw t (⟨t.setup.names++[x2],t.setup.keys++[(Ka x1).1],t.setup.most,t.setup.batch,t.setup.every,t.setup.least,t.setup.top,t.setup.lost,t.setup.reach⟩:Ky)).2:=by
  rw [JcG (t:=t) (w:=w) ‹_› ‹_› ‹_›]
 refine Zb (WF (Lr:=Lr) [[Sg b 0 (Kj t a_0 c_0 a_1 c_1 a_9 c_9)],r_9] (Ja (Ja (Ja (Ja (Ja hle1 hl8) hl9) hl10) hl11) hl12) ?_)
 rw [hp7];exact ⟨hne4,rfl,rfl⟩
 obtain ⟨_,a13,c13,a14,c14,a15,c15,a16,c16,r10,rfl,hs8,hs9,hs10,w10,w11,w12,w13,w14,w15,w16,hr10,rfl⟩:=hp
 refine Jb [0] [(4,Sl a13 (([]:Bs).length) c13)] (Je (Jc (Jo (Jk 1 (Jk 1 ?_)))))
 have hf2:(WB t w).2=0∧([]:Bs)=([]:Bs)∧(WB t w).1=((Zw t (⟨t.setup.names++[x2],t.setup.keys++[(Ka x1).1],t.setup.most,t.setup.batch,t.setup.every,t.setup.least,t.setup.top,t.setup.lost,t.setup.reach⟩:Ky)).1):=by
  (rw [JcG (t:=t) (w:=w) ‹_› ‹_› ‹_›];exact ⟨by assumption,rfl,rfl⟩)
 refine Jp [0] [Sl a13 (([]:Bs).length) c13] (bpx (KQ (Lr:=Lr) [[Sg b 0 (Kj (Zw t (⟨t.setup.names++[x2],t.setup.keys++[(Ka x1).1],t.setup.most,t.setup.batch,t.setup.every,t.setup.least,t.setup.top,t.setup.lost,t.setup.reach⟩:Ky)).1 a14 c14 a15 c15 a16 c16)],r10] (Ja (Ja (Ja (Ja (Ja hle1 hl8) hl9) hl10) hl11) hl12) ?_))
 rw [hf2.2.1,hf2.2.2]
 try dsimp only
 exact ⟨hf2.1,a13,c13,a14,c14,a15,c15,a16,c16,r10,rfl,hs8,hs9,hs10,w10,w11,w12,w13,w14,w15,w16,hr10,rfl⟩
theorem JnX (G:J4) (b:Nat) (t:KD) (a_0:Ba) (c_0:Nat) (a_1:Ba) (c_1:Nat) (a_9:Ba) (c_9:Nat) (r_9:Bg) (h_0:RS ES G a_0 c_0 t.setup.names) (h_1:RS EU G a_1 c_1 t.setup.keys) (h_2:rI t.setup.most) (h_3:rI t.setup.batch) (h_4:rI t.setup.every) (h_5:rI t.setup.least) (h_6:rI t.setup.top) (h_7:rI t.setup.lost) (h_8:rI t.setup.reach) (h_9:J0 Wr G a_9 c_9 t.deeds r_9) (a_w:Ba) (c_w:Nat) (w:Bs) (h_w:RS ES G a_w c_w w) (hw:w.length=2) (hs:∀ s∈w,s.length≤1048576) (ht:t.deeds.length≤200) (hn:t.setup.names.length≤1000) (hk:t.setup.keys.length≤1000):ZV Tryz.prog 82 #[Pt b 0,Sl a_w w.length c_w] G [[Sg b 0 [Sl a_0 t.setup.names.length c_0,Sl a_1 t.setup.keys.length c_1,I t.setup.most,I t.setup.batch,I t.setup.every,I t.setup.least,I t.setup.top,I t.setup.lost,I t.setup.reach,Sl a_9 t.deeds.length c_9]],r_9] (fun u G' L'=>((Zx t w).2=0)∧∃ (az1:Ba) (cz2:Nat) (az3:Ba) (cz4:Nat) (az5:Ba) (cz6:Nat) (az7:Ba) (cz8:Nat) (rz9:Bg),u=Sl az1 (([]:Bs).length) cz2∧(RS ES G' az1 cz2 ([]:Bs))∧(RS ES G' az3 cz4 (((Zx t w).1).setup.names))∧(RS EU G' az5 cz6 (((Zx t w).1).setup.keys))∧(rI (((Zx t w).1).setup.most))∧(rI (((Zx t w).1).setup.batch))∧(rI (((Zx t w).1).setup.every))∧(rI (((Zx t w).1).setup.least))∧(rI (((Zx t w).1).setup.top))∧(rI (((Zx t w).1).setup.lost))∧(rI (((Zx t w).1).setup.reach))∧(J0 Wr G' az7 cz8 (((Zx t w).1).deeds) rz9)∧L'=[[Sg b 0 [Sl az3 ((((Zx t w).1).setup.names).length) cz4,Sl az5 ((((Zx t w).1).setup.keys).length) cz6,I (((Zx t w).1).setup.most),I (((Zx t w).1).setup.batch),I (((Zx t w).1).setup.every),I (((Zx t w).1).setup.least),I (((Zx t w).1).setup.top),I (((Zx t w).1).setup.lost),I (((Zx t w).1).setup.reach),Sl az7 ((((Zx t w).1).deeds).length) cz8]],rz9]) (fun u _ L'=>(¬ (Zx t w).2=0)∧u=VM ((Zx t w).2)∧L'=[[Sg b 0 [Sl a_0 t.setup.names.length c_0,Sl a_1 t.setup.keys.length c_1,I t.setup.most,I t.setup.batch,I t.setup.every,I t.setup.least,I t.setup.top,I t.setup.lost,I t.setup.reach,Sl a_9 t.deeds.length c_9]],r_9]):=by
 intro Lr
 refine ZG Tryz.func82 16 [(0,Pt b 0),(1,Sl a_w w.length c_w)] rfl (fun w0 G0 hT=>?_)
 show TC _ _ _ _ _ ([Sg b 0 (Kj t a_0 c_0 a_1 c_1 a_9 c_9)]::r_9::Lr)
 refine Jg [0] [] (Jf ?_)
 obtain ⟨b1,o1,rfl⟩:=RS.addr h_w (k:=0) (by omega)
 obtain ⟨x1,hx1⟩:=QW (l:=w) (k:=0) (by omega)
 obtain ⟨_,⟨rfl,_⟩,hc1⟩:=RS.get h_w hx1
 obtain ⟨x2,hx2⟩:=QW (l:=w) (k:=1) (by omega)
 obtain ⟨_,⟨rfl,w2⟩,hc2⟩:=RS.get h_w hx2
 refine Kt [4,9,10] (Wz [(0,Pt b 0),(1,Sl (At b1 o1) w.length c_w),(2,Pt b1 (o1+0*1)),(3,Sr x1),(5,Sl (At b1 o1) w.length c_w),(6,Pt b1 (o1+1*1)),(7,Sr x2)] (JL [] [(0,0),(1,0),(5,0)] [2,3,6,7] [4] (Kb ?_ (Kb ?_ (Kb ?_ (Kb ?_ K4)))) (Kb ?_ K4)))
 refine Jr 2 7 (Pt b1 (o1+0*1)) [(6,Sl (At b1 o1) w.length c_w)] (fun X=>?_)
 exact JY (b:=b1) (off:=o1) (len:=w.length) (cap:=c_w) (ik:=.i64) 7 9 1 0 J5 Jn
 refine Jr 3 8 (Sr x1) [(7,Pt b1 (o1+0*1))] (fun X=>?_)
 exact JR 8 9 (cs:=[Sr x1]) 0 (Sr x1) hc1 Jn
 refine Jr 6 11 (Pt b1 (o1+1*1)) [(10,Sl (At b1 o1) w.length c_w)] (fun X=>?_)
 exact JY (b:=b1) (off:=o1) (len:=w.length) (cap:=c_w) (ik:=.i64) 11 9 1 1 J5 Jn
 refine Jr 7 12 (Sr x2) [(11,Pt b1 (o1+1*1))] (fun X=>?_)
 exact JR 12 9 (cs:=[Sr x2]) 0 (Sr x2) hc2 Jn
 refine JA 4 [(8,Sr x1)] (fun X=>?_)
 refine K2 (Ls:=[]) (Lr:=([Sg b 0 (Kj t a_0 c_0 a_1 c_1 a_9 c_9)]::r_9::Lr)) 9 hT ((Y1 G x1 (by have q_:=hs _ (Hi hx2);omega)).frame) (fun v G1 L1 hl1 hp=>?_) (fun v G1 L1 hl1 hp=>?_)
 obtain ⟨hne1,rfl,rfl⟩:=hp
 refine Km (Km ?_)
 have hp1:(Zx t w).2=(Ka x1).2:=by
  exact JnV ‹_› ‹_›
 refine Zb (WF (Lr:=Lr) [[Sg b 0 (Kj t a_0 c_0 a_1 c_1 a_9 c_9)],r_9] hl1 ?_)
 rw [hp1];exact ⟨hne1,rfl,rfl⟩
 obtain ⟨_,rfl,rfl⟩:=hp
 refine JC [(4,I ((Ka x1).1)),(8,.agg #[I 1,I ((Ka x1).1),Sr x2,Sl none 0 0,I 0,I 0,I 0,I 0,Sl none 0 0,I 0,U 0,U 0,I 0,Sr ([]),Sl none 0 0,Sl none 0 0])] (JL [1,2,3] [(0,0),(5,0),(8,0)] [6,7] [9] (Kb ?_ (Kb ?_ K4)) (Kb ?_ K4))
 refine Jr 6 11 (Pt b1 (o1+1*1)) [(10,Sl (At b1 o1) w.length c_w)] (fun X=>?_)
 exact JY (b:=b1) (off:=o1) (len:=w.length) (cap:=c_w) (ik:=.i64) 11 9 1 1 J5 Jn
 refine Jr 7 12 (Sr x2) [(11,Pt b1 (o1+1*1))] (fun X=>?_)
 exact JR 12 9 (cs:=[Sr x2]) 0 (Sr x2) (fun j v hv=>hl1 _ _ _ (hc2 j v hv)) Jn
 refine JA 9 [(13,.agg #[I 1,I ((Ka x1).1),Sr x2,Sl none 0 0,I 0,I 0,I 0,I 0,Sl none 0 0,I 0,U 0,U 0,I 0,Sr ([]),Sl none 0 0,Sl none 0 0])] (fun X=>?_)
 refine Ki 14 1 #[I 1,I ((Ka x1).1),Sr x2,Sl none 0 0,I 0,I 0,I 0,I 0,Sl none 0 0,I 0,U 0,U 0,I 0,Sr ([]),Sl none 0 0,Sl none 0 0] 53 (fun b2=>JC [(9,Sl (At b2 0) 1 1)] (JL [1,2,3,5,6,7,8] [(0,0)] [] [10] (Ha _) (Kb ?_ K4)))
 refine JA 10 [(5,Pt b 0),(14,Sl (At b2 0) 1 1)] (fun X=>?_)
 refine Qu (b:=b2) (o:=0) (cs:=[I 1,I ((Ka x1).1),Sr x2,Sl none 0 0,I 0,I 0,I 0,I 0,Sl none 0 0,I 0,U 0,U 0,I 0,Sr ([]),Sl none 0 0,Sl none 0 0]) 0 (fun G2 hl2 hz1=>?_)
 have hs1:RS Wr G2 (At b2 0) 1 [(⟨1,(Ka x1).1,x2,[],(⟨0,0,0,0,[],(⟨(⟨0,0,0,0⟩:JV),(⟨[],[],[]⟩:Qy)⟩:QL)⟩:JQ)⟩:KV)]:=RS.lit [[I 1,I ((Ka x1).1),Sr x2,Sl none 0 0,I 0,I 0,I 0,I 0,Sl none 0 0,I 0,U 0,U 0,I 0,Sr ([]),Sl none 0 0,Sl none 0 0]] [(⟨1,(Ka x1).1,x2,[],(⟨0,0,0,0,[],(⟨(⟨0,0,0,0⟩:JV),(⟨[],[],[]⟩:Qy)⟩:QL)⟩:JQ)⟩:KV)] ⟨⟨none,0,none,0,none,0,none,0,rfl,(by (simp;done)),(by have q_:=Y0 x1;(dsimp only;omega)),w2,(JP EI G2),(by (simp;done)),(by (simp;done)),(by (simp;done)),(by (simp;done)),(JP KG G2),(by (simp;done)),(by (simp;done)),(by (simp;done)),(by (simp;done)),(Hf rfl),(JP QJ G2),(JP EU G2)⟩,trivial⟩ hz1 (Hf rfl) (Hf rfl)
 refine Jw 2 (Jw 2 (K2 (Ls:=[[Sg b 0 (Kj t a_0 c_0 a_1 c_1 a_9 c_9)],r_9]) (Lr:=([]::Lr)) 15 hT (Jj7 G2 b t a_0 c_0 a_1 c_1 a_9 c_9 r_9 (h_0.mono (Ja hl1 hl2)) (h_1.mono (Ja hl1 hl2)) h_2 h_3 h_4 h_5 h_6 h_7 h_8 (h_9.mono (Ja hl1 hl2)) (At b2 0) 1 ([(⟨1,(Ka x1).1,x2,[],(⟨0,0,0,0,[],(⟨(⟨0,0,0,0⟩:JV),(⟨[],[],[]⟩:Qy)⟩:QL)⟩:JQ)⟩:KV)]) hs1 ‹_› (by simp)) (fun v G3 L1 hl3 hp=>?_) (fun v G3 L1 hl3 hp=>?_)))
 obtain ⟨hne2,rfl,rfl⟩:=hp
 refine Km (Km ?_)
 have hp3:(Zx t w).2=(ZU t ([(⟨1,(Ka x1).1,x2,[],(⟨0,0,0,0,[],(⟨(⟨0,0,0,0⟩:JV),(⟨[],[],[]⟩:Qy)⟩:QL)⟩:JQ)⟩:KV)])).2:=by
  rw [Jj8 (t:=t) (w:=w) ‹_› ‹_› ‹_›]
 refine Zb (WF (Lr:=Lr) [[Sg b 0 (Kj t a_0 c_0 a_1 c_1 a_9 c_9)],r_9] (Ja (Ja hl1 hl2) hl3) ?_)
 rw [hp3];exact ⟨hne2,rfl,rfl⟩
 obtain ⟨_,a1,c1,a2,c2,a3,c3,a4,c4,r1,rfl,hs2,hs3,hs4,w3,w4,w5,w6,w7,w8,w9,hr1,rfl⟩:=hp
 refine JC [(10,Sl a1 (([]:Bs).length) c1),(11,Sl a1 (([]:Bs).length) c1)] (Kq [0,1,2,3,5,6,7,8] [(11,0)] [] [(4,Sl a1 (([]:Bs).length) c1)] (Ha _) (Jc (Jo (Jk 1 (Jk 1 ?_)))))
 have hf1:(Zx t w).2=0∧([]:Bs)=([]:Bs)∧(Zx t w).1=((ZU t ([(⟨1,(Ka x1).1,x2,[],(⟨0,0,0,0,[],(⟨(⟨0,0,0,0⟩:JV),(⟨[],[],[]⟩:Qy)⟩:QL)⟩:JQ)⟩:KV)])).1):=by
  (rw [Jj8 (t:=t) (w:=w) ‹_› ‹_› ‹_›];exact ⟨by assumption,rfl,rfl⟩)
 refine Jp [0] [Sl a1 (([]:Bs).length) c1] (bpx (KQ (Lr:=Lr) [[Sg b 0 (Kj (ZU t ([(⟨1,(Ka x1).1,x2,[],(⟨0,0,0,0,[],(⟨(⟨0,0,0,0⟩:JV),(⟨[],[],[]⟩:Qy)⟩:QL)⟩:JQ)⟩:KV)])).1 a2 c2 a3 c3 a4 c4)],r1] (Ja (Ja hl1 hl2) hl3) ?_))
 rw [hf1.2.1,hf1.2.2]
 try dsimp only
 exact ⟨hf1.1,a1,c1,a2,c2,a3,c3,a4,c4,r1,rfl,hs2,hs3,hs4,w3,w4,w5,w6,w7,w8,w9,hr1,rfl⟩
abbrev Jlv (kn1:Nat) (t:KD):=ZU t (Hb kn1 (⟨4,0,[],[],(⟨0,0,0,0,[],(⟨(⟨0,0,0,0⟩:JV),(⟨[],[],[]⟩:Qy)⟩:QL)⟩:JQ)⟩:KV))
theorem JnY (G:J4) (b:Nat) (t:KD) (a_0:Ba) (c_0:Nat) (a_1:Ba) (c_1:Nat) (a_9:Ba) (c_9:Nat) (r_9:Bg) (h_0:RS ES G a_0 c_0 t.setup.names) (h_1:RS EU G a_1 c_1 t.setup.keys) (h_2:rI t.setup.most) (h_3:rI t.setup.batch) (h_4:rI t.setup.every) (h_5:rI t.setup.least) (h_6:rI t.setup.top) (h_7:rI t.setup.lost) (h_8:rI t.setup.reach) (h_9:J0 Wr G a_9 c_9 t.deeds r_9) (a_w:Ba) (c_w:Nat) (w:Bs) (h_w:RS ES G a_w c_w w) (hw:w.length=1) (hs:∀ s∈w,s.length≤1048576) (ht:t.deeds.length≤200) (hn:t.setup.names.length≤1000) (hk:t.setup.keys.length≤1000):ZV Tryz.prog 84 #[Pt b 0,Sl a_w w.length c_w] G [[Sg b 0 [Sl a_0 t.setup.names.length c_0,Sl a_1 t.setup.keys.length c_1,I t.setup.most,I t.setup.batch,I t.setup.every,I t.setup.least,I t.setup.top,I t.setup.lost,I t.setup.reach,Sl a_9 t.deeds.length c_9]],r_9] (fun u G' L'=>((Zy t w).2=0)∧∃ (az1:Ba) (cz2:Nat) (az3:Ba) (cz4:Nat) (az5:Ba) (cz6:Nat) (az7:Ba) (cz8:Nat) (rz9:Bg),u=Sl az1 (([]:Bs).length) cz2∧(RS ES G' az1 cz2 ([]:Bs))∧(RS ES G' az3 cz4 (((Zy t w).1).setup.names))∧(RS EU G' az5 cz6 (((Zy t w).1).setup.keys))∧(rI (((Zy t w).1).setup.most))∧(rI (((Zy t w).1).setup.batch))∧(rI (((Zy t w).1).setup.every))∧(rI (((Zy t w).1).setup.least))∧(rI (((Zy t w).1).setup.top))∧(rI (((Zy t w).1).setup.lost))∧(rI (((Zy t w).1).setup.reach))∧(J0 Wr G' az7 cz8 (((Zy t w).1).deeds) rz9)∧L'=[[Sg b 0 [Sl az3 ((((Zy t w).1).setup.names).length) cz4,Sl az5 ((((Zy t w).1).setup.keys).length) cz6,I (((Zy t w).1).setup.most),I (((Zy t w).1).setup.batch),I (((Zy t w).1).setup.every),I (((Zy t w).1).setup.least),I (((Zy t w).1).setup.top),I (((Zy t w).1).setup.lost),I (((Zy t w).1).setup.reach),Sl az7 ((((Zy t w).1).deeds).length) cz8]],rz9]) (fun u _ L'=>(¬ (Zy t w).2=0)∧u=VM ((Zy t w).2)∧L'=[[Sg b 0 [Sl a_0 t.setup.names.length c_0,Sl a_1 t.setup.keys.length c_1,I t.setup.most,I t.setup.batch,I t.setup.every,I t.setup.least,I t.setup.top,I t.setup.lost,I t.setup.reach,Sl a_9 t.deeds.length c_9]],r_9]):=by
 intro Lr
 refine ZG Tryz.func84 17 [(0,Pt b 0),(1,Sl a_w w.length c_w)] rfl (fun w0 G0 hT=>?_)
 show TC _ _ _ _ _ ([Sg b 0 (Kj t a_0 c_0 a_1 c_1 a_9 c_9)]::r_9::Lr)
 refine Jg [0] [] (Jf (Jd (Jb [0] [(6,Sl a_w w.length c_w)] ?_)))
 obtain ⟨b1,o1,rfl⟩:=RS.addr h_w (k:=0) (by omega)
 obtain ⟨x1,hx1⟩:=QW (l:=w) (k:=0) (by omega)
 obtain ⟨_,⟨rfl,_⟩,hc1⟩:=RS.get h_w hx1
 refine JY (b:=b1) (off:=o1) (len:=w.length) (cap:=c_w) (ik:=.i64) 7 9 1 0 J5 (JR 8 9 (cs:=[Sr x1]) 0 (Sr x1) hc1 (K2 (Ls:=[]) (Lr:=([Sg b 0 (Kj t a_0 c_0 a_1 c_1 a_9 c_9)]::r_9::Lr)) 9 hT ((Y1 G x1 (by have q_:=hs _ (Hi hx1);omega)).frame) (fun v G1 L1 hl1 hp=>?_) (fun v G1 L1 hl1 hp=>?_)))
 obtain ⟨hne1,rfl,rfl⟩:=hp
 refine Km ?_
 have hp1:(Zy t w).2=(Ka x1).2:=by
  exact JnW ‹_› ‹_›
 refine Zb (WF (Lr:=Lr) [[Sg b 0 (Kj t a_0 c_0 a_1 c_1 a_9 c_9)],r_9] hl1 ?_)
 rw [hp1];exact ⟨hne1,rfl,rfl⟩
 obtain ⟨_,rfl,rfl⟩:=hp
 refine Jb [0] [(5,I ((Ka x1).1))] (Je (Jc (Jf (Jd (Jb [0,0] [(10,Pt b 0),(11,.agg #[I 4,I 0,Sr ([]),Sl none 0 0,I 0,I 0,I 0,I 0,Sl none 0 0,I 0,U 0,U 0,I 0,Sr ([]),Sl none 0 0,Sl none 0 0])] (Ki 12 1 #[I 4,I 0,Sr ([]),Sl none 0 0,I 0,I 0,I 0,I 0,Sl none 0 0,I 0,U 0,U 0,I 0,Sr ([]),Sl none 0 0,Sl none 0 0] 53 (fun b2=>Jb [0,0] [(14,I (if 201<((Ka x1).1) then 201 else ((Ka x1).1)))] (Qu (b:=b2) (o:=0) (cs:=[I 4,I 0,Sr ([]),Sl none 0 0,I 0,I 0,I 0,I 0,Sl none 0 0,I 0,U 0,U 0,I 0,Sr ([]),Sl none 0 0,Sl none 0 0]) 0 (fun G2 hl2 hz1=>?_)))))))))
 have hs1:RS Wr G2 (At b2 0) 1 [(⟨4,0,[],[],(⟨0,0,0,0,[],(⟨(⟨0,0,0,0⟩:JV),(⟨[],[],[]⟩:Qy)⟩:QL)⟩:JQ)⟩:KV)]:=RS.lit [[I 4,I 0,Sr ([]),Sl none 0 0,I 0,I 0,I 0,I 0,Sl none 0 0,I 0,U 0,U 0,I 0,Sr ([]),Sl none 0 0,Sl none 0 0]] [(⟨4,0,[],[],(⟨0,0,0,0,[],(⟨(⟨0,0,0,0⟩:JV),(⟨[],[],[]⟩:Qy)⟩:QL)⟩:JQ)⟩:KV)] ⟨⟨none,0,none,0,none,0,none,0,rfl,(by (simp;done)),(by (simp;done)),(Hf rfl),(JP EI G2),(by (simp;done)),(by (simp;done)),(by (simp;done)),(by (simp;done)),(JP KG G2),(by (simp;done)),(by (simp;done)),(by (simp;done)),(by (simp;done)),(Hf rfl),(JP QJ G2),(JP EU G2)⟩,trivial⟩ hz1 (Hf rfl) (Hf rfl)
 obtain ⟨kn1,hkn1⟩:∃ k_:Nat,(if 201<((Ka x1).1) then 201 else ((Ka x1).1))=(k_:Int):=⟨(if 201<((Ka x1).1) then 201 else ((Ka x1).1)).toNat,by (have q_:=Y0 x1;omega)⟩
 have e1:(if 201<((Ka x1).1) then 201 else ((Ka x1).1))=(kn1:Int):=hkn1
 refine KE 14 (I (kn1:Int)) (congrArg I e1) (JM 15 (Jfh G2 (At b2 0) 1 (⟨4,0,[],[],(⟨0,0,0,0,[],(⟨(⟨0,0,0,0⟩:JV),(⟨[],[],[]⟩:Qy)⟩:QL)⟩:JQ)⟩:KV) hs1 kn1 J5) (fun v G3 L1 hl3 hp=>?_))
 obtain ⟨a1,c1,_,rfl,hr1,rfl⟩:=hp
 refine WC (E:=Wr) 0 hr1 (by (try simp only [Wr,Hm]);omega) (fun G4 hl4 hs2=>Jw 3 (Jw 3 (K2 (Ls:=[[Sg b 0 (Kj t a_0 c_0 a_1 c_1 a_9 c_9)],r_9]) (Lr:=([]::[]::Lr)) 16 hT (Jj7 G4 b t a_0 c_0 a_1 c_1 a_9 c_9 r_9 (h_0.mono (Ja (Ja (Ja hl1 hl2) hl3) hl4)) (h_1.mono (Ja (Ja (Ja hl1 hl2) hl3) hl4)) h_2 h_3 h_4 h_5 h_6 h_7 h_8 (h_9.mono (Ja (Ja (Ja hl1 hl2) hl3) hl4)) a1 c1 (Hb kn1 (⟨4,0,[],[],(⟨0,0,0,0,[],(⟨(⟨0,0,0,0⟩:JV),(⟨[],[],[]⟩:Qy)⟩:QL)⟩:JQ)⟩:KV)) hs2 ‹_› (by (rw [Hm];have q_:=Y0 x1;omega))) (fun v G5 L1 hl5 hp=>?_) (fun v G5 L1 hl5 hp=>?_))))
 obtain ⟨hne2,rfl,rfl⟩:=hp
 refine Km ?_
 have hp3:(Zy t w).2=(Jlv kn1 t).2:=by
  rw [Jj9 (t:=t) (w:=w) ‹_› ‹_› ‹_›]
 refine Zb (WF (Lr:=Lr) [[Sg b 0 (Kj t a_0 c_0 a_1 c_1 a_9 c_9)],r_9] (Ja (Ja (Ja (Ja hl1 hl2) hl3) hl4) hl5) ?_)
 rw [hp3];exact ⟨hne2,rfl,rfl⟩
 obtain ⟨_,a2,c2,a3,c3,a4,c4,a5,c5,r2,rfl,hs3,hs4,hs5,w2,w3,w4,w5,w6,w7,w8,hr2,rfl⟩:=hp
 refine Jb [0] [(4,Sl a2 (([]:Bs).length) c2)] (Je (Jc (Jo (Jk 1 (Jk 1 ?_)))))
 have hf1:(Zy t w).2=0∧([]:Bs)=([]:Bs)∧(Zy t w).1=((Jlv kn1 t).1):=by
  (rw [Jj9 (t:=t) (w:=w) ‹_› ‹_› ‹_›];exact ⟨by assumption,rfl,rfl⟩)
 refine Jp [0] [Sl a2 (([]:Bs).length) c2] (bpx (KQ (Lr:=Lr) [[Sg b 0 (Kj (Jlv kn1 t).1 a3 c3 a4 c4 a5 c5)],r2] (Ja (Ja (Ja (Ja hl1 hl2) hl3) hl4) hl5) ?_))
 rw [hf1.2.1,hf1.2.2]
 try dsimp only
 exact ⟨hf1.1,a2,c2,a3,c3,a4,c4,a5,c5,r2,rfl,hs3,hs4,hs5,w2,w3,w4,w5,w6,w7,w8,hr2,rfl⟩
def Jcr (t:KD) (w:Bs):Bs×Int:=if ¬ (Js t.setup t.deeds).2.2=0 then ([],(Js t.setup t.deeds).2.2) else ([(Js t.setup t.deeds).1.clerk.now,((Js t.setup t.deeds).1.clerk.heads.length:Int),((Js t.setup t.deeds).1.clerk.queue.wait.length:Int)].map Lib.itoa,0)
theorem JcH (G:J4) (b:Nat) (t:KD) (a_0:Ba) (c_0:Nat) (a_1:Ba) (c_1:Nat) (a_9:Ba) (c_9:Nat) (r_9:Bg) (h_0:RS ES G a_0 c_0 t.setup.names) (h_1:RS EU G a_1 c_1 t.setup.keys) (h_2:rI t.setup.most) (h_3:rI t.setup.batch) (h_4:rI t.setup.every) (h_5:rI t.setup.least) (h_6:rI t.setup.top) (h_7:rI t.setup.lost) (h_8:rI t.setup.reach) (h_9:J0 Wr G a_9 c_9 t.deeds r_9)  (ht:t.deeds.length≤200):ZV Tryz.prog 139 #[Pt b 0] G [[Sg b 0 [Sl a_0 t.setup.names.length c_0,Sl a_1 t.setup.keys.length c_1,I t.setup.most,I t.setup.batch,I t.setup.every,I t.setup.least,I t.setup.top,I t.setup.lost,I t.setup.reach,Sl a_9 t.deeds.length c_9]],r_9] (fun u G' L'=>((Js t.setup t.deeds).2.2=0)∧∃ (az1:Ba) (cz2:Nat) (az3:Ba) (cz4:Nat) (az5:Ba) (cz6:Nat) (az7:Ba) (cz8:Nat) (az9:Ba) (cz10:Nat) (az11:Ba) (cz12:Nat) (az13:Ba) (cz14:Nat),u=.tuple #[.agg #[I (((Js t.setup t.deeds).1).clerk.queue.most),Sl az1 ((((Js t.setup t.deeds).1).clerk.queue.wait).length) cz2,I (((Js t.setup t.deeds).1).clerk.batch),I (((Js t.setup t.deeds).1).clerk.every),I (((Js t.setup t.deeds).1).clerk.now),Sl az3 ((((Js t.setup t.deeds).1).clerk.heads).length) cz4,Sl az5 ((((Js t.setup t.deeds).1).clerk.books).length) cz6,Sl az7 ((((Js t.setup t.deeds).1).owners).length) cz8,Sl az9 ((((Js t.setup t.deeds).1).polls).length) cz10,I (((Js t.setup t.deeds).1).net.now),Sl az11 ((((Js t.setup t.deeds).1).net.way).length) cz12],Sl az13 (((Js t.setup t.deeds).2.1).length) cz14]∧(rI (((Js t.setup t.deeds).1).clerk.queue.most))∧(RS Q4 G' az1 cz2 (((Js t.setup t.deeds).1).clerk.queue.wait))∧(rI (((Js t.setup t.deeds).1).clerk.batch))∧(rI (((Js t.setup t.deeds).1).clerk.every))∧(rI (((Js t.setup t.deeds).1).clerk.now))∧(RS KG G' az3 cz4 (((Js t.setup t.deeds).1).clerk.heads))∧(RS Qi G' az5 cz6 (((Js t.setup t.deeds).1).clerk.books))∧(RS QG G' az7 cz8 (((Js t.setup t.deeds).1).owners))∧(RS Wp G' az9 cz10 (((Js t.setup t.deeds).1).polls))∧(rI (((Js t.setup t.deeds).1).net.now))∧(RS Kg G' az11 cz12 (((Js t.setup t.deeds).1).net.way))∧(RS QR G' az13 cz14 ((Js t.setup t.deeds).2.1))∧L'=[[Sg b 0 [Sl a_0 t.setup.names.length c_0,Sl a_1 t.setup.keys.length c_1,I t.setup.most,I t.setup.batch,I t.setup.every,I t.setup.least,I t.setup.top,I t.setup.lost,I t.setup.reach,Sl a_9 t.deeds.length c_9]],r_9]) (fun u _ L'=>(¬ (Js t.setup t.deeds).2.2=0)∧u=VM ((Js t.setup t.deeds).2.2)∧L'=[[Sg b 0 [Sl a_0 t.setup.names.length c_0,Sl a_1 t.setup.keys.length c_1,I t.setup.most,I t.setup.batch,I t.setup.every,I t.setup.least,I t.setup.top,I t.setup.lost,I t.setup.reach,Sl a_9 t.deeds.length c_9]],r_9]):=by
 intro Lr
 refine ZG Tryz.func139 24 [(0,Pt b 0)] rfl (fun w0 G0 hT=>?_)
 show TC _ _ _ _ _ ([Sg b 0 (Kj t a_0 c_0 a_1 c_1 a_9 c_9)]::r_9::Lr)
 refine Jf (Jd (Jv 2 #[I 0,Sl none 0 0,I 0,I 0,I 0,Sl none 0 0,Sl none 0 0,Sl none 0 0,Sl none 0 0,I 0,Sl none 0 0] 67 (fun b1=>Jb [0] [] (Je (Jc ?_)))))
 refine Ym (σ:=Nat×Ba×Nat×Ba×Nat×Ba×Nat×Ba×Nat×Ba×Nat×Ba×Nat×Ba×Nat×J4) (fun q_=>(J4.le G q_.2.2.2.2.2.2.2.2.2.2.2.2.2.2.2)∧(RS QR q_.2.2.2.2.2.2.2.2.2.2.2.2.2.2.2 q_.2.1 q_.2.2.1 ((Js t.setup t.deeds).2.1))∧(rI (((Js t.setup t.deeds).1).clerk.queue.most))∧(RS Q4 q_.2.2.2.2.2.2.2.2.2.2.2.2.2.2.2 q_.2.2.2.1 q_.2.2.2.2.1 (((Js t.setup t.deeds).1).clerk.queue.wait))∧(rI (((Js t.setup t.deeds).1).clerk.batch))∧(rI (((Js t.setup t.deeds).1).clerk.every))∧(rI (((Js t.setup t.deeds).1).clerk.now))∧(RS KG q_.2.2.2.2.2.2.2.2.2.2.2.2.2.2.2 q_.2.2.2.2.2.1 q_.2.2.2.2.2.2.1 (((Js t.setup t.deeds).1).clerk.heads))∧(RS Qi q_.2.2.2.2.2.2.2.2.2.2.2.2.2.2.2 q_.2.2.2.2.2.2.2.1 q_.2.2.2.2.2.2.2.2.1 (((Js t.setup t.deeds).1).clerk.books))∧(RS QG q_.2.2.2.2.2.2.2.2.2.2.2.2.2.2.2 q_.2.2.2.2.2.2.2.2.2.1 q_.2.2.2.2.2.2.2.2.2.2.1 (((Js t.setup t.deeds).1).owners))∧(RS Wp q_.2.2.2.2.2.2.2.2.2.2.2.2.2.2.2 q_.2.2.2.2.2.2.2.2.2.2.2.1 q_.2.2.2.2.2.2.2.2.2.2.2.2.1 (((Js t.setup t.deeds).1).polls))∧(rI (((Js t.setup t.deeds).1).net.now))∧(RS Kg q_.2.2.2.2.2.2.2.2.2.2.2.2.2.2.2 q_.2.2.2.2.2.2.2.2.2.2.2.2.2.1 q_.2.2.2.2.2.2.2.2.2.2.2.2.2.2.1 (((Js t.setup t.deeds).1).net.way))) (fun q_=>[(2,Pt b1 0),(4,Pt q_.1 0),(5,Sl q_.2.1 (((Js t.setup t.deeds).2.1).length) q_.2.2.1),(6,I ((Js t.setup t.deeds).2.2))]) (fun q_=>q_.2.2.2.2.2.2.2.2.2.2.2.2.2.2.2) (fun q_=>([Sg q_.1 0 (ZW (Js t.setup t.deeds).1 q_.2.2.2.1 q_.2.2.2.2.1 q_.2.2.2.2.2.1 q_.2.2.2.2.2.2.1 q_.2.2.2.2.2.2.2.1 q_.2.2.2.2.2.2.2.2.1 q_.2.2.2.2.2.2.2.2.2.1 q_.2.2.2.2.2.2.2.2.2.2.1 q_.2.2.2.2.2.2.2.2.2.2.2.1 q_.2.2.2.2.2.2.2.2.2.2.2.2.1 q_.2.2.2.2.2.2.2.2.2.2.2.2.2.1 q_.2.2.2.2.2.2.2.2.2.2.2.2.2.2.1)]::r_9::[Sg b1 0 [I 0,Sl none 0 0,I 0,I 0,I 0,Sl none 0 0,Sl none 0 0,Sl none 0 0,Sl none 0 0,I 0,Sl none 0 0]]::[Sg b 0 (Kj t a_0 c_0 a_1 c_1 a_9 c_9)]::Lr)) ?_ (fun q_ hs=>?_)
 refine Kt [8,13,14] (Wz [(0,Pt b 0),(1,Pt b 0),(2,Pt b 0),(3,(Va t.setup a_0 c_0 a_1 c_1)),(4,Pt b 0),(5,Pt b 0),(6,Pt b 9),(7,Sl a_9 t.deeds.length c_9)] (JL [] [(0,0),(1,0),(2,0),(3,4),(4,0),(5,0),(6,0),(7,4)] [] [8,13] (Ha _) (Kb ?_ (Kb ?_ K4))))
 refine JA 8 [(11,(Va t.setup a_0 c_0 a_1 c_1)),(15,Sl a_9 t.deeds.length c_9)] (fun X=>?_)
 refine Jw 2 (Qq (Ls:=[r_9]) (Lr:=([Sg b1 0 [I 0,Sl none 0 0,I 0,I 0,I 0,Sl none 0 0,Sl none 0 0,Sl none 0 0,Sl none 0 0,I 0,Sl none 0 0]]::[Sg b 0 (Kj t a_0 c_0 a_1 c_1 a_9 c_9)]::Lr)) 16 (JeJ G (WH t.setup a_0 c_0 a_1 c_1) t.setup (⟨a_0,c_0,a_1,c_1,rfl,h_0,h_1,h_2,h_3,h_4,h_5,h_6,h_7,h_8⟩) a_9 c_9 t.deeds r_9 h_9) (fun v G1 L1 hl1 hp=>?_))
 obtain ⟨a1,c1,a2,c2,a3,c3,a4,c4,a5,c5,a6,c6,a7,c7,rfl,w1,hs1,w2,w3,w4,hs2,hs3,hs4,hs5,w5,hs6,hs7,rfl⟩:=hp
 refine JC [(8,.tuple #[(Vf (Js t.setup t.deeds).1 a1 c1 a2 c2 a3 c3 a4 c4 a5 c5 a6 c6),Sl a7 (((Js t.setup t.deeds).2.1).length) c7,I ((Js t.setup t.deeds).2.2)]),(9,.tuple #[(Vf (Js t.setup t.deeds).1 a1 c1 a2 c2 a3 c3 a4 c4 a5 c5 a6 c6),Sl a7 (((Js t.setup t.deeds).2.1).length) c7,I ((Js t.setup t.deeds).2.2)]),(10,(Vf (Js t.setup t.deeds).1 a1 c1 a2 c2 a3 c3 a4 c4 a5 c5 a6 c6)),(11,Sl a7 (((Js t.setup t.deeds).2.1).length) c7),(12,I ((Js t.setup t.deeds).2.2))] (JL [0,1,2,3,4,5,6,7] [(9,0),(10,0),(11,0),(12,0)] [] [13] (Ha _) (Kb ?_ K4))
 refine JA 13 [] (fun X=>?_)
 refine Jv 4 #[I 0,Sl none 0 0,I 0,I 0,I 0,Sl none 0 0,Sl none 0 0,Sl none 0 0,Sl none 0 0,I 0,Sl none 0 0] 67 (fun b2=>JC [(13,Pt b2 0)] (JL [0,1,2,3,4,5,6,7] [(9,0),(10,0),(11,0),(12,0)] [] [14] (Ha _) (Kb ?_ K4)))
 refine JA 14 [(4,Pt b2 0),(17,(Vf (Js t.setup t.deeds).1 a1 c1 a2 c2 a3 c3 a4 c4 a5 c5 a6 c6))] (fun X=>?_)
 exact KI 0 ([Sg b2 0 (ZW (Js t.setup t.deeds).1 a1 c1 a2 c2 a3 c3 a4 c4 a5 c5 a6 c6)]::r_9::[Sg b1 0 [I 0,Sl none 0 0,I 0,I 0,I 0,Sl none 0 0,Sl none 0 0,Sl none 0 0,Sl none 0 0,I 0,Sl none 0 0]]::[Sg b 0 (Kj t a_0 c_0 a_1 c_1 a_9 c_9)]::Lr) (J9 [(15,Sl a7 (((Js t.setup t.deeds).2.1).length) c7),(16,I ((Js t.setup t.deeds).2.2))] (Kq [0,1,2,3,4,5,6,7,9,10] [(11,0),(12,0),(15,0),(16,0)] [] [(2,Pt b1 0),(4,Pt b2 0),(5,Sl a7 (((Js t.setup t.deeds).2.1).length) c7),(6,I ((Js t.setup t.deeds).2.2))] (Ha _) (Q3 (b2,a7,c7,a1,c1,a2,c2,a3,c3,a4,c4,a5,c5,a6,c6,G1) ⟨hl1,hs7,w1,hs1,w2,w3,w4,hs2,hs3,hs4,hs5,w5,hs6⟩)))
 refine JA 13 [] (fun X=>?_)
 refine Jv 4 #[I 0,Sl none 0 0,I 0,I 0,I 0,Sl none 0 0,Sl none 0 0,Sl none 0 0,Sl none 0 0,I 0,Sl none 0 0] 67 (fun b3=>JC [(13,Pt b3 0)] (JL [] [(0,0),(1,0),(2,0),(3,6),(4,0),(5,0),(6,0),(7,6)] [] [8] (Ha _) (Kb ?_ K4)))
 refine JA 8 [(11,(Va t.setup a_0 c_0 a_1 c_1)),(15,Sl a_9 t.deeds.length c_9)] (fun X=>?_)
 refine Jw 3 (Qq (Ls:=[r_9]) (Lr:=([Sg b3 0 [I 0,Sl none 0 0,I 0,I 0,I 0,Sl none 0 0,Sl none 0 0,Sl none 0 0,Sl none 0 0,I 0,Sl none 0 0]]::[Sg b1 0 [I 0,Sl none 0 0,I 0,I 0,I 0,Sl none 0 0,Sl none 0 0,Sl none 0 0,Sl none 0 0,I 0,Sl none 0 0]]::[Sg b 0 (Kj t a_0 c_0 a_1 c_1 a_9 c_9)]::Lr)) 16 (JeJ G (WH t.setup a_0 c_0 a_1 c_1) t.setup (⟨a_0,c_0,a_1,c_1,rfl,h_0,h_1,h_2,h_3,h_4,h_5,h_6,h_7,h_8⟩) a_9 c_9 t.deeds r_9 h_9) (fun v G2 L1 hl2 hp=>?_))
 obtain ⟨a8,c8,a9,c9,a10,c10,a11,c11,a12,c12,a13,c13,a14,c14,rfl,w6,hs8,w7,w8,w9,hs9,hs10,hs11,hs12,w10,hs13,hs14,rfl⟩:=hp
 refine JC [(8,.tuple #[(Vf (Js t.setup t.deeds).1 a8 c8 a9 c9 a10 c10 a11 c11 a12 c12 a13 c13),Sl a14 (((Js t.setup t.deeds).2.1).length) c14,I ((Js t.setup t.deeds).2.2)]),(9,.tuple #[(Vf (Js t.setup t.deeds).1 a8 c8 a9 c9 a10 c10 a11 c11 a12 c12 a13 c13),Sl a14 (((Js t.setup t.deeds).2.1).length) c14,I ((Js t.setup t.deeds).2.2)]),(10,(Vf (Js t.setup t.deeds).1 a8 c8 a9 c9 a10 c10 a11 c11 a12 c12 a13 c13)),(11,Sl a14 (((Js t.setup t.deeds).2.1).length) c14),(12,I ((Js t.setup t.deeds).2.2))] (JL [0,1,2,3,4,5,6,7] [(9,0),(10,0),(11,0),(12,0)] [] [14] (Ha _) (Kb ?_ K4))
 refine JA 14 [(4,Pt b3 0),(17,(Vf (Js t.setup t.deeds).1 a8 c8 a9 c9 a10 c10 a11 c11 a12 c12 a13 c13))] (fun X=>?_)
 exact KI 1 (r_9::[Sg b3 0 (ZW (Js t.setup t.deeds).1 a8 c8 a9 c9 a10 c10 a11 c11 a12 c12 a13 c13)]::[Sg b1 0 [I 0,Sl none 0 0,I 0,I 0,I 0,Sl none 0 0,Sl none 0 0,Sl none 0 0,Sl none 0 0,I 0,Sl none 0 0]]::[Sg b 0 (Kj t a_0 c_0 a_1 c_1 a_9 c_9)]::Lr) (J9 [(15,Sl a14 (((Js t.setup t.deeds).2.1).length) c14),(16,I ((Js t.setup t.deeds).2.2))] (Kq [0,1,2,3,4,5,6,7,9,10] [(11,0),(12,0),(15,0),(16,0)] [] [(2,Pt b1 0),(4,Pt b3 0),(5,Sl a14 (((Js t.setup t.deeds).2.1).length) c14),(6,I ((Js t.setup t.deeds).2.2))] (Ha _) (Jk 3 (Jk 3 (Jk 2 (Jk 3 (Q3 (b3,a14,c14,a8,c8,a9,c9,a10,c10,a11,c11,a12,c12,a13,c13,G2) ⟨hl2,hs14,w6,hs8,w7,w8,w9,hs9,hs10,hs11,hs12,w10,hs13⟩)))))))
 obtain ⟨b2,a7,c7,a1,c1,a2,c2,a3,c3,a4,c4,a5,c5,a6,c6,G1⟩:=q_
 obtain ⟨hle1,hj1,hj2,hj3,hj4,hj5,hj6,hj7,hj8,hj9,hj10,hj11,hj12⟩:=hs
 dsimp only at hle1 hj1 hj2 hj3 hj4 hj5 hj6 hj7 hj8 hj9 hj10 hj11 hj12
 dsimp only
 refine Jf (Jd (Jb [0] [(20,I ((Js t.setup t.deeds).2.2))] (K2 (Ls:=[]) (Lr:=([Sg b2 0 (ZW (Js t.setup t.deeds).1 a1 c1 a2 c2 a3 c3 a4 c4 a5 c5 a6 c6)]::r_9::[Sg b1 0 [I 0,Sl none 0 0,I 0,I 0,I 0,Sl none 0 0,Sl none 0 0,Sl none 0 0,Sl none 0 0,I 0,Sl none 0 0]]::[Sg b 0 (Kj t a_0 c_0 a_1 c_1 a_9 c_9)]::Lr)) 21 hT ((Z2 G1 ((Js t.setup t.deeds).2.2)).frame) (fun v G3 L1 hl3 hp=>?_) (fun v G3 L1 hl3 hp=>?_))))
 obtain ⟨hne1,rfl,rfl⟩:=hp
 refine Km ?_
 have hp1:(Js t.setup t.deeds).2.2=(Js t.setup t.deeds).2.2:=by
  rfl
 refine Jk 1 (Jk 3 ?_)
 refine Zb (WF (Lr:=Lr) [[Sg b 0 (Kj t a_0 c_0 a_1 c_1 a_9 c_9)],r_9] (Ja hle1 hl3) ?_)
 rw [hp1];exact ⟨hne1,rfl,rfl⟩
 obtain ⟨_,rfl,rfl⟩:=hp
 refine Je (Jc (QF [2,0,7,0] [(3,Sl a7 (((Js t.setup t.deeds).2.1).length) c7)] ([Sg b2 0 (ZW (Js t.setup t.deeds).1 a1 c1 a2 c2 a3 c3 a4 c4 a5 c5 a6 c6)]::r_9::[Sg b1 0 (ZW (Js t.setup t.deeds).1 a1 c1 a2 c2 a3 c3 a4 c4 a5 c5 a6 c6)]::[Sg b 0 (Kj t a_0 c_0 a_1 c_1 a_9 c_9)]::Lr) (Jo (Jk 1 (Jk 3 ?_)))))
 have hf1:(Js t.setup t.deeds).2.2=0∧(Js t.setup t.deeds).1=((Js t.setup t.deeds).1)∧(Js t.setup t.deeds).2.1=(Js t.setup t.deeds).2.1:=by
  exact ⟨by assumption,rfl,rfl⟩
 refine Jp [3,0] [(Vf (Js t.setup t.deeds).1 a1 c1 a2 c2 a3 c3 a4 c4 a5 c5 a6 c6),Sl a7 (((Js t.setup t.deeds).2.1).length) c7] (bpx (KQ (Lr:=Lr) [[Sg b 0 (Kj t a_0 c_0 a_1 c_1 a_9 c_9)],r_9] (Ja hle1 hl3) ?_))
 rw [hf1.2.1,hf1.2.2]
 try dsimp only
 exact ⟨hf1.1,a1,c1,a2,c2,a3,c3,a4,c4,a5,c5,a6,c6,a7,c7,rfl,hj2,(hj3.mono hl3),hj4,hj5,hj6,(hj7.mono hl3),(hj8.mono hl3),(hj9.mono hl3),(hj10.mono hl3),hj11,(hj12.mono hl3),(hj1.mono hl3),rfl⟩
theorem JpY (G:J4) (b:Nat) (t:KD) (a_0:Ba) (c_0:Nat) (a_1:Ba) (c_1:Nat) (a_9:Ba) (c_9:Nat) (r_9:Bg) (h_0:RS ES G a_0 c_0 t.setup.names) (h_1:RS EU G a_1 c_1 t.setup.keys) (h_2:rI t.setup.most) (h_3:rI t.setup.batch) (h_4:rI t.setup.every) (h_5:rI t.setup.least) (h_6:rI t.setup.top) (h_7:rI t.setup.lost) (h_8:rI t.setup.reach) (h_9:J0 Wr G a_9 c_9 t.deeds r_9) (a_w:Ba) (c_w:Nat) (w:Bs) (h_w:RS ES G a_w c_w w) (ht:t.deeds.length≤200):ZV Tryz.prog 85 #[Pt b 0,Sl a_w w.length c_w] G [[Sg b 0 [Sl a_0 t.setup.names.length c_0,Sl a_1 t.setup.keys.length c_1,I t.setup.most,I t.setup.batch,I t.setup.every,I t.setup.least,I t.setup.top,I t.setup.lost,I t.setup.reach,Sl a_9 t.deeds.length c_9]],r_9] (fun u G' L'=>((Jcr t w).2=0)∧∃ (az1:Ba) (cz2:Nat),u=Sl az1 (((Jcr t w).1).length) cz2∧(RS ES G' az1 cz2 ((Jcr t w).1))∧L'=[[Sg b 0 [Sl a_0 t.setup.names.length c_0,Sl a_1 t.setup.keys.length c_1,I t.setup.most,I t.setup.batch,I t.setup.every,I t.setup.least,I t.setup.top,I t.setup.lost,I t.setup.reach,Sl a_9 t.deeds.length c_9]],r_9]) (fun u _ L'=>(¬ (Jcr t w).2=0)∧u=VM ((Jcr t w).2)∧L'=[[Sg b 0 [Sl a_0 t.setup.names.length c_0,Sl a_1 t.setup.keys.length c_1,I t.setup.most,I t.setup.batch,I t.setup.every,I t.setup.least,I t.setup.top,I t.setup.lost,I t.setup.reach,Sl a_9 t.deeds.length c_9]],r_9]):=by
 intro Lr
 refine ZG Tryz.func85 26 [(0,Pt b 0),(1,Sl a_w w.length c_w)] rfl (fun w0 G0 hT=>?_)
 show TC _ _ _ _ _ ([Sg b 0 (Kj t a_0 c_0 a_1 c_1 a_9 c_9)]::r_9::Lr)
 refine Jg [0] [] (Jf (Jd (Jb [0] [(8,Pt b 0)] (Jw 1 (Jw 1 (K2 (Ls:=[[Sg b 0 (Kj t a_0 c_0 a_1 c_1 a_9 c_9)],r_9]) (Lr:=Lr) 9 hT (JcH G b t a_0 c_0 a_1 c_1 a_9 c_9 r_9 h_0 h_1 h_2 h_3 h_4 h_5 h_6 h_7 h_8 h_9 ‹_›) (fun v G1 L1 hl1 hp=>?_) (fun v G1 L1 hl1 hp=>?_)))))))
 obtain ⟨hne1,rfl,rfl⟩:=hp
 refine Km ?_
 have hp1:(Jcr t w).2=(Js t.setup t.deeds).2.2:=by
  unfold Jcr;rw [if_pos ‹_›]
 refine Zb (WF (Lr:=Lr) [[Sg b 0 (Kj t a_0 c_0 a_1 c_1 a_9 c_9)],r_9] hl1 ?_)
 rw [hp1];exact ⟨hne1,rfl,rfl⟩
 obtain ⟨_,a1,c1,a2,c2,a3,c3,a4,c4,a5,c5,a6,c6,a7,c7,rfl,_,_,_,_,w4,_,_,_,_,_,_,_,rfl⟩:=hp
 refine Jb [0,0,0] [(10,(Vf (Js t.setup t.deeds).1 a1 c1 a2 c2 a3 c3 a4 c4 a5 c5 a6 c6)),(11,Sl a7 (((Js t.setup t.deeds).2.1).length) c7)] (Jv 5 #[I 0,Sl none 0 0,I 0,I 0,I 0,Sl none 0 0,Sl none 0 0,Sl none 0 0,Sl none 0 0,I 0,Sl none 0 0] 67 (fun b1=>JX [3,0] [] ([Sg b1 0 (ZW (Js t.setup t.deeds).1 a1 c1 a2 c2 a3 c3 a4 c4 a5 c5 a6 c6)]::[Sg b 0 (Kj t a_0 c_0 a_1 c_1 a_9 c_9)]::r_9::Lr) (Je (Jc (Jf (Jd (Jb [0,0,2,0,0,2,0,0,0,0,2,0] [(14,I (((Js t.setup t.deeds).1).clerk.now)),(18,I ((((Js t.setup t.deeds).1).clerk.heads).length:Int)),(23,I ((((Js t.setup t.deeds).1).clerk.queue.wait).length:Int))] (Ki 24 3 #[I (((Js t.setup t.deeds).1).clerk.now),I ((((Js t.setup t.deeds).1).clerk.heads).length:Int),I ((((Js t.setup t.deeds).1).clerk.queue.wait).length:Int)] 3 (fun b2=>Qu (b:=b2) (o:=0) (cs:=[I (((Js t.setup t.deeds).1).clerk.now),I ((((Js t.setup t.deeds).1).clerk.heads).length:Int),I ((((Js t.setup t.deeds).1).clerk.queue.wait).length:Int)]) 0 (fun G2 hl2 hz1=>?_))))))))))
 have hs8:RS EI G2 (At b2 0) 3 [((Js t.setup t.deeds).1).clerk.now,((((Js t.setup t.deeds).1).clerk.heads).length:Int),((((Js t.setup t.deeds).1).clerk.queue.wait).length:Int)]:=RS.lit [[I (((Js t.setup t.deeds).1).clerk.now)],[I ((((Js t.setup t.deeds).1).clerk.heads).length:Int)],[I ((((Js t.setup t.deeds).1).clerk.queue.wait).length:Int)]] [((Js t.setup t.deeds).1).clerk.now,((((Js t.setup t.deeds).1).clerk.heads).length:Int),((((Js t.setup t.deeds).1).clerk.queue.wait).length:Int)] ⟨⟨rfl,w4⟩,⟨⟨rfl,(by (have q_:=Yl (Jbt ‹_›).1;omega))⟩,⟨⟨rfl,(by (have q_:=Yl (Jbt ‹_›).1;omega))⟩,trivial⟩⟩⟩ hz1 (Hf rfl) (Hf rfl)
 refine Ye (Ls:=[]) (Lr:=([]::[Sg b1 0 (ZW (Js t.setup t.deeds).1 a1 c1 a2 c2 a3 c3 a4 c4 a5 c5 a6 c6)]::[Sg b 0 (Kj t a_0 c_0 a_1 c_1 a_9 c_9)]::r_9::Lr)) 25 hT ((JgB G2 (At b2 0) 3 ([((Js t.setup t.deeds).1).clerk.now,((((Js t.setup t.deeds).1).clerk.heads).length:Int),((((Js t.setup t.deeds).1).clerk.queue.wait).length:Int)]) hs8 (by simp)).frame) (fun v G3 L1 hl3 hp=>?_)
 obtain ⟨_,a8,c8,_,rfl,hr1,rfl⟩:=hp
 refine Jb [0] [(4,Sl a8 ((([((Js t.setup t.deeds).1).clerk.now,((((Js t.setup t.deeds).1).clerk.heads).length:Int),((((Js t.setup t.deeds).1).clerk.queue.wait).length:Int)]).map Lib.itoa).length) c8)] (Je (Jc (Jo (Wm (E:=ES) 0 hr1 (by (try simp only [ES,EI,Hj,Hc,Hg]);omega) (fun G4 hl4 hs9=>Jk 4 (Jk 4 ?_))))))
 have hf1:(Jcr t w).2=0∧(Jcr t w).1=([((Js t.setup t.deeds).1).clerk.now,((((Js t.setup t.deeds).1).clerk.heads).length:Int),((((Js t.setup t.deeds).1).clerk.queue.wait).length:Int)]).map Lib.itoa:=by
  unfold Jcr;rw [if_neg (by omega)];exact ⟨rfl,rfl⟩
 refine Jp [0] [Sl a8 ((([((Js t.setup t.deeds).1).clerk.now,((((Js t.setup t.deeds).1).clerk.heads).length:Int),((((Js t.setup t.deeds).1).clerk.queue.wait).length:Int)]).map Lib.itoa).length) c8] (bpx (KQ (Lr:=Lr) [[Sg b 0 (Kj t a_0 c_0 a_1 c_1 a_9 c_9)],r_9] (Ja (Ja (Ja hl1 hl2) hl3) hl4) ?_))
 rw [hf1.2]
 try dsimp only
 exact ⟨hf1.1,a8,c8,rfl,hs9,rfl⟩
end Go.Proofs.YteaampgpgokjmaaGreatDoor
