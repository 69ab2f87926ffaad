import Derived.Test.YteaampgpgokjmaaGreatDoorTmD
set_option linter.unusedVariables false
set_option linter.unusedSimpArgs false
namespace Go.Proofs.YteaampgpgokjmaaGreatDoor
open Go.Tx
open Go.Proofs
open _root_.List renaming forall_mem_nil → Ha, length_set → Hd
open IntKind renaming i64 → Hb
open _root_.Nat renaming le_of_ble_eq_true → Hc
open IntWalk renaming i64_in → He
theorem Jcu {t:JI} {l:JU} (h:t.town.clerk.heads.length≤9000000000000000000) (hr:1≤t.reach∧t.reach≤40):0≤WS t l∧WS t l≤9000000000000000000∧-1≤Vy t l∧Vy t l≤9000000000000000000∧-1≤W1 t∧W1 t≤9000000000000000000:=by
 unfold Vy WS W1 minI maxI
 (repeat' split) <;> omega
structure Jhw (p:We):Prop where
 least:-9223372036854775808≤p.least∧p.least<9223372036854775808
 most:-9223372036854775808≤p.most∧p.most<9223372036854775808
 lost:-9223372036854775808≤p.lost∧p.lost<9223372036854775808
 gap:-9223372036854775808≤p.gap∧p.gap<9223372036854775808
 next:-9223372036854775808≤p.next∧p.next<9223372036854775808
 asked:-9223372036854775808≤p.asked∧p.asked<9223372036854775808
theorem Jhw.ok {p:We} (h:Vs p):Jhw p:=by
 unfold Vs at h
 refine ⟨?_,?_,?_,?_,?_,?_⟩ <;> omega
theorem Jim:Jhw VU:=⟨by decide,by decide,by decide,by decide,by decide,by decide⟩
theorem Jah (p:We) (now:Int):Jhw (KQ p now).1:=by
 by_cases h:(KQ p now).2=0
 · exact .ok ((ZL _).1 (JeX h).2.2.2.2.2.2.2.2.2.2.2.2.2.2.1)
 · rw [Jii h];exact Jim
theorem Jcv (p:We) (now:Int):Jhw (Wa p now).1:=by
 by_cases h:(Wa p now).2=0
 ·
  obtain ⟨q,_⟩:=Jij h
  obtain ⟨q1,q2,q3⟩:=(Jc9 p now).1 q
  exact .ok ((ZL _).1 (Je3 ((ZL _).2 q1) q2 q3))
 ·
  have e:(Wa p now).1=VU:=by revert h;unfold Wa;split <;> simp
  rw [e];exact Jim
theorem JoY {t:JI} {l:JU} (h:Zi t l.from_=false):Qn t l=t:=by unfold Qn;rw [if_pos h]
theorem JoZ {t:JI} {l:JU} (h:Zi t l.from_=true):Qn t l=Wo t ⟨l.from_,0,0,0,(ZS t.town.clerk (WS t l) (Vy t l)).1,(JL t.town.clerk (Js t l.from_).name (Vy t l)).1⟩:=by unfold Qn;rw [if_neg (by rw [h];simp)]
theorem Jo0 {t:JI} {l:JU} {k:Int} (e:l.from_=k) (h:Zi t l.from_=true):Qn t l=Wo t ⟨k,0,0,0,(ZS t.town.clerk (WS t l) (Vy t l)).1,(JL t.town.clerk (Js t k).name (Vy t l)).1⟩:=by subst e;exact JoZ h
theorem JlU {t:JI} {l:JU} {k:Nat} (e:l.to_=(k:Int)):Yd t l=⟨⟨t.town.clerk,t.town.owners.set k (JC (Js t (k:Int)) l.heads l.reply).1,if (JC (Js t (k:Int)) l.heads l.reply).2.1=0∨(JC (Js t (k:Int)) l.heads l.reply).2.1=1 then t.town.polls.set k (Wa (QB t (k:Int)) t.town.clerk.now).1 else t.town.polls,t.town.net⟩,t.reach,t.fates,t.events++[⟨2,(k:Int),(JC (Js t (k:Int)) l.heads l.reply).2.1,(JC (Js t (k:Int)) l.heads l.reply).1.head.epoch⟩]⟩:=by
 unfold Yd;rw [e];rfl
theorem tAsk0 {t:JI} {k:Int} (h:¬ (KQ (QB t k) t.town.clerk.now).2=0):Zx t k=t:=by unfold Zx;rw [if_pos h]
theorem tAsk1 {t:JI} {k:Int} (h:(KQ (QB t k) t.town.clerk.now).2=0) (h1:(Wp (KQ (QB t k) t.town.clerk.now).1).1=true∧(Wp (QB t k)).1=false):Zx t k=Q8 (Ja4 t k) 3 k 0 t.town.clerk.now:=by
 have h2:Jbs (KQ (QB t k) t.town.clerk.now).1=true∧Jbs (QB t k)=false:=h1
 unfold Zx;rw [if_neg (by simpa using h),if_pos h2]
theorem tAsk2 {t:JI} {k:Int} (h:(KQ (QB t k) t.town.clerk.now).2=0) (h1:(Wp (KQ (QB t k) t.town.clerk.now).1).1=true→(Wp (QB t k)).1=true):Zx t k=Ja4 t k:=by
 unfold Zx;rw [if_neg (by simpa using h),if_neg]
 rintro ⟨q1,q2⟩
 have:=h1 q1
 have e:Jbs (QB t k)=true:=this
 rw [e] at q2;cases q2
theorem Jp2 (o:Qp) (l:List JX) (r:Q5):-9223372036854775808≤(JC o l r).2.1∧(JC o l r).2.1<9223372036854775808:=by
 have hv:0≤(JZ o l r).1∧(JZ o l r).1≤6:=by
  unfold JZ K2
  (repeat' split) <;> simp_all <;> omega
 unfold JC
 (repeat' split) <;> simp only <;> omega
set_option maxRecDepth 20000 in
abbrev WX (kn1:Nat) (l:JU) (t:JI):=JL t.town.clerk ((Js t (kn1:Int)).name) (Vy t l)
abbrev JbP (l:JU) (t:JI):=ZS t.town.clerk (WS t l) (Vy t l)
abbrev Jin (kn1:Nat) (l:JU):=(⟨l.to_,(kn1:Int),l.since,l.due,l.heads,l.reply⟩:JU)
theorem JjH (G:J5) (b:Nat) (t:JI) (a_1:Ba) (c_1:Nat) (a_5:Ba) (c_5:Nat) (a_6:Ba) (c_6:Nat) (a_7:Ba) (c_7:Nat) (a_8:Ba) (c_8:Nat) (a_10:Ba) (c_10:Nat) (a_12:Ba) (c_12:Nat) (a_13:Ba) (c_13:Nat) (r_7:Bg) (r_8:Bg) (r_12:Bg) (r_13:Bg) (h_0:rI t.town.clerk.queue.most) (h_1:RS Q6 G a_1 c_1 t.town.clerk.queue.wait) (h_2:rI t.town.clerk.batch) (h_3:rI t.town.clerk.every) (h_4:rI t.town.clerk.now) (h_5:RS KO G a_5 c_5 t.town.clerk.heads) (h_6:RS QA G a_6 c_6 t.town.clerk.books) (h_7:JR Q9 G a_7 c_7 t.town.owners r_7) (h_8:JR WK G a_8 c_8 t.town.polls r_8) (h_9:rI t.town.net.now) (h_10:RS Kn G a_10 c_10 t.town.net.way) (h_11:rI t.reach) (h_12:JR VG G a_12 c_12 t.fates r_12) (h_13:JR Wn G a_13 c_13 t.events r_13) (vs_l:Bv) (l:JU) (h_l:Kn.R G vs_l l) (hreach:1≤t.reach∧t.reach≤40):JcH 112 #[Pt b 0,.agg vs_l.toArray] G [[Sg b 0 [I t.town.clerk.queue.most,Sl a_1 t.town.clerk.queue.wait.length c_1,I t.town.clerk.batch,I t.town.clerk.every,I t.town.clerk.now,Sl a_5 t.town.clerk.heads.length c_5,Sl a_6 t.town.clerk.books.length c_6,Sl a_7 t.town.owners.length c_7,Sl a_8 t.town.polls.length c_8,I t.town.net.now,Sl a_10 t.town.net.way.length c_10,I t.reach,Sl a_12 t.fates.length c_12,Sl a_13 t.events.length c_13]],r_7,r_8,r_12,r_13] (fun u G' L'=>∃ (a_z1:Ba) (c_z1:Nat) (a_z5:Ba) (c_z5:Nat) (a_z6:Ba) (c_z6:Nat) (a_z7:Ba) (c_z7:Nat) (a_z8:Ba) (c_z8:Nat) (a_z10:Ba) (c_z10:Nat) (a_z12:Ba) (c_z12:Nat) (a_z13:Ba) (c_z13:Nat) (r_z7:Bg) (r_z8:Bg) (r_z12:Bg) (r_z13:Bg),u=.tuple #[]∧(rI ((Qn t l).town.clerk.queue.most))∧(RS Q6 G' a_z1 c_z1 ((Qn t l).town.clerk.queue.wait))∧(rI ((Qn t l).town.clerk.batch))∧(rI ((Qn t l).town.clerk.every))∧(rI ((Qn t l).town.clerk.now))∧(RS KO G' a_z5 c_z5 ((Qn t l).town.clerk.heads))∧(RS QA G' a_z6 c_z6 ((Qn t l).town.clerk.books))∧(JR Q9 G' a_z7 c_z7 ((Qn t l).town.owners) r_z7)∧(JR WK G' a_z8 c_z8 ((Qn t l).town.polls) r_z8)∧(rI ((Qn t l).town.net.now))∧(RS Kn G' a_z10 c_z10 ((Qn t l).town.net.way))∧(rI ((Qn t l).reach))∧(JR VG G' a_z12 c_z12 ((Qn t l).fates) r_z12)∧(JR Wn G' a_z13 c_z13 ((Qn t l).events) r_z13)∧L'=[[Sg b 0 [I ((Qn t l).town.clerk.queue.most),Sl a_z1 (((Qn t l).town.clerk.queue.wait).length) c_z1,I ((Qn t l).town.clerk.batch),I ((Qn t l).town.clerk.every),I ((Qn t l).town.clerk.now),Sl a_z5 (((Qn t l).town.clerk.heads).length) c_z5,Sl a_z6 (((Qn t l).town.clerk.books).length) c_z6,Sl a_z7 (((Qn t l).town.owners).length) c_z7,Sl a_z8 (((Qn t l).town.polls).length) c_z8,I ((Qn t l).town.net.now),Sl a_z10 (((Qn t l).town.net.way).length) c_z10,I ((Qn t l).reach),Sl a_z12 (((Qn t l).fates).length) c_z12,Sl a_z13 (((Qn t l).events).length) c_z13]],r_z7,r_z8,r_z12,r_z13]):=by
 obtain ⟨a1,c1,a2,c2,a3,c3,rfl,_,_,_,_,_,_,_,_,_,_,_,_⟩:=h_l
 intro Lr
 refine JP Tryz.func112 76 [(0,Pt b 0),(1,(Q1 l a1 c1 a2 c2 a3 c3))] rfl (fun w0 G0=>?_)
 show TC _ _ _ _ _ ([Sg b 0 (Ke t a_1 c_1 a_5 c_5 a_6 c_6 a_7 c_7 a_8 c_8 a_10 c_10 a_12 c_12 a_13 c_13)]::r_7::r_8::r_12::r_13::Lr)
 refine Jf (Jd (Jv 3 #[I l.to_,I l.from_,I l.since,I l.due,Sl a1 l.heads.length c1,I l.reply.head.epoch,U l.reply.head.root,U l.reply.head.prev,I l.reply.head.at_,Sr l.reply.proof.name,Sl a2 l.reply.proof.entries.length c2,Sl a3 l.reply.proof.sides.length c3] 51 (fun b1=>Je (Jc (Jf (Jf (Jd (Jb [0,0,2] [(11,Pt b 0),(13,I l.from_)] (Jw 5 (Jw 5 (Jw 5 (Jw 5 (Jw 5 (Qi (Ls:=[[Sg b 0 (Ke t a_1 c_1 a_5 c_5 a_6 c_6 a_7 c_7 a_8 c_8 a_10 c_10 a_12 c_12 a_13 c_13)],r_7,r_8,r_12,r_13]) (Lr:=([Sg b1 0 (Ky l a1 c1 a2 c2 a3 c3)]::Lr)) 14 (Jch G b t a_1 c_1 a_5 c_5 a_6 c_6 a_7 c_7 a_8 c_8 a_10 c_10 a_12 c_12 a_13 c_13 r_7 r_8 r_12 r_13 h_0 h_1 h_2 h_3 h_4 h_5 h_6 h_7 h_8 h_9 h_10 h_11 h_12 h_13 l.from_) (fun v G1 L1 hl1 hp=>?_)))))))))))))))
 obtain ⟨a4,c4,a5,c5,a6,c6,a7,c7,a8,c8,a9,c9,a10,c10,a11,c11,r1,r2,r3,r4,rfl,w10,hs4,w11,w12,w13,hs5,hs6,hr1,hr2,w14,hs7,w15,hr3,hr4,rfl⟩:=hp
 refine Jb [0] [(15,Bo (!(Zi t l.from_)))] (Je (Jc (Jl (!(Zi t l.from_)) (fun h1=>?_) (fun h1=>?_))))
 refine Jn (Jj (Jk 4 (Jk 4 (Jk 4 (Jk 4 (Jk 4 ?_))))))
 have hf1:Qn t l=t:=by
  exact JoY ‹_›
 refine Jo [] [] (KB (Lr:=Lr) [[Sg b 0 (Ke t a4 c4 a5 c5 a6 c6 a7 c7 a8 c8 a9 c9 a10 c10 a11 c11)],r1,r2,r3,r4] hl1 ?_)
 rw [hf1];try dsimp only
 exact ⟨a4,c4,a5,c5,a6,c6,a7,c7,a8,c8,a9,c9,a10,c10,a11,c11,r1,r2,r3,r4,rfl,w10,hs4,w11,w12,w13,hs5,hs6,hr1,hr2,w14,hs7,w15,hr3,hr4,rfl⟩
 refine Jq (Jc ?_)
 have hown:=JaT.1 (show Zi t l.from_=true by assumption)
 obtain ⟨kn1,hkn1⟩:∃ k_:Nat,l.from_=(k_:Int):=⟨(l.from_).toNat,by omega⟩
 have e1:l.from_=(kn1:Int):=hkn1
 refine JcY (L':=([Sg b 0 [I t.town.clerk.queue.most,Sl a4 t.town.clerk.queue.wait.length c4,I t.town.clerk.batch,I t.town.clerk.every,I t.town.clerk.now,Sl a5 t.town.clerk.heads.length c5,Sl a6 t.town.clerk.books.length c6,Sl a7 t.town.owners.length c7,Sl a8 t.town.polls.length c8,I t.town.net.now,Sl a9 t.town.net.way.length c9,I t.reach,Sl a10 t.fates.length c10,Sl a11 t.events.length c11]]::r1::r2::r3::r4::[Sg b1 0 [I l.to_,I (kn1:Int),I l.since,I l.due,Sl a1 l.heads.length c1,I l.reply.head.epoch,U l.reply.head.root,U l.reply.head.prev,I l.reply.head.at_,Sr l.reply.proof.name,Sl a2 l.reply.proof.entries.length c2,Sl a3 l.reply.proof.sides.length c3]]::Lr)) (by (simp only [KW,Ky,KU,ZR,Ke,QG,Q1,WV,e1];first | done | rfl)) (Jg [0,0,0,0,0,2,0,0,0] [(4,I (Hb.wrap ((t.town.clerk.heads.length:Int)-1)))] (Jle 4 ((t.town.clerk.heads.length:Int)-1) (by (have q_:=(Jcu (l:=l) (by have q_:=h_5.fit;simp only [KO] at q_;omega) hreach);have q2_:=h_5.fit;simp only [KO] at q2_;omega)) ?_))
 have e2:(t.town.clerk.heads.length:Int)-1=W1 t:=rfl
 refine QU 4 (I (W1 t)) (congrArg I e2) (Jg [0,12,0,0,0,0] [(5,I (if 0 > (if (W1 t)<l.since then (W1 t) else l.since) then 0 else (if (W1 t)<l.since then (W1 t) else l.since)))] ?_)
 have e3:(if 0 > (if (W1 t)<l.since then (W1 t) else l.since) then 0 else (if (W1 t)<l.since then (W1 t) else l.since))=WS t l:=rfl
 refine QU 5 (I (WS t l)) (congrArg I e3) (Jg [0,0,0,0,2,0,0,0,0,0] [(6,I (if (W1 t)<(Hb.wrap ((Hb.wrap ((WS t l)+t.reach))-1)) then (W1 t) else (Hb.wrap ((Hb.wrap ((WS t l)+t.reach))-1))))] ?_)
 have e4:Hb.wrap ((WS t l)+t.reach)=(WS t l)+t.reach:=He _ (by (have q_:=(Jcu (l:=l) (by have q_:=h_5.fit;simp only [KO] at q_;omega) hreach);have q2_:=h_5.fit;simp only [KO] at q2_;omega))
 have e5:Hb.wrap (((WS t l)+t.reach)-1)=((WS t l)+t.reach)-1:=He _ (by (have q_:=(Jcu (l:=l) (by have q_:=h_5.fit;simp only [KO] at q_;omega) hreach);have q2_:=h_5.fit;simp only [KO] at q2_;omega))
 refine QU 6 (I (if (W1 t)<(((WS t l)+t.reach)-1) then (W1 t) else (((WS t l)+t.reach)-1))) (show (I (if (W1 t)<(Hb.wrap ((Hb.wrap ((WS t l)+t.reach))-1)) then (W1 t) else (Hb.wrap ((Hb.wrap ((WS t l)+t.reach))-1))):Value)=I (if (W1 t)<(((WS t l)+t.reach)-1) then (W1 t) else (((WS t l)+t.reach)-1)) by simp only [e4,e5]) ?_
 clear e5 e4
 have e6:(if (W1 t)<(((WS t l)+t.reach)-1) then (W1 t) else (((WS t l)+t.reach)-1))=Vy t l:=rfl
 refine QU 6 (I (Vy t l)) (congrArg I e6) (Jf (Jd (Jb [0,0,0,0,2,0,0] [(43,(QG t.town.clerk a4 c4 a5 c5 a6 c6)),(44,I (WS t l)),(45,I (Vy t l))] (JN 46 (Jgg G1 (KW t.town.clerk a4 c4 a5 c5 a6 c6) t.town.clerk (⟨a4,c4,a5,c5,a6,c6,rfl,‹_›,hs4,‹_›,‹_›,‹_›,hs5,hs6⟩) (WS t l) J4 (Vy t l) (by (have q_:=(Jcu (l:=l) (by have q_:=h_5.fit;simp only [KO] at q_;omega) hreach);omega))) (fun v G2 L1 hl2 hp=>?_)))))
 obtain ⟨a12,c12,rfl,hs8,rfl⟩:=hp
 refine Jb [0,0,0,0,0] [(7,Sl a12 (((JbP l t).1).length) c12)] (Je (Jc ?_))
 refine Ye (σ:=Nat×Ba×Nat×Ba×Nat×J5) (fun q_=>(J5.le G2 q_.2.2.2.2.2)∧(rI (((WX kn1 l t).1).head.epoch))∧(rU (((WX kn1 l t).1).head.root))∧(rU (((WX kn1 l t).1).head.prev))∧(rI (((WX kn1 l t).1).head.at_))∧((((WX kn1 l t).1).proof.name).length≤140737488351232)∧(RS QK q_.2.2.2.2.2 q_.2.1 q_.2.2.1 (((WX kn1 l t).1).proof.entries))∧(RS EU q_.2.2.2.2.2 q_.2.2.2.1 q_.2.2.2.2.1 (((WX kn1 l t).1).proof.sides))) (fun q_=>[(0,Pt b 0),(3,Pt b1 0),(7,Sl a12 (((JbP l t).1).length) c12),(9,Pt q_.1 0)]) (fun q_=>q_.2.2.2.2.2) (fun q_=>([Sg q_.1 0 (ZR (WX kn1 l t).1 q_.2.1 q_.2.2.1 q_.2.2.2.1 q_.2.2.2.2.1)]::[Sg b 0 (Ke t a4 c4 a5 c5 a6 c6 a7 c7 a8 c8 a9 c9 a10 c10 a11 c11)]::r1::r2::r3::r4::[Sg b1 0 (Ky (Jin kn1 l) a1 c1 a2 c2 a3 c3)]::Lr)) ?_ (fun q_ hs=>?_)
 have hx1:(t.town.owners)[kn1]? = some (Js t (kn1:Int)):=Y3 (by omega)
 obtain ⟨b2,o1,_,_,⟨a13,c13,rfl,w16,_,_,_,_,_,_,_⟩,ha1,hre1,hc1⟩:=JR.ix (hr1.mono hl2) hx1
 refine Kt [16,20,21] (Wm [(0,Pt b 0),(1,Pt b 0),(2,Pt b 0),(3,Pt b 0),(4,(QG t.town.clerk a4 c4 a5 c5 a6 c6)),(5,Pt b 0),(6,Pt b 0),(7,Pt b 0),(8,Pt b 7),(9,Sl a7 t.town.owners.length c7),(10,Pt b1 1),(11,I (kn1:Int)),(12,Pt b2 (o1+kn1*8)),(13,Pt b2 (o1+kn1*8)),(14,Sr ((Js t (kn1:Int)).name)),(15,I (Vy t l))] (JF [] [(0,0),(1,0),(2,0),(3,0),(4,2),(5,0),(6,0),(7,0),(8,0),(9,2),(10,0),(11,12),(13,0),(15,0)] [12,14] [16,20] (Kf ?_ (Kf ?_ KY)) (Kf ?_ (Kf ?_ KY))))
 refine Jr 12 62 (Pt b2 (o1+kn1*8)) [(59,Sl a7 t.town.owners.length c7),(61,I (kn1:Int))] (fun X=>?_)
 exact Qs (b:=b2) (off:=o1) (len:=t.town.owners.length) (cap:=c7) (ik:=.i64) 62 76 8 kn1 ha1 J4 Jp
 refine Jr 14 64 (Sr ((Js t (kn1:Int)).name)) [(63,Pt b2 (o1+kn1*8))] (fun X=>?_)
 exact W4 (off:=o1) (p:=kn1*8) (cs:=(KU (Js t (kn1:Int)) a13 c13)) 64 9 1 0 (Sr ((Js t (kn1:Int)).name)) hre1 hc1 Jp
 refine Jz 16 [(54,(QG t.town.clerk a4 c4 a5 c5 a6 c6)),(64,Sr ((Js t (kn1:Int)).name)),(65,I (Vy t l))] (fun X=>?_)
 refine JN 66 (V1 G2 (KW t.town.clerk a4 c4 a5 c5 a6 c6) t.town.clerk (⟨a4,c4,a5,c5,a6,c6,rfl,‹_›,(hs4.mono hl2),‹_›,‹_›,‹_›,(hs5.mono hl2),(hs6.mono hl2)⟩) ((Js t (kn1:Int)).name) w16 (Vy t l) (by (have q_:=(Jcu (l:=l) (by have q_:=h_5.fit;simp only [KO] at q_;omega) hreach);omega))) (fun v G3 L1 hl3 hp=>?_)
 obtain ⟨a14,c14,a15,c15,rfl,w23,w24,w25,w26,w27,hs10,hs11,rfl⟩:=hp
 refine JA [(16,.tuple #[(WV (WX kn1 l t).1 a14 c14 a15 c15),I ((WX kn1 l t).2)]),(17,.tuple #[(WV (WX kn1 l t).1 a14 c14 a15 c15),I ((WX kn1 l t).2)]),(18,(WV (WX kn1 l t).1 a14 c14 a15 c15)),(19,I ((WX kn1 l t).2))] (JF [0,1,2,3,4,5,6,7,8,9,10,11,12,13,14,15] [(17,0),(18,0),(19,0)] [] [20] (Ha _) (Kf ?_ KY))
 refine Jz 20 [] (fun X=>?_)
 refine Jv 9 #[I 0,U 0,U 0,I 0,Sr ([]),Sl none 0 0,Sl none 0 0] 49 (fun b3=>JA [(20,Pt b3 0)] (JF [0,1,2,3,4,5,6,7,8,9,10,11,12,13,14,15] [(17,0),(18,0),(19,0)] [] [21] (Ha _) (Kf ?_ KY)))
 refine Jz 21 [(9,Pt b3 0),(67,(WV (WX kn1 l t).1 a14 c14 a15 c15))] (fun X=>?_)
 exact KC 0 ([Sg b3 0 (ZR (WX kn1 l t).1 a14 c14 a15 c15)]::[Sg b 0 (Ke t a4 c4 a5 c5 a6 c6 a7 c7 a8 c8 a9 c9 a10 c10 a11 c11)]::r1::r2::r3::r4::[Sg b1 0 (Ky (Jin kn1 l) a1 c1 a2 c2 a3 c3)]::Lr) (J6 [(22,I ((WX kn1 l t).2))] (Kl [0,1,2,3,4,5,6,7,8,9,10,11,12,13,14,15,17,18] [(19,0),(22,0)] [] [(0,Pt b 0),(3,Pt b1 0),(7,Sl a12 (((JbP l t).1).length) c12),(9,Pt b3 0)] (Ha _) (QW (b3,a14,c14,a15,c15,G3) ⟨hl3,w23,w24,w25,w26,w27,hs10,hs11⟩)))
 refine Jz 20 [] (fun X=>?_)
 refine Jv 9 #[I 0,U 0,U 0,I 0,Sr ([]),Sl none 0 0,Sl none 0 0] 49 (fun b4=>JA [(20,Pt b4 0)] (JF [] [(0,0),(1,0),(2,0),(3,0),(4,4),(5,0),(6,0),(7,0),(8,0),(9,4),(10,0),(11,14),(13,0),(15,0)] [12,14] [16] (Kf ?_ (Kf ?_ KY)) (Kf ?_ KY)))
 refine Jr 12 62 (Pt b2 (o1+kn1*8)) [(59,Sl a7 t.town.owners.length c7),(61,I (kn1:Int))] (fun X=>?_)
 exact Qs (b:=b2) (off:=o1) (len:=t.town.owners.length) (cap:=c7) (ik:=.i64) 62 76 8 kn1 ha1 J4 Jp
 refine Jr 14 64 (Sr ((Js t (kn1:Int)).name)) [(63,Pt b2 (o1+kn1*8))] (fun X=>?_)
 exact W4 (off:=o1) (p:=kn1*8) (cs:=(KU (Js t (kn1:Int)) a13 c13)) 64 9 2 0 (Sr ((Js t (kn1:Int)).name)) hre1 hc1 Jp
 refine Jz 16 [(54,(QG t.town.clerk a4 c4 a5 c5 a6 c6)),(64,Sr ((Js t (kn1:Int)).name)),(65,I (Vy t l))] (fun X=>?_)
 refine JN 66 (V1 G2 (KW t.town.clerk a4 c4 a5 c5 a6 c6) t.town.clerk (⟨a4,c4,a5,c5,a6,c6,rfl,‹_›,(hs4.mono hl2),‹_›,‹_›,‹_›,(hs5.mono hl2),(hs6.mono hl2)⟩) ((Js t (kn1:Int)).name) w16 (Vy t l) (by (have q_:=(Jcu (l:=l) (by have q_:=h_5.fit;simp only [KO] at q_;omega) hreach);omega))) (fun v G4 L1 hl4 hp=>?_)
 obtain ⟨a16,c16,a17,c17,rfl,w28,w29,w30,w31,w32,hs12,hs13,rfl⟩:=hp
 refine JA [(16,.tuple #[(WV (WX kn1 l t).1 a16 c16 a17 c17),I ((WX kn1 l t).2)]),(17,.tuple #[(WV (WX kn1 l t).1 a16 c16 a17 c17),I ((WX kn1 l t).2)]),(18,(WV (WX kn1 l t).1 a16 c16 a17 c17)),(19,I ((WX kn1 l t).2))] (JF [0,1,2,3,4,5,6,7,8,9,10,11,12,13,14,15] [(17,0),(18,0),(19,0)] [] [21] (Ha _) (Kf ?_ KY))
 refine Jz 21 [(9,Pt b4 0),(67,(WV (WX kn1 l t).1 a16 c16 a17 c17))] (fun X=>?_)
 exact KC 0 ([Sg b4 0 (ZR (WX kn1 l t).1 a16 c16 a17 c17)]::[Sg b 0 (Ke t a4 c4 a5 c5 a6 c6 a7 c7 a8 c8 a9 c9 a10 c10 a11 c11)]::r1::r2::r3::r4::[Sg b1 0 (Ky (Jin kn1 l) a1 c1 a2 c2 a3 c3)]::Lr) (J6 [(22,I ((WX kn1 l t).2))] (Kl [0,1,2,3,4,5,6,7,8,9,10,11,12,13,14,15,17,18] [(19,0),(22,0)] [] [(0,Pt b 0),(3,Pt b1 0),(7,Sl a12 (((JbP l t).1).length) c12),(9,Pt b4 0)] (Ha _) (QW (b4,a16,c16,a17,c17,G4) ⟨hl4,w28,w29,w30,w31,w32,hs12,hs13⟩)))
 obtain ⟨b3,a14,c14,a15,c15,G3⟩:=q_
 obtain ⟨hle1,hj1,hj2,hj3,hj4,hj5,hj6,hj7⟩:=hs
 dsimp only at hle1 hj1 hj2 hj3 hj4 hj5 hj6 hj7
 dsimp only
 refine Jd (Jb [0,0,14,0,2,0] [(69,Pt b 0),(74,(Q1 (⟨(kn1:Int),0,0,0,(JbP l t).1,(WX kn1 l t).1⟩:JU) a12 c12 a14 c14 a15 c15))] (Jw 5 (Jw 5 (Jw 5 (Jw 5 (Jw 5 (Qi (Ls:=[[Sg b 0 (Ke t a4 c4 a5 c5 a6 c6 a7 c7 a8 c8 a9 c9 a10 c10 a11 c11)],r1,r2,r3,r4]) (Lr:=([Sg b3 0 (ZR (WX kn1 l t).1 a14 c14 a15 c15)]::[Sg b1 0 (Ky (Jin kn1 l) a1 c1 a2 c2 a3 c3)]::Lr)) 75 (Jhv G3 b t a4 c4 a5 c5 a6 c6 a7 c7 a8 c8 a9 c9 a10 c10 a11 c11 r1 r2 r3 r4 ‹_› (hs4.mono (Ja hl2 hle1)) ‹_› ‹_› ‹_› (hs5.mono (Ja hl2 hle1)) (hs6.mono (Ja hl2 hle1)) (hr1.mono (Ja hl2 hle1)) (hr2.mono (Ja hl2 hle1)) ‹_› (hs7.mono (Ja hl2 hle1)) ‹_› (hr3.mono (Ja hl2 hle1)) (hr4.mono (Ja hl2 hle1)) (Ky (⟨(kn1:Int),0,0,0,(JbP l t).1,(WX kn1 l t).1⟩:JU) a12 c12 a14 c14 a15 c15) (⟨(kn1:Int),0,0,0,(JbP l t).1,((WX kn1 l t).1)⟩:JU) (⟨a12,c12,a14,c14,a15,c15,rfl,(by (dsimp only;omega)),(by (dsimp only;omega)),(by (dsimp only;omega)),(by (dsimp only;omega)),(hs8.mono hle1),hj1,hj2,hj3,hj4,hj5,hj6,hj7⟩)) (fun v G5 L1 hl5 hp=>?_))))))))
 obtain ⟨a18,c18,a19,c19,a20,c20,a21,c21,a22,c22,a23,c23,a24,c24,a25,c25,r5,r6,r7,r8,rfl,w33,hs14,w34,w35,w36,hs15,hs16,hr5,hr6,w37,hs17,w38,hr7,hr8,rfl⟩:=hp
 refine Je (Jk 4 (Jk 4 (Jk 4 (Jk 4 (Jk 4 ?_)))))
 have hf2:Qn t l=(Wo t (⟨(kn1:Int),0,0,0,(JbP l t).1,((WX kn1 l t).1)⟩:JU)):=by
  (rw [Jo0 ‹_› ‹_›];done)
 refine ZW [] [] (KB (Lr:=Lr) [[Sg b 0 (Ke (Wo t (⟨(kn1:Int),0,0,0,(JbP l t).1,((WX kn1 l t).1)⟩:JU)) a18 c18 a19 c19 a20 c20 a21 c21 a22 c22 a23 c23 a24 c24 a25 c25)],r5,r6,r7,r8] (Ja (Ja (Ja hl1 hl2) hle1) hl5) ?_)
 rw [hf2];try dsimp only
 exact ⟨a18,c18,a19,c19,a20,c20,a21,c21,a22,c22,a23,c23,a24,c24,a25,c25,r5,r6,r7,r8,rfl,w33,hs14,w34,w35,w36,hs15,hs16,hr5,hr6,w37,hs17,w38,hr7,hr8,rfl⟩
set_option maxRecDepth 20000 in
abbrev WP (kn1:Nat) (l:JU) (t:JI):=Q8 (⟨(⟨t.town.clerk,t.town.owners.set kn1 ((JC (Js t (kn1:Int)) l.heads l.reply).1),t.town.polls,t.town.net⟩:Wl),t.reach,t.fates,t.events⟩:JI) 2 (kn1:Int) ((JC (Js t (kn1:Int)) l.heads l.reply).2.1) (((JC (Js t (kn1:Int)) l.heads l.reply).1).head.epoch)
abbrev Qm (kn1:Nat) (l:JU) (t:JI):=JC (Js t (kn1:Int)) l.heads l.reply
abbrev Yy (kn1:Nat) (l:JU) (t:JI):=Wa (QB (WP kn1 l t) (kn1:Int)) ((WP kn1 l t).town.clerk.now)
abbrev Jex (kn1:Nat) (l:JU):=(⟨(kn1:Int),l.from_,l.since,l.due,l.heads,l.reply⟩:JU)
abbrev Jbb (kn1:Nat) (l:JU) (t:JI):=QB (WP kn1 l t) (kn1:Int)
theorem Jo1 (G:J5) (b:Nat) (t:JI) (a_1:Ba) (c_1:Nat) (a_5:Ba) (c_5:Nat) (a_6:Ba) (c_6:Nat) (a_7:Ba) (c_7:Nat) (a_8:Ba) (c_8:Nat) (a_10:Ba) (c_10:Nat) (a_12:Ba) (c_12:Nat) (a_13:Ba) (c_13:Nat) (r_7:Bg) (r_8:Bg) (r_12:Bg) (r_13:Bg) (h_0:rI t.town.clerk.queue.most) (h_1:RS Q6 G a_1 c_1 t.town.clerk.queue.wait) (h_2:rI t.town.clerk.batch) (h_3:rI t.town.clerk.every) (h_4:rI t.town.clerk.now) (h_5:RS KO G a_5 c_5 t.town.clerk.heads) (h_6:RS QA G a_6 c_6 t.town.clerk.books) (h_7:JR Q9 G a_7 c_7 t.town.owners r_7) (h_8:JR WK G a_8 c_8 t.town.polls r_8) (h_9:rI t.town.net.now) (h_10:RS Kn G a_10 c_10 t.town.net.way) (h_11:rI t.reach) (h_12:JR VG G a_12 c_12 t.fates r_12) (h_13:JR Wn G a_13 c_13 t.events r_13) (vs_l:Bv) (l:JU) (h_l:Kn.R G vs_l l) (hev:t.events.length≤1000000) (hto:0≤l.to_∧l.to_<t.town.owners.length) (hpl:t.town.polls.length=t.town.owners.length):JcH 113 #[Pt b 0,.agg vs_l.toArray] G [[Sg b 0 [I t.town.clerk.queue.most,Sl a_1 t.town.clerk.queue.wait.length c_1,I t.town.clerk.batch,I t.town.clerk.every,I t.town.clerk.now,Sl a_5 t.town.clerk.heads.length c_5,Sl a_6 t.town.clerk.books.length c_6,Sl a_7 t.town.owners.length c_7,Sl a_8 t.town.polls.length c_8,I t.town.net.now,Sl a_10 t.town.net.way.length c_10,I t.reach,Sl a_12 t.fates.length c_12,Sl a_13 t.events.length c_13]],r_7,r_8,r_12,r_13] (fun u G' L'=>∃ (a_z1:Ba) (c_z1:Nat) (a_z5:Ba) (c_z5:Nat) (a_z6:Ba) (c_z6:Nat) (a_z7:Ba) (c_z7:Nat) (a_z8:Ba) (c_z8:Nat) (a_z10:Ba) (c_z10:Nat) (a_z12:Ba) (c_z12:Nat) (a_z13:Ba) (c_z13:Nat) (r_z7:Bg) (r_z8:Bg) (r_z12:Bg) (r_z13:Bg),u=.tuple #[]∧(rI ((Yd t l).town.clerk.queue.most))∧(RS Q6 G' a_z1 c_z1 ((Yd t l).town.clerk.queue.wait))∧(rI ((Yd t l).town.clerk.batch))∧(rI ((Yd t l).town.clerk.every))∧(rI ((Yd t l).town.clerk.now))∧(RS KO G' a_z5 c_z5 ((Yd t l).town.clerk.heads))∧(RS QA G' a_z6 c_z6 ((Yd t l).town.clerk.books))∧(JR Q9 G' a_z7 c_z7 ((Yd t l).town.owners) r_z7)∧(JR WK G' a_z8 c_z8 ((Yd t l).town.polls) r_z8)∧(rI ((Yd t l).town.net.now))∧(RS Kn G' a_z10 c_z10 ((Yd t l).town.net.way))∧(rI ((Yd t l).reach))∧(JR VG G' a_z12 c_z12 ((Yd t l).fates) r_z12)∧(JR Wn G' a_z13 c_z13 ((Yd t l).events) r_z13)∧L'=[[Sg b 0 [I ((Yd t l).town.clerk.queue.most),Sl a_z1 (((Yd t l).town.clerk.queue.wait).length) c_z1,I ((Yd t l).town.clerk.batch),I ((Yd t l).town.clerk.every),I ((Yd t l).town.clerk.now),Sl a_z5 (((Yd t l).town.clerk.heads).length) c_z5,Sl a_z6 (((Yd t l).town.clerk.books).length) c_z6,Sl a_z7 (((Yd t l).town.owners).length) c_z7,Sl a_z8 (((Yd t l).town.polls).length) c_z8,I ((Yd t l).town.net.now),Sl a_z10 (((Yd t l).town.net.way).length) c_z10,I ((Yd t l).reach),Sl a_z12 (((Yd t l).fates).length) c_z12,Sl a_z13 (((Yd t l).events).length) c_z13]],r_z7,r_z8,r_z12,r_z13]):=by
 obtain ⟨a1,c1,a2,c2,a3,c3,rfl,_,_,_,_,hs1,w5,w6,w7,w8,w9,hs2,hs3⟩:=h_l
 intro Lr
 refine JP Tryz.func113 75 [(0,Pt b 0),(1,(Q1 l a1 c1 a2 c2 a3 c3))] rfl (fun w0 G0=>?_)
 show TC _ _ _ _ _ ([Sg b 0 (Ke t a_1 c_1 a_5 c_5 a_6 c_6 a_7 c_7 a_8 c_8 a_10 c_10 a_12 c_12 a_13 c_13)]::r_7::r_8::r_12::r_13::Lr)
 refine Jf (Jd (Jv 3 #[I l.to_,I l.from_,I l.since,I l.due,Sl a1 l.heads.length c1,I l.reply.head.epoch,U l.reply.head.root,U l.reply.head.prev,I l.reply.head.at_,Sr l.reply.proof.name,Sl a2 l.reply.proof.entries.length c2,Sl a3 l.reply.proof.sides.length c3] 51 (fun b1=>Je (Jc ?_))))
 obtain ⟨kn1,hkn1⟩:∃ k_:Nat,l.to_=(k_:Int):=⟨(l.to_).toNat,by omega⟩
 have e1:l.to_=(kn1:Int):=hkn1
 refine QU 1 (.agg #[I (kn1:Int),I l.from_,I l.since,I l.due,Sl a1 l.heads.length c1,I l.reply.head.epoch,U l.reply.head.root,U l.reply.head.prev,I l.reply.head.at_,Sr l.reply.proof.name,Sl a2 l.reply.proof.entries.length c2,Sl a3 l.reply.proof.sides.length c3]) (show (.agg #[I l.to_,I l.from_,I l.since,I l.due,Sl a1 l.heads.length c1,I l.reply.head.epoch,U l.reply.head.root,U l.reply.head.prev,I l.reply.head.at_,Sr l.reply.proof.name,Sl a2 l.reply.proof.entries.length c2,Sl a3 l.reply.proof.sides.length c3]:Value)=.agg #[I (kn1:Int),I l.from_,I l.since,I l.due,Sl a1 l.heads.length c1,I l.reply.head.epoch,U l.reply.head.root,U l.reply.head.prev,I l.reply.head.at_,Sr l.reply.proof.name,Sl a2 l.reply.proof.entries.length c2,Sl a3 l.reply.proof.sides.length c3] by simp only [e1]) (JcY (L':=([Sg b1 0 [I (kn1:Int),I l.from_,I l.since,I l.due,Sl a1 l.heads.length c1,I l.reply.head.epoch,U l.reply.head.root,U l.reply.head.prev,I l.reply.head.at_,Sr l.reply.proof.name,Sl a2 l.reply.proof.entries.length c2,Sl a3 l.reply.proof.sides.length c3]]::[Sg b 0 [I t.town.clerk.queue.most,Sl a_1 t.town.clerk.queue.wait.length c_1,I t.town.clerk.batch,I t.town.clerk.every,I t.town.clerk.now,Sl a_5 t.town.clerk.heads.length c_5,Sl a_6 t.town.clerk.books.length c_6,Sl a_7 t.town.owners.length c_7,Sl a_8 t.town.polls.length c_8,I t.town.net.now,Sl a_10 t.town.net.way.length c_10,I t.reach,Sl a_12 t.fates.length c_12,Sl a_13 t.events.length c_13]]::r_7::r_8::r_12::r_13::Lr)) (by (simp only [Ky,KU,Vd,ZR,Ke,Q1,KF,Vh,WV,e1];first | done | rfl)) ?_)
 refine Ye (σ:=Nat×Ba×Nat×J5) (fun q_=>(J5.le G q_.2.2.2)∧((((Qm kn1 l t).1).name).length≤140737488351232)∧(rU (((Qm kn1 l t).1).key))∧(rI (((Qm kn1 l t).1).head.epoch))∧(rU (((Qm kn1 l t).1).head.root))∧(rU (((Qm kn1 l t).1).head.prev))∧(rI (((Qm kn1 l t).1).head.at_))∧(RS ES q_.2.2.2 q_.2.1 q_.2.2.1 (((Qm kn1 l t).1).wanted))∧(rI (((Qm kn1 l t).1).had))) (fun q_=>[(0,Pt b 0),(3,Pt b1 0),(4,Pt q_.1 0),(5,I ((Qm kn1 l t).2.1))]) (fun q_=>q_.2.2.2) (fun q_=>([Sg q_.1 0 (KU (Qm kn1 l t).1 q_.2.1 q_.2.2.1)]::[Sg b1 0 (Ky (Jex kn1 l) a1 c1 a2 c2 a3 c3)]::[Sg b 0 (Ke t a_1 c_1 a_5 c_5 a_6 c_6 a_7 c_7 a_8 c_8 a_10 c_10 a_12 c_12 a_13 c_13)]::r_7::r_8::r_12::r_13::Lr)) ?_ (fun q_ hs=>?_)
 have hx1:(t.town.owners)[kn1]? = some (Js t (kn1:Int)):=Y3 (by omega)
 obtain ⟨b2,o1,_,_,⟨a4,c4,rfl,w10,w11,w12,w13,w14,w15,hs4,w16⟩,ha1,hre1,hc1⟩:=JR.ix h_7 hx1
 refine Kt [13,18,19] (Wm [(0,Pt b 0),(1,Pt b 0),(2,Pt b 0),(3,Pt b 7),(4,Sl a_7 t.town.owners.length c_7),(5,Pt b1 0),(6,I (kn1:Int)),(7,Pt b2 (o1+kn1*8)),(8,(KF (Js t (kn1:Int)) a4 c4)),(9,Pt b1 4),(10,Sl a1 l.heads.length c1),(11,Pt b1 5),(12,(WV l.reply a2 c2 a3 c3))] (JF [] [(0,0),(1,0),(2,0),(3,0),(4,4),(5,0),(6,2),(9,0),(10,2),(11,0),(12,2)] [7,8] [13,18] (Kf ?_ (Kf ?_ KY)) (Kf ?_ (Kf ?_ KY))))
 refine Jr 7 15 (Pt b2 (o1+kn1*8)) [(12,Sl a_7 t.town.owners.length c_7),(14,I (kn1:Int))] (fun X=>?_)
 exact Qs (b:=b2) (off:=o1) (len:=t.town.owners.length) (cap:=c_7) (ik:=.i64) 15 76 8 kn1 ha1 J4 Jp
 refine Jr 8 16 (KF (Js t (kn1:Int)) a4 c4) [(15,Pt b2 (o1+kn1*8))] (fun X=>?_)
 exact W4 (off:=o1) (p:=kn1*8) (cs:=(KU (Js t (kn1:Int)) a4 c4)) 16 76 2 0 (KF (Js t (kn1:Int)) a4 c4) hre1 hc1 Jp
 refine Jz 13 [(16,(KF (Js t (kn1:Int)) a4 c4)),(18,Sl a1 l.heads.length c1),(20,(WV l.reply a2 c2 a3 c3))] (fun X=>?_)
 refine JN 21 (JdM G (KU (Js t (kn1:Int)) a4 c4) (Js t (kn1:Int)) (⟨a4,c4,rfl,w10,w11,w12,w13,w14,w15,hs4,w16⟩) a1 c1 l.heads hs1 (ZR l.reply a2 c2 a3 c3) l.reply (⟨a2,c2,a3,c3,rfl,w5,w6,w7,w8,w9,hs2,hs3⟩)) (fun v G1 L1 hl1 hp=>?_)
 obtain ⟨a5,c5,rfl,w17,w18,w19,w20,w21,w22,hs5,w23,rfl⟩:=hp
 refine JA [(13,.tuple #[(KF (Qm kn1 l t).1 a5 c5),I ((Qm kn1 l t).2.1),I ((Qm kn1 l t).2.2)]),(14,.tuple #[(KF (Qm kn1 l t).1 a5 c5),I ((Qm kn1 l t).2.1),I ((Qm kn1 l t).2.2)]),(15,(KF (Qm kn1 l t).1 a5 c5)),(16,I ((Qm kn1 l t).2.1)),(17,I ((Qm kn1 l t).2.2))] (JF [0,1,2,3,4,5,6,7,8,9,10,11,12] [(14,0),(15,0),(16,0),(17,0)] [] [18] (Ha _) (Kf ?_ KY))
 refine Jz 18 [] (fun X=>?_)
 refine Jv 4 #[Sr ([]),U 0,I 0,U 0,U 0,I 0,Sl none 0 0,I 0] 76 (fun b3=>JA [(18,Pt b3 0)] (JF [0,1,2,3,4,5,6,7,8,9,10,11,12] [(14,0),(15,0),(16,0),(17,0)] [] [19] (Ha _) (Kf ?_ KY)))
 refine Jz 19 [(4,Pt b3 0),(22,(KF (Qm kn1 l t).1 a5 c5))] (fun X=>?_)
 exact KC 0 ([Sg b3 0 (KU (Qm kn1 l t).1 a5 c5)]::[Sg b1 0 (Ky (Jex kn1 l) a1 c1 a2 c2 a3 c3)]::[Sg b 0 (Ke t a_1 c_1 a_5 c_5 a_6 c_6 a_7 c_7 a_8 c_8 a_10 c_10 a_12 c_12 a_13 c_13)]::r_7::r_8::r_12::r_13::Lr) (J6 [(20,I ((Qm kn1 l t).2.1)),(21,I ((Qm kn1 l t).2.2))] (Kl [0,1,2,3,4,5,6,7,8,9,10,11,12,14,15] [(16,0),(17,0),(20,0),(21,0)] [] [(0,Pt b 0),(3,Pt b1 0),(4,Pt b3 0),(5,I ((Qm kn1 l t).2.1))] (Ha _) (QW (b3,a5,c5,G1) ⟨hl1,w17,w18,w19,w20,w21,w22,hs5,w23⟩)))
 refine Jz 18 [] (fun X=>?_)
 refine Jv 4 #[Sr ([]),U 0,I 0,U 0,U 0,I 0,Sl none 0 0,I 0] 76 (fun b4=>JA [(18,Pt b4 0)] (JF [] [(0,0),(1,0),(2,0),(3,0),(4,6),(5,0),(6,4),(9,0),(10,4),(11,0),(12,4)] [7,8] [13] (Kf ?_ (Kf ?_ KY)) (Kf ?_ KY)))
 refine Jr 7 15 (Pt b2 (o1+kn1*8)) [(12,Sl a_7 t.town.owners.length c_7),(14,I (kn1:Int))] (fun X=>?_)
 exact Qs (b:=b2) (off:=o1) (len:=t.town.owners.length) (cap:=c_7) (ik:=.i64) 15 76 8 kn1 ha1 J4 Jp
 refine Jr 8 16 (KF (Js t (kn1:Int)) a4 c4) [(15,Pt b2 (o1+kn1*8))] (fun X=>?_)
 exact W4 (off:=o1) (p:=kn1*8) (cs:=(KU (Js t (kn1:Int)) a4 c4)) 16 76 3 0 (KF (Js t (kn1:Int)) a4 c4) hre1 hc1 Jp
 refine Jz 13 [(16,(KF (Js t (kn1:Int)) a4 c4)),(18,Sl a1 l.heads.length c1),(20,(WV l.reply a2 c2 a3 c3))] (fun X=>?_)
 refine JN 21 (JdM G (KU (Js t (kn1:Int)) a4 c4) (Js t (kn1:Int)) (⟨a4,c4,rfl,w10,w11,w12,w13,w14,w15,hs4,w16⟩) a1 c1 l.heads hs1 (ZR l.reply a2 c2 a3 c3) l.reply (⟨a2,c2,a3,c3,rfl,w5,w6,w7,w8,w9,hs2,hs3⟩)) (fun v G2 L1 hl2 hp=>?_)
 obtain ⟨a6,c6,rfl,w24,w25,w26,w27,w28,w29,hs6,w30,rfl⟩:=hp
 refine JA [(13,.tuple #[(KF (Qm kn1 l t).1 a6 c6),I ((Qm kn1 l t).2.1),I ((Qm kn1 l t).2.2)]),(14,.tuple #[(KF (Qm kn1 l t).1 a6 c6),I ((Qm kn1 l t).2.1),I ((Qm kn1 l t).2.2)]),(15,(KF (Qm kn1 l t).1 a6 c6)),(16,I ((Qm kn1 l t).2.1)),(17,I ((Qm kn1 l t).2.2))] (JF [0,1,2,3,4,5,6,7,8,9,10,11,12] [(14,0),(15,0),(16,0),(17,0)] [] [19] (Ha _) (Kf ?_ KY))
 refine Jz 19 [(4,Pt b4 0),(22,(KF (Qm kn1 l t).1 a6 c6))] (fun X=>?_)
 exact KC 0 ([Sg b4 0 (KU (Qm kn1 l t).1 a6 c6)]::[Sg b1 0 (Ky (Jex kn1 l) a1 c1 a2 c2 a3 c3)]::[Sg b 0 (Ke t a_1 c_1 a_5 c_5 a_6 c_6 a_7 c_7 a_8 c_8 a_10 c_10 a_12 c_12 a_13 c_13)]::r_7::r_8::r_12::r_13::Lr) (J6 [(20,I ((Qm kn1 l t).2.1)),(21,I ((Qm kn1 l t).2.2))] (Kl [0,1,2,3,4,5,6,7,8,9,10,11,12,14,15] [(16,0),(17,0),(20,0),(21,0)] [] [(0,Pt b 0),(3,Pt b1 0),(4,Pt b4 0),(5,I ((Qm kn1 l t).2.1))] (Ha _) (QW (b4,a6,c6,G2) ⟨hl2,w24,w25,w26,w27,w28,w29,hs6,w30⟩)))
 obtain ⟨b3,a5,c5,G1⟩:=q_
 obtain ⟨hle1,hj1,hj2,hj3,hj4,hj5,hj6,hj7,hj8⟩:=hs
 dsimp only at hle1 hj1 hj2 hj3 hj4 hj5 hj6 hj7 hj8
 dsimp only
 refine Jf ?_
 have hx2:(t.town.owners)[kn1]? = some (Js t (kn1:Int)):=Y3 (by omega)
 obtain ⟨b5,o2,_,_,⟨_,_,rfl,_,_,_,_,_,_,_,_⟩,ha2,_,_⟩:=JR.ix (h_7.mono hle1) hx2
 refine Kt [9] (Wm [(0,Pt b 0),(1,Pt b 0),(2,Pt b 0),(3,Pt b 7),(4,Sl a_7 t.town.owners.length c_7),(5,Pt b1 0),(6,I (kn1:Int)),(7,(KF (Qm kn1 l t).1 a5 c5)),(8,Pt b5 (o2+kn1*8))] (JF [] [(0,0),(1,0),(2,0),(3,0),(4,6),(5,0),(6,4),(7,2)] [8] [9] (Kf ?_ KY) (Kf ?_ KY)))
 refine Jr 8 33 (Pt b5 (o2+kn1*8)) [(29,Sl a_7 t.town.owners.length c_7),(31,I (kn1:Int))] (fun X=>?_)
 exact Qs (b:=b5) (off:=o2) (len:=t.town.owners.length) (cap:=c_7) (ik:=.i64) 33 76 8 kn1 ha2 J4 Jp
 refine Jz 9 [(32,(KF (Qm kn1 l t).1 a5 c5)),(33,Pt b5 (o2+kn1*8))] (fun X=>?_)
 refine YC (b:=b5) (off:=o2) 3 (h_7.mono hle1) kn1 ((Qm kn1 l t).1) ha2 J4 (KF (Qm kn1 l t).1 a5 c5) (KU (Qm kn1 l t).1 a5 c5) ⟨a5,c5,rfl,hj1,hj2,hj3,hj4,hj5,hj6,hj7,hj8⟩ (fun r1 hr1=>?_)
 have e2:t.town.owners.length=(t.town.owners.set kn1 ((Qm kn1 l t).1)).length:=(Hd ..).symm
 refine J6 [] (Kl [0,1,2,3,4,5,6,7,8] [] [] [(0,Pt b 0),(3,Pt b1 0),(4,Pt b3 0),(5,I ((Qm kn1 l t).2.1))] (Ha _) (Jlf (fr':=[(0,Pt b 0),(3,Pt b1 0),(4,Pt b3 0),(5,I ((JC (Js t (kn1:Int)) l.heads l.reply).2.1))]) (L':=([Sg b3 0 [Sr (((JC (Js t (kn1:Int)) l.heads l.reply).1).name),U (((JC (Js t (kn1:Int)) l.heads l.reply).1).key),I (((JC (Js t (kn1:Int)) l.heads l.reply).1).head.epoch),U (((JC (Js t (kn1:Int)) l.heads l.reply).1).head.root),U (((JC (Js t (kn1:Int)) l.heads l.reply).1).head.prev),I (((JC (Js t (kn1:Int)) l.heads l.reply).1).head.at_),Sl a5 ((((JC (Js t (kn1:Int)) l.heads l.reply).1).wanted).length) c5,I (((JC (Js t (kn1:Int)) l.heads l.reply).1).had)]]::[Sg b1 0 [I (kn1:Int),I l.from_,I l.since,I l.due,Sl a1 l.heads.length c1,I l.reply.head.epoch,U l.reply.head.root,U l.reply.head.prev,I l.reply.head.at_,Sr l.reply.proof.name,Sl a2 l.reply.proof.entries.length c2,Sl a3 l.reply.proof.sides.length c3]]::[Sg b 0 [I t.town.clerk.queue.most,Sl a_1 t.town.clerk.queue.wait.length c_1,I t.town.clerk.batch,I t.town.clerk.every,I t.town.clerk.now,Sl a_5 t.town.clerk.heads.length c_5,Sl a_6 t.town.clerk.books.length c_6,Sl a_7 ((t.town.owners.set kn1 ((JC (Js t (kn1:Int)) l.heads l.reply).1)).length) c_7,Sl a_8 t.town.polls.length c_8,I t.town.net.now,Sl a_10 t.town.net.way.length c_10,I t.reach,Sl a_12 t.fates.length c_12,Sl a_13 t.events.length c_13]]::r1::r_8::r_12::r_13::Lr)) (by rfl) (by (simp only [Ky,KU,Vd,ZR,Ke,Q1,KF,Vh,WV,e2];first | done | rfl)) (Jc (Jf (Jd (Jb [0,0,4,0,0,0,2] [(34,Pt b 0),(36,I (kn1:Int)),(37,I ((Qm kn1 l t).2.1)),(40,I (((Qm kn1 l t).1).head.epoch))] (Jw 6 (Jw 6 (Jw 6 (Jw 6 (Jw 6 (Qi (Ls:=[[Sg b 0 (Ke (⟨(⟨t.town.clerk,(t.town.owners.set kn1 ((Qm kn1 l t).1)),t.town.polls,t.town.net⟩:Wl),t.reach,t.fates,t.events⟩:JI) a_1 c_1 a_5 c_5 a_6 c_6 a_7 c_7 a_8 c_8 a_10 c_10 a_12 c_12 a_13 c_13)],r1,r_8,r_12,r_13]) (Lr:=([Sg b3 0 (KU (Qm kn1 l t).1 a5 c5)]::[Sg b1 0 (Ky (Jex kn1 l) a1 c1 a2 c2 a3 c3)]::Lr)) 41 (Jew G1 b (⟨(⟨t.town.clerk,t.town.owners.set kn1 ((Qm kn1 l t).1),t.town.polls,t.town.net⟩:Wl),t.reach,t.fates,t.events⟩:JI) a_1 c_1 a_5 c_5 a_6 c_6 a_7 c_7 a_8 c_8 a_10 c_10 a_12 c_12 a_13 c_13 r1 r_8 r_12 r_13 h_0 (h_1.mono hle1) h_2 h_3 h_4 (h_5.mono hle1) (h_6.mono hle1) hr1 (h_8.mono hle1) h_9 (h_10.mono hle1) h_11 (h_12.mono hle1) (h_13.mono hle1) 2 J4 (kn1:Int) J4 ((Qm kn1 l t).2.1) (Jp2 _ _ _) (((Qm kn1 l t).1).head.epoch) hj3 ‹_›) (fun v G3 L1 hl3 hp=>?_)))))))))))))
 obtain ⟨a8,c8,a9,c9,a10,c10,a11,c11,a12,c12,a13,c13,a14,c14,a15,c15,r2,r3,r4,r5,rfl,w38,hs8,w39,w40,w41,hs9,hs10,hr2,hr3,w42,hs11,w43,hr4,hr5,rfl⟩:=hp
 refine Je (Jc (Jf (Jd (Jb [0,0,0] [(44,Bo (decide ((Qm kn1 l t).2.1=0)))] (Ks (decide ((Qm kn1 l t).2.1=0)) [44] [1,1,0] [0,0,0] (fun bb=>[(47,Bo (bb || (decide ((Qm kn1 l t).2.1=1))))]) (Je (Jc (Jl ((decide ((Qm kn1 l t).2.1=0)) || (decide ((Qm kn1 l t).2.1=1))) (fun h1=>?_) (fun h1=>?_)))))))))
 have hx3:((WP kn1 l t).town.polls)[kn1]? = some (Jbb kn1 l t):=Jgi (by (simp only [Q8];omega))
 obtain ⟨b6,o3,_,_,⟨rfl,w44,w45,w46,w47,w48,w49⟩,ha3,hre3,hc3⟩:=JR.ix hr3 hx3
 refine Kt [27] (Wm [(0,Pt b 0),(1,Pt b 0),(2,Pt b 0),(3,Pt b 8),(4,Sl a12 (((WP kn1 l t).town.polls).length) c12),(5,Pt b1 0),(6,I (kn1:Int)),(7,Pt b 0),(8,Pt b 0),(9,Pt b 0),(10,Pt b 8),(11,Sl a12 (((WP kn1 l t).town.polls).length) c12),(12,Pt b1 0),(13,I (kn1:Int)),(14,Pt b6 (o3+kn1*6)),(15,(Vh (Jbb kn1 l t))),(16,Pt b 0),(17,Pt b 0),(18,Pt b 0),(19,Pt b 0),(20,Pt b 4),(21,I ((WP kn1 l t).town.clerk.now)),(22,.tuple #[(Vh (Yy kn1 l t).1),I ((Yy kn1 l t).2)]),(23,.tuple #[(Vh (Yy kn1 l t).1),I ((Yy kn1 l t).2)]),(24,(Vh (Yy kn1 l t).1)),(25,I ((Yy kn1 l t).2)),(26,Pt b6 (o3+kn1*6))] (JF [] [(0,0),(1,0),(2,0),(3,0),(4,2),(5,0),(6,14),(7,0),(8,0),(9,0),(10,0),(11,2),(12,0),(13,14),(16,0),(17,0),(18,0),(19,0),(20,0),(21,2),(23,0),(24,0),(25,0)] [14,15,22,26] [27] (Kf ?_ (Kf ?_ (Kf ?_ (Kf ?_ KY)))) (Kf ?_ KY)))
 refine Jr 14 63 (Pt b6 (o3+kn1*6)) [(60,Sl a12 (((WP kn1 l t).town.polls).length) c12),(62,I (kn1:Int))] (fun X=>?_)
 exact Qs (b:=b6) (off:=o3) (len:=((WP kn1 l t).town.polls).length) (cap:=c12) (ik:=.i64) 63 143 6 kn1 ha3 (by (simp only [Q8];omega)) Jp
 refine Jr 15 64 (Vh (Jbb kn1 l t)) [(63,Pt b6 (o3+kn1*6))] (fun X=>?_)
 exact W4 (off:=o3) (p:=kn1*6) (cs:=(Vd (Jbb kn1 l t))) 64 143 2 0 (Vh (Jbb kn1 l t)) hre3 hc3 Jp
 refine Jr 22 71 (.tuple #[(Vh (Yy kn1 l t).1),I ((Yy kn1 l t).2)]) [(64,(Vh (Jbb kn1 l t))),(70,I ((WP kn1 l t).town.clerk.now))] (fun X=>?_)
 exact Jm 71 (.tuple #[(Vh (Yy kn1 l t).1),I ((Yy kn1 l t).2)]) (JgZ G3 (Vd (Jbb kn1 l t)) (Jbb kn1 l t) (⟨rfl,w44,w45,w46,w47,w48,w49⟩) ((WP kn1 l t).town.clerk.now)) Jp
 refine Jr 26 74 (Pt b6 (o3+kn1*6)) [(53,Sl a12 (((WP kn1 l t).town.polls).length) c12),(55,I (kn1:Int))] (fun X=>?_)
 exact Qs (b:=b6) (off:=o3) (len:=((WP kn1 l t).town.polls).length) (cap:=c12) (ik:=.i64) 74 143 6 kn1 ha3 (by (simp only [Q8];omega)) Jp
 refine Jz 27 [(72,(Vh (Yy kn1 l t).1)),(74,Pt b6 (o3+kn1*6))] (fun X=>?_)
 refine YC (b:=b6) (off:=o3) 2 hr3 kn1 ((Yy kn1 l t).1) ha3 (by (simp only [Q8];omega)) (Vh (Yy kn1 l t).1) (Vd (Yy kn1 l t).1) ⟨rfl,(Jcv _ _).least,(Jcv _ _).most,(Jcv _ _).lost,(Jcv _ _).gap,(Jcv _ _).next,(Jcv _ _).asked⟩ (fun r6 hr6=>?_)
 have e3:((WP kn1 l t).town.polls).length=(((WP kn1 l t).town.polls).set kn1 ((Yy kn1 l t).1)).length:=(Hd ..).symm
 refine J6 [] (Kl [0,1,2,3,4,5,6,7,8,9,10,11,12,13,14,15,16,17,18,19,20,21,22,23,24,26] [(25,0)] [] [] (Ha _) (Jlf (fr':=[]) (L':=([Sg b 0 [I ((Q8 (⟨(⟨t.town.clerk,t.town.owners.set kn1 ((JC (Js t (kn1:Int)) l.heads l.reply).1),t.town.polls,t.town.net⟩:Wl),t.reach,t.fates,t.events⟩:JI) 2 (kn1:Int) ((JC (Js t (kn1:Int)) l.heads l.reply).2.1) (((JC (Js t (kn1:Int)) l.heads l.reply).1).head.epoch)).town.clerk.queue.most),Sl a8 (((Q8 (⟨(⟨t.town.clerk,t.town.owners.set kn1 ((JC (Js t (kn1:Int)) l.heads l.reply).1),t.town.polls,t.town.net⟩:Wl),t.reach,t.fates,t.events⟩:JI) 2 (kn1:Int) ((JC (Js t (kn1:Int)) l.heads l.reply).2.1) (((JC (Js t (kn1:Int)) l.heads l.reply).1).head.epoch)).town.clerk.queue.wait).length) c8,I ((Q8 (⟨(⟨t.town.clerk,t.town.owners.set kn1 ((JC (Js t (kn1:Int)) l.heads l.reply).1),t.town.polls,t.town.net⟩:Wl),t.reach,t.fates,t.events⟩:JI) 2 (kn1:Int) ((JC (Js t (kn1:Int)) l.heads l.reply).2.1) (((JC (Js t (kn1:Int)) l.heads l.reply).1).head.epoch)).town.clerk.batch),I ((Q8 (⟨(⟨t.town.clerk,t.town.owners.set kn1 ((JC (Js t (kn1:Int)) l.heads l.reply).1),t.town.polls,t.town.net⟩:Wl),t.reach,t.fates,t.events⟩:JI) 2 (kn1:Int) ((JC (Js t (kn1:Int)) l.heads l.reply).2.1) (((JC (Js t (kn1:Int)) l.heads l.reply).1).head.epoch)).town.clerk.every),I ((Q8 (⟨(⟨t.town.clerk,t.town.owners.set kn1 ((JC (Js t (kn1:Int)) l.heads l.reply).1),t.town.polls,t.town.net⟩:Wl),t.reach,t.fates,t.events⟩:JI) 2 (kn1:Int) ((JC (Js t (kn1:Int)) l.heads l.reply).2.1) (((JC (Js t (kn1:Int)) l.heads l.reply).1).head.epoch)).town.clerk.now),Sl a9 (((Q8 (⟨(⟨t.town.clerk,t.town.owners.set kn1 ((JC (Js t (kn1:Int)) l.heads l.reply).1),t.town.polls,t.town.net⟩:Wl),t.reach,t.fates,t.events⟩:JI) 2 (kn1:Int) ((JC (Js t (kn1:Int)) l.heads l.reply).2.1) (((JC (Js t (kn1:Int)) l.heads l.reply).1).head.epoch)).town.clerk.heads).length) c9,Sl a10 (((Q8 (⟨(⟨t.town.clerk,t.town.owners.set kn1 ((JC (Js t (kn1:Int)) l.heads l.reply).1),t.town.polls,t.town.net⟩:Wl),t.reach,t.fates,t.events⟩:JI) 2 (kn1:Int) ((JC (Js t (kn1:Int)) l.heads l.reply).2.1) (((JC (Js t (kn1:Int)) l.heads l.reply).1).head.epoch)).town.clerk.books).length) c10,Sl a11 (((Q8 (⟨(⟨t.town.clerk,t.town.owners.set kn1 ((JC (Js t (kn1:Int)) l.heads l.reply).1),t.town.polls,t.town.net⟩:Wl),t.reach,t.fates,t.events⟩:JI) 2 (kn1:Int) ((JC (Js t (kn1:Int)) l.heads l.reply).2.1) (((JC (Js t (kn1:Int)) l.heads l.reply).1).head.epoch)).town.owners).length) c11,Sl a12 ((((Q8 (⟨(⟨t.town.clerk,t.town.owners.set kn1 ((JC (Js t (kn1:Int)) l.heads l.reply).1),t.town.polls,t.town.net⟩:Wl),t.reach,t.fates,t.events⟩:JI) 2 (kn1:Int) ((JC (Js t (kn1:Int)) l.heads l.reply).2.1) (((JC (Js t (kn1:Int)) l.heads l.reply).1).head.epoch)).town.polls).set kn1 ((Wa (QB (Q8 (⟨(⟨t.town.clerk,t.town.owners.set kn1 ((JC (Js t (kn1:Int)) l.heads l.reply).1),t.town.polls,t.town.net⟩:Wl),t.reach,t.fates,t.events⟩:JI) 2 (kn1:Int) ((JC (Js t (kn1:Int)) l.heads l.reply).2.1) (((JC (Js t (kn1:Int)) l.heads l.reply).1).head.epoch)) (kn1:Int)) ((Q8 (⟨(⟨t.town.clerk,t.town.owners.set kn1 ((JC (Js t (kn1:Int)) l.heads l.reply).1),t.town.polls,t.town.net⟩:Wl),t.reach,t.fates,t.events⟩:JI) 2 (kn1:Int) ((JC (Js t (kn1:Int)) l.heads l.reply).2.1) (((JC (Js t (kn1:Int)) l.heads l.reply).1).head.epoch)).town.clerk.now)).1)).length) c12,I ((Q8 (⟨(⟨t.town.clerk,t.town.owners.set kn1 ((JC (Js t (kn1:Int)) l.heads l.reply).1),t.town.polls,t.town.net⟩:Wl),t.reach,t.fates,t.events⟩:JI) 2 (kn1:Int) ((JC (Js t (kn1:Int)) l.heads l.reply).2.1) (((JC (Js t (kn1:Int)) l.heads l.reply).1).head.epoch)).town.net.now),Sl a13 (((Q8 (⟨(⟨t.town.clerk,t.town.owners.set kn1 ((JC (Js t (kn1:Int)) l.heads l.reply).1),t.town.polls,t.town.net⟩:Wl),t.reach,t.fates,t.events⟩:JI) 2 (kn1:Int) ((JC (Js t (kn1:Int)) l.heads l.reply).2.1) (((JC (Js t (kn1:Int)) l.heads l.reply).1).head.epoch)).town.net.way).length) c13,I ((Q8 (⟨(⟨t.town.clerk,t.town.owners.set kn1 ((JC (Js t (kn1:Int)) l.heads l.reply).1),t.town.polls,t.town.net⟩:Wl),t.reach,t.fates,t.events⟩:JI) 2 (kn1:Int) ((JC (Js t (kn1:Int)) l.heads l.reply).2.1) (((JC (Js t (kn1:Int)) l.heads l.reply).1).head.epoch)).reach),Sl a14 (((Q8 (⟨(⟨t.town.clerk,t.town.owners.set kn1 ((JC (Js t (kn1:Int)) l.heads l.reply).1),t.town.polls,t.town.net⟩:Wl),t.reach,t.fates,t.events⟩:JI) 2 (kn1:Int) ((JC (Js t (kn1:Int)) l.heads l.reply).2.1) (((JC (Js t (kn1:Int)) l.heads l.reply).1).head.epoch)).fates).length) c14,Sl a15 (((Q8 (⟨(⟨t.town.clerk,t.town.owners.set kn1 ((JC (Js t (kn1:Int)) l.heads l.reply).1),t.town.polls,t.town.net⟩:Wl),t.reach,t.fates,t.events⟩:JI) 2 (kn1:Int) ((JC (Js t (kn1:Int)) l.heads l.reply).2.1) (((JC (Js t (kn1:Int)) l.heads l.reply).1).head.epoch)).events).length) c15]]::r2::r6::r4::r5::[Sg b3 0 [Sr (((JC (Js t (kn1:Int)) l.heads l.reply).1).name),U (((JC (Js t (kn1:Int)) l.heads l.reply).1).key),I (((JC (Js t (kn1:Int)) l.heads l.reply).1).head.epoch),U (((JC (Js t (kn1:Int)) l.heads l.reply).1).head.root),U (((JC (Js t (kn1:Int)) l.heads l.reply).1).head.prev),I (((JC (Js t (kn1:Int)) l.heads l.reply).1).head.at_),Sl a5 ((((JC (Js t (kn1:Int)) l.heads l.reply).1).wanted).length) c5,I (((JC (Js t (kn1:Int)) l.heads l.reply).1).had)]]::[Sg b1 0 [I (kn1:Int),I l.from_,I l.since,I l.due,Sl a1 l.heads.length c1,I l.reply.head.epoch,U l.reply.head.root,U l.reply.head.prev,I l.reply.head.at_,Sr l.reply.proof.name,Sl a2 l.reply.proof.entries.length c2,Sl a3 l.reply.proof.sides.length c3]]::Lr)) (by rfl) (by (simp only [Ky,KU,Vd,ZR,Ke,Q1,KF,Vh,WV,e3];first | done | rfl)) (Jk 4 (Jk 4 (Jk 4 (Jk 4 (Jk 4 ?_)))))))
 have hf1:Yd t l=(⟨(⟨(WP kn1 l t).town.clerk,(WP kn1 l t).town.owners,((WP kn1 l t).town.polls).set kn1 ((Yy kn1 l t).1),(WP kn1 l t).town.net⟩:Wl),(WP kn1 l t).reach,(WP kn1 l t).fates,(WP kn1 l t).events⟩:JI):=by
  (rw [JlU ‹_›,if_pos (by first | omega | (simp only [WP,Qm,Yy,Jex,Jbb] at *;omega))];rfl)
 refine ZW [] [] (KB (Lr:=Lr) [[Sg b 0 (Ke (⟨(⟨(WP kn1 l t).town.clerk,(WP kn1 l t).town.owners,(((WP kn1 l t).town.polls).set kn1 ((Yy kn1 l t).1)),(WP kn1 l t).town.net⟩:Wl),(WP kn1 l t).reach,(WP kn1 l t).fates,(WP kn1 l t).events⟩:JI) a8 c8 a9 c9 a10 c10 a11 c11 a12 c12 a13 c13 a14 c14 a15 c15)],r2,r6,r4,r5] (Ja hle1 hl3) ?_)
 rw [hf1];try dsimp only
 exact ⟨a8,c8,a9,c9,a10,c10,a11,c11,a12,c12,a13,c13,a14,c14,a15,c15,r2,r6,r4,r5,rfl,w38,hs8,w39,w40,w41,hs9,hs10,hr2,hr6,w42,hs11,w43,hr4,hr5,rfl⟩
 refine Jq (Jk 4 (Jk 4 (Jk 4 (Jk 4 (Jk 4 ?_)))))
 have hf2:Yd t l=(WP kn1 l t):=by
  (rw [JlU ‹_›,if_neg (by first | omega | (simp only [WP,Qm,Yy,Jex,Jbb] at *;omega))];done)
 refine ZW [] [] (KB (Lr:=Lr) [[Sg b 0 (Ke (WP kn1 l t) a8 c8 a9 c9 a10 c10 a11 c11 a12 c12 a13 c13 a14 c14 a15 c15)],r2,r3,r4,r5] (Ja hle1 hl3) ?_)
 rw [hf2];try dsimp only
 exact ⟨a8,c8,a9,c9,a10,c10,a11,c11,a12,c12,a13,c13,a14,c14,a15,c15,r2,r3,r4,r5,rfl,w38,hs8,w39,w40,w41,hs9,hs10,hr2,hr3,w42,hs11,w43,hr4,hr5,rfl⟩
set_option maxRecDepth 20000 in
abbrev Jbc (kn1:Nat) (t:JI):=Wo (⟨(⟨t.town.clerk,t.town.owners,t.town.polls.set kn1 ((KQ (QB t (kn1:Int)) t.town.clerk.now).1),t.town.net⟩:Wl),t.reach,t.fates,t.events⟩:JI) (⟨(-1),(kn1:Int),((Js t (kn1:Int)).head.epoch)+1,0,[],(⟨(⟨0,0,0,0⟩:JX),(⟨[],[],[]⟩:Q4)⟩:Q5)⟩:JU)
abbrev Zb (kn1:Nat) (t:JI):=KQ (QB t (kn1:Int)) t.town.clerk.now
abbrev Jci (kn1:Nat) (t:JI):=Vh (QB t (kn1:Int))
abbrev Jai (kn1:Nat) (t:JI):=Vh (Zb kn1 t).1
theorem Jo2 (G:J5) (b:Nat) (t:JI) (a_1:Ba) (c_1:Nat) (a_5:Ba) (c_5:Nat) (a_6:Ba) (c_6:Nat) (a_7:Ba) (c_7:Nat) (a_8:Ba) (c_8:Nat) (a_10:Ba) (c_10:Nat) (a_12:Ba) (c_12:Nat) (a_13:Ba) (c_13:Nat) (r_7:Bg) (r_8:Bg) (r_12:Bg) (r_13:Bg) (h_0:rI t.town.clerk.queue.most) (h_1:RS Q6 G a_1 c_1 t.town.clerk.queue.wait) (h_2:rI t.town.clerk.batch) (h_3:rI t.town.clerk.every) (h_4:rI t.town.clerk.now) (h_5:RS KO G a_5 c_5 t.town.clerk.heads) (h_6:RS QA G a_6 c_6 t.town.clerk.books) (h_7:JR Q9 G a_7 c_7 t.town.owners r_7) (h_8:JR WK G a_8 c_8 t.town.polls r_8) (h_9:rI t.town.net.now) (h_10:RS Kn G a_10 c_10 t.town.net.way) (h_11:rI t.reach) (h_12:JR VG G a_12 c_12 t.fates r_12) (h_13:JR Wn G a_13 c_13 t.events r_13) (k:Int) (hw_k:rI k) (hev:t.events.length≤1000000) (hto:0≤k∧k<t.town.owners.length) (hpl:t.town.polls.length=t.town.owners.length) (hep:∀ (i:Nat) o,t.town.owners[i]? = some o→o.head.epoch≤1000000):JcH 114 #[Pt b 0,I k] G [[Sg b 0 [I t.town.clerk.queue.most,Sl a_1 t.town.clerk.queue.wait.length c_1,I t.town.clerk.batch,I t.town.clerk.every,I t.town.clerk.now,Sl a_5 t.town.clerk.heads.length c_5,Sl a_6 t.town.clerk.books.length c_6,Sl a_7 t.town.owners.length c_7,Sl a_8 t.town.polls.length c_8,I t.town.net.now,Sl a_10 t.town.net.way.length c_10,I t.reach,Sl a_12 t.fates.length c_12,Sl a_13 t.events.length c_13]],r_7,r_8,r_12,r_13] (fun u G' L'=>∃ (a_z1:Ba) (c_z1:Nat) (a_z5:Ba) (c_z5:Nat) (a_z6:Ba) (c_z6:Nat) (a_z7:Ba) (c_z7:Nat) (a_z8:Ba) (c_z8:Nat) (a_z10:Ba) (c_z10:Nat) (a_z12:Ba) (c_z12:Nat) (a_z13:Ba) (c_z13:Nat) (r_z7:Bg) (r_z8:Bg) (r_z12:Bg) (r_z13:Bg),u=.tuple #[]∧(rI ((Zx t k).town.clerk.queue.most))∧(RS Q6 G' a_z1 c_z1 ((Zx t k).town.clerk.queue.wait))∧(rI ((Zx t k).town.clerk.batch))∧(rI ((Zx t k).town.clerk.every))∧(rI ((Zx t k).town.clerk.now))∧(RS KO G' a_z5 c_z5 ((Zx t k).town.clerk.heads))∧(RS QA G' a_z6 c_z6 ((Zx t k).town.clerk.books))∧(JR Q9 G' a_z7 c_z7 ((Zx t k).town.owners) r_z7)∧(JR WK G' a_z8 c_z8 ((Zx t k).town.polls) r_z8)∧(rI ((Zx t k).town.net.now))∧(RS Kn G' a_z10 c_z10 ((Zx t k).town.net.way))∧(rI ((Zx t k).reach))∧(JR VG G' a_z12 c_z12 ((Zx t k).fates) r_z12)∧(JR Wn G' a_z13 c_z13 ((Zx t k).events) r_z13)∧L'=[[Sg b 0 [I ((Zx t k).town.clerk.queue.most),Sl a_z1 (((Zx t k).town.clerk.queue.wait).length) c_z1,I ((Zx t k).town.clerk.batch),I ((Zx t k).town.clerk.every),I ((Zx t k).town.clerk.now),Sl a_z5 (((Zx t k).town.clerk.heads).length) c_z5,Sl a_z6 (((Zx t k).town.clerk.books).length) c_z6,Sl a_z7 (((Zx t k).town.owners).length) c_z7,Sl a_z8 (((Zx t k).town.polls).length) c_z8,I ((Zx t k).town.net.now),Sl a_z10 (((Zx t k).town.net.way).length) c_z10,I ((Zx t k).reach),Sl a_z12 (((Zx t k).fates).length) c_z12,Sl a_z13 (((Zx t k).events).length) c_z13]],r_z7,r_z8,r_z12,r_z13]):=by
 intro Lr
 refine JP Tryz.func114 84 [(0,Pt b 0),(1,I k)] rfl (fun w0 G0=>?_)
 show TC _ _ _ _ _ ([Sg b 0 (Ke t a_1 c_1 a_5 c_5 a_6 c_6 a_7 c_7 a_8 c_8 a_10 c_10 a_12 c_12 a_13 c_13)]::r_7::r_8::r_12::r_13::Lr)
 obtain ⟨kn1,hkn1⟩:∃ k_:Nat,k=(k_:Int):=⟨(k).toNat,by omega⟩
 have e1:k=(kn1:Int):=hkn1
 refine QU 1 (I (kn1:Int)) (congrArg I e1) (Jf ?_)
 have hx1:(t.town.polls)[kn1]? = some (QB t (kn1:Int)):=Jgi (by omega)
 obtain ⟨b1,o1,_,_,⟨rfl,w1,w2,w3,w4,w5,w6⟩,ha1,hre1,hc1⟩:=JR.ix h_8 hx1
 refine Kt [18,19] (Wm [(0,Pt b 0),(1,Pt b 0),(2,Pt b 0),(3,Pt b 8),(4,Sl a_8 t.town.polls.length c_8),(5,I (kn1:Int)),(6,Pt b1 (o1+kn1*6)),(7,(Jci kn1 t)),(8,Pt b 0),(9,Pt b 0),(10,Pt b 0),(11,Pt b 0),(12,Pt b 4),(13,I t.town.clerk.now),(14,.tuple #[(Jai kn1 t),I ((Zb kn1 t).2)]),(15,.tuple #[(Jai kn1 t),I ((Zb kn1 t).2)]),(16,(Jai kn1 t)),(17,I ((Zb kn1 t).2))] (JF [] [(0,0),(1,0),(2,0),(3,0),(4,2),(5,0),(8,0),(9,0),(10,0),(11,0),(12,0),(13,2),(15,0),(16,0),(17,0)] [6,7,14] [18] (Kf ?_ (Kf ?_ (Kf ?_ KY))) (Kf ?_ KY)))
 refine Jr 6 17 (Pt b1 (o1+kn1*6)) [(15,Sl a_8 t.town.polls.length c_8),(16,I (kn1:Int))] (fun X=>?_)
 exact Qs (b:=b1) (off:=o1) (len:=t.town.polls.length) (cap:=c_8) (ik:=.i64) 17 143 6 kn1 ha1 J4 Jp
 refine Jr 7 18 (Jci kn1 t) [(17,Pt b1 (o1+kn1*6))] (fun X=>?_)
 exact W4 (off:=o1) (p:=kn1*6) (cs:=(Vd (QB t (kn1:Int)))) 18 143 2 0 (Jci kn1 t) hre1 hc1 Jp
 refine Jr 14 25 (.tuple #[(Jai kn1 t),I ((Zb kn1 t).2)]) [(18,(Jci kn1 t)),(24,I t.town.clerk.now)] (fun X=>?_)
 exact Jm 25 (.tuple #[(Jai kn1 t),I ((Zb kn1 t).2)]) (JdS G (Vd (QB t (kn1:Int))) (QB t (kn1:Int)) (⟨rfl,w1,w2,w3,w4,w5,w6⟩) t.town.clerk.now) Jp
 refine Jz 18 [] (fun X=>?_)
 refine Jv 4 #[I 0,I 0,I 0,I 0,I 0,I 0] 143 (fun b2=>JA [(18,Pt b2 0)] (JF [] [(0,0),(1,0),(2,0),(3,0),(4,4),(5,0),(8,0),(9,0),(10,0),(11,0),(12,0),(13,4),(15,0),(16,0),(17,0)] [6,7,14] [19] (Kf ?_ (Kf ?_ (Kf ?_ KY))) (Kf ?_ KY)))
 refine Jr 6 17 (Pt b1 (o1+kn1*6)) [(15,Sl a_8 t.town.polls.length c_8),(16,I (kn1:Int))] (fun X=>?_)
 exact Qs (b:=b1) (off:=o1) (len:=t.town.polls.length) (cap:=c_8) (ik:=.i64) 17 143 6 kn1 ha1 J4 Jp
 refine Jr 7 18 (Jci kn1 t) [(17,Pt b1 (o1+kn1*6))] (fun X=>?_)
 exact W4 (off:=o1) (p:=kn1*6) (cs:=(Vd (QB t (kn1:Int)))) 18 143 3 0 (Jci kn1 t) hre1 hc1 Jp
 refine Jr 14 25 (.tuple #[(Jai kn1 t),I ((Zb kn1 t).2)]) [(18,(Jci kn1 t)),(24,I t.town.clerk.now)] (fun X=>?_)
 exact Jm 25 (.tuple #[(Jai kn1 t),I ((Zb kn1 t).2)]) (JdS G (Vd (QB t (kn1:Int))) (QB t (kn1:Int)) (⟨rfl,w1,w2,w3,w4,w5,w6⟩) t.town.clerk.now) Jp
 refine Jz 19 [(4,Pt b2 0),(26,(Jai kn1 t))] (fun X=>?_)
 refine KC 0 ([Sg b2 0 (Vd (Zb kn1 t).1)]::[Sg b 0 (Ke t a_1 c_1 a_5 c_5 a_6 c_6 a_7 c_7 a_8 c_8 a_10 c_10 a_12 c_12 a_13 c_13)]::r_7::r_8::r_12::r_13::Lr) (J6 [(20,I ((Zb kn1 t).2))] (Kl [0,1,2,3,4,5,6,7,8,9,10,11,12,13,14,15,16] [(17,0),(20,0)] [] [(0,Pt b 0),(1,I (kn1:Int)),(4,Pt b2 0),(5,I ((Zb kn1 t).2))] (Ha _) (Jc (Jf (Jg [0,0] [(29,Bo (!decide ((Zb kn1 t).2=0)))] (Jl (!decide ((Zb kn1 t).2=0)) (fun h1=>?_) (fun h1=>?_)))))))
 refine Jn (Jj (Jk 5 (Jk 5 (Jk 5 (Jk 5 (Jk 5 ?_))))))
 have hf1:Zx t k=t:=by
  rw [show k=(kn1:Int) by assumption];exact tAsk0 ‹_›
 refine Jo [] [] (KB (Lr:=Lr) [[Sg b 0 (Ke t a_1 c_1 a_5 c_5 a_6 c_6 a_7 c_7 a_8 c_8 a_10 c_10 a_12 c_12 a_13 c_13)],r_7,r_8,r_12,r_13] (Jh _) ?_)
 rw [hf1];try dsimp only
 exact ⟨a_1,c_1,a_5,c_5,a_6,c_6,a_7,c_7,a_8,c_8,a_10,c_10,a_12,c_12,a_13,c_13,r_7,r_8,r_12,r_13,rfl,h_0,h_1,h_2,h_3,h_4,h_5,h_6,h_7,h_8,h_9,h_10,h_11,h_12,h_13,rfl⟩
 refine Jq (Jc (Jf (Jd (Jb [0,0,0,0,4,0] [(35,Sl a_8 t.town.polls.length c_8),(36,I (kn1:Int))] (Qs (b:=b1) (off:=o1) (len:=t.town.polls.length) (cap:=c_8) (ik:=.i64) 37 143 6 kn1 ha1 J4 (W4 (off:=o1) (p:=kn1*6) (cs:=(Vd (QB t (kn1:Int)))) 38 143 3 0 (Jci kn1 t) hre1 hc1 (Jm 39 (.tuple #[Bo ((Wp (QB t (kn1:Int))).1),I ((Wp (QB t (kn1:Int))).2)]) (JcQ G (Vd (QB t (kn1:Int))) (QB t (kn1:Int)) (⟨rfl,w1,w2,w3,w4,w5,w6⟩)) (Jb [0,0,0,0,0] [(6,Bo ((Wp (QB t (kn1:Int))).1))] (Je (Jc (Jf (Jd (Jb [2] [(43,(Jai kn1 t))] (Jm 44 (.tuple #[Bo ((Wp ((Zb kn1 t).1)).1),I ((Wp ((Zb kn1 t).1)).2)]) (JcQ G (Vd (Zb kn1 t).1) ((Zb kn1 t).1) (⟨rfl,(Jah _ _).least,(Jah _ _).most,(Jah _ _).lost,(Jah _ _).gap,(Jah _ _).next,(Jah _ _).asked⟩)) (Jb [0,0,0,0,0] [(8,Bo ((Wp ((Zb kn1 t).1)).1))] (Je (Jc (Jf (Kt [8] (Wm [(0,Pt b 0),(1,Pt b 0),(2,Pt b 0),(3,Pt b 8),(4,Sl a_8 t.town.polls.length c_8),(5,I (kn1:Int)),(6,(Jai kn1 t)),(7,Pt b1 (o1+kn1*6))] ?_))))))))))))))))))))
 refine JF [] [(0,0),(1,0),(2,0),(3,0),(4,4),(5,0),(6,2)] [7] [8] (Kf ?_ KY) (Kf ?_ KY)
 refine Jr 7 54 (Pt b1 (o1+kn1*6)) [(51,Sl a_8 t.town.polls.length c_8),(52,I (kn1:Int))] (fun X=>?_)
 exact Qs (b:=b1) (off:=o1) (len:=t.town.polls.length) (cap:=c_8) (ik:=.i64) 54 143 6 kn1 ha1 J4 Jp
 refine Jz 8 [(53,(Jai kn1 t)),(54,Pt b1 (o1+kn1*6))] (fun X=>?_)
 refine YC (b:=b1) (off:=o1) 3 h_8 kn1 ((Zb kn1 t).1) ha1 J4 (Jai kn1 t) (Vd (Zb kn1 t).1) ⟨rfl,(Jah _ _).least,(Jah _ _).most,(Jah _ _).lost,(Jah _ _).gap,(Jah _ _).next,(Jah _ _).asked⟩ (fun r1 hr1=>?_)
 have e2:t.town.polls.length=(t.town.polls.set kn1 ((Zb kn1 t).1)).length:=(Hd ..).symm
 refine J6 [] (Kl [0,1,2,3,4,5,6,7] [] [] [(0,Pt b 0),(1,I (kn1:Int)),(6,Bo ((Wp (QB t (kn1:Int))).1)),(8,Bo ((Wp ((Zb kn1 t).1)).1))] (Ha _) (Jlf (fr':=[(0,Pt b 0),(1,I (kn1:Int)),(6,Bo ((Wp (QB t (kn1:Int))).1)),(8,Bo ((Wp ((KQ (QB t (kn1:Int)) t.town.clerk.now).1)).1))]) (L':=([Sg b2 0 [I (((KQ (QB t (kn1:Int)) t.town.clerk.now).1).least),I (((KQ (QB t (kn1:Int)) t.town.clerk.now).1).most),I (((KQ (QB t (kn1:Int)) t.town.clerk.now).1).lost),I (((KQ (QB t (kn1:Int)) t.town.clerk.now).1).gap),I (((KQ (QB t (kn1:Int)) t.town.clerk.now).1).next),I (((KQ (QB t (kn1:Int)) t.town.clerk.now).1).asked)]]::[Sg b 0 [I t.town.clerk.queue.most,Sl a_1 t.town.clerk.queue.wait.length c_1,I t.town.clerk.batch,I t.town.clerk.every,I t.town.clerk.now,Sl a_5 t.town.clerk.heads.length c_5,Sl a_6 t.town.clerk.books.length c_6,Sl a_7 t.town.owners.length c_7,Sl a_8 ((t.town.polls.set kn1 ((KQ (QB t (kn1:Int)) t.town.clerk.now).1)).length) c_8,I t.town.net.now,Sl a_10 t.town.net.way.length c_10,I t.reach,Sl a_12 t.fates.length c_12,Sl a_13 t.events.length c_13]]::r_7::r1::r_12::r_13::Lr)) (by rfl) (by (simp only [KU,Vd,Ke,Vh,e2];first | done | rfl)) (Jc (Jf (Jd (Jb [0,0,0,0,0,0,4,0] [(55,Pt b 0),(56,I (kn1:Int)),(61,Sl a_7 t.town.owners.length c_7),(62,I (kn1:Int))] ?_))))))
 have hx2:(t.town.owners)[kn1]? = some (Js t (kn1:Int)):=Y3 (by omega)
 obtain ⟨b3,o2,_,_,⟨a1,c1,rfl,_,_,_,_,_,_,_,_⟩,ha2,hre2,hc2⟩:=JR.ix h_7 hx2
 refine Qs (b:=b3) (off:=o2) (len:=t.town.owners.length) (cap:=c_7) (ik:=.i64) 63 76 8 kn1 ha2 J4 (Jb [0,0] [(65,Pt b3 (o2+kn1*8+2))] (W4 (off:=o2) (p:=kn1*8) (cs:=(KU (Js t (kn1:Int)) a1 c1)) 66 2 2 2 (I ((Js t (kn1:Int)).head.epoch)) hre2 hc2 (Jb [0,0] [(68,.agg #[I (-1),I (kn1:Int),I (Hb.wrap (((Js t (kn1:Int)).head.epoch)+1)),I 0,Sl none 0 0,I 0,U 0,U 0,I 0,Sr ([]),Sl none 0 0,Sl none 0 0])] ?_)))
 have e3:Hb.wrap (((Js t (kn1:Int)).head.epoch)+1)=((Js t (kn1:Int)).head.epoch)+1:=He _ (by (have q_:=hep kn1 _ (Y3 (by omega));omega))
 refine Kv 68 (.agg #[I (-1),I (kn1:Int),I (((Js t (kn1:Int)).head.epoch)+1),I 0,Sl none 0 0,I 0,U 0,U 0,I 0,Sr ([]),Sl none 0 0,Sl none 0 0]) (show (.agg #[I (-1),I (kn1:Int),I (Hb.wrap (((Js t (kn1:Int)).head.epoch)+1)),I 0,Sl none 0 0,I 0,U 0,U 0,I 0,Sr ([]),Sl none 0 0,Sl none 0 0]:Value)=.agg #[I (-1),I (kn1:Int),I (((Js t (kn1:Int)).head.epoch)+1),I 0,Sl none 0 0,I 0,U 0,U 0,I 0,Sr ([]),Sl none 0 0,Sl none 0 0] by simp only [e3]) ?_
 clear e3
 refine Jw 5 (Jw 5 (Jw 5 (Jw 5 (Jw 5 (Qi (Ls:=[[Sg b 0 (Ke (⟨(⟨t.town.clerk,t.town.owners,(t.town.polls.set kn1 ((Zb kn1 t).1)),t.town.net⟩:Wl),t.reach,t.fates,t.events⟩:JI) a_1 c_1 a_5 c_5 a_6 c_6 a_7 c_7 a_8 c_8 a_10 c_10 a_12 c_12 a_13 c_13)],r_7,r1,r_12,r_13]) (Lr:=([Sg b2 0 (Vd (Zb kn1 t).1)]::Lr)) 69 (Jhv G b (⟨(⟨t.town.clerk,t.town.owners,t.town.polls.set kn1 ((Zb kn1 t).1),t.town.net⟩:Wl),t.reach,t.fates,t.events⟩:JI) a_1 c_1 a_5 c_5 a_6 c_6 a_7 c_7 a_8 c_8 a_10 c_10 a_12 c_12 a_13 c_13 r_7 r1 r_12 r_13 ‹_› h_1 ‹_› ‹_› ‹_› h_5 h_6 h_7 hr1 ‹_› h_10 ‹_› h_12 h_13 [I (-1),I (kn1:Int),I (((Js t (kn1:Int)).head.epoch)+1),I 0,Sl none 0 0,I 0,U 0,U 0,I 0,Sr ([]),Sl none 0 0,Sl none 0 0] (⟨(-1),(kn1:Int),((Js t (kn1:Int)).head.epoch)+1,0,[],(⟨(⟨0,0,0,0⟩:JX),(⟨[],[],[]⟩:Q4)⟩:Q5)⟩:JU) (⟨none,0,none,0,none,0,rfl,(by (dsimp only;omega)),(by (dsimp only;omega)),(by (dsimp only;(have q_:=hep kn1 _ (Y3 J4);omega))),(by (dsimp only;omega)),(J2 KO G),(by (dsimp only;omega)),(by (dsimp only;omega)),(by (dsimp only;omega)),(by (dsimp only;omega)),(Hc rfl),(J2 QK G),(J2 EU G)⟩)) (fun v G1 L1 hl1 hp=>?_))))))
 obtain ⟨a2,c2,a3,c3,a4,c4,a5,c5,a6,c6,a7,c7,a8,c8,a9,c9,r2,r3,r4,r5,rfl,w14,hs2,w15,w16,w17,hs3,hs4,hr2,hr3,w18,hs5,w19,hr4,hr5,rfl⟩:=hp
 refine Je (Jc (Jf (Jd (Jb [0,0] [(71,Bo ((Wp ((Zb kn1 t).1)).1))] (Ks ((Wp ((Zb kn1 t).1)).1) [71] [0,0,0] [1,1,0] (fun bb=>[(74,Bo (bb && (!((Wp (QB t (kn1:Int))).1))))]) (Je (Jc (Jl (((Wp ((Zb kn1 t).1)).1) && (!((Wp (QB t (kn1:Int))).1))) (fun h2=>?_) (fun h2=>?_)))))))))
 refine Jd (Jb [0,0,0,0,0,0,0,2] [(75,Pt b 0),(76,I (kn1:Int)),(82,I ((Jbc kn1 t).town.clerk.now))] (Jw 4 (Jw 4 (Jw 4 (Jw 4 (Jw 4 (Qi (Ls:=[[Sg b 0 (Ke (Jbc kn1 t) a2 c2 a3 c3 a4 c4 a5 c5 a6 c6 a7 c7 a8 c8 a9 c9)],r2,r3,r4,r5]) (Lr:=([Sg b2 0 (Vd (Zb kn1 t).1)]::Lr)) 83 (Jew G1 b (Jbc kn1 t) a2 c2 a3 c3 a4 c4 a5 c5 a6 c6 a7 c7 a8 c8 a9 c9 r2 r3 r4 r5 w14 hs2 w15 w16 w17 hs3 hs4 hr2 hr3 w18 hs5 w19 hr4 hr5 3 J4 (kn1:Int) J4 0 J4 ((Jbc kn1 t).town.clerk.now) w17 ‹_›) (fun v G2 L1 hl2 hp=>?_))))))))
 obtain ⟨a10,c10,a11,c11,a12,c12,a13,c13,a14,c14,a15,c15,a16,c16,a17,c17,r6,r7,r8,r9,rfl,w20,hs6,w21,w22,w23,hs7,hs8,hr6,hr7,w24,hs9,w25,hr8,hr9,rfl⟩:=hp
 refine Je (Jk 4 (Jk 4 (Jk 4 (Jk 4 (Jk 4 ?_)))))
 have hf2:Zx t k=(Q8 (Jbc kn1 t) 3 (kn1:Int) 0 ((Jbc kn1 t).town.clerk.now)):=by
  rw [show k=(kn1:Int) by assumption];exact tAsk1 ‹_› ‹_›
 refine ZW [] [] (KB (Lr:=Lr) [[Sg b 0 (Ke (Q8 (Jbc kn1 t) 3 (kn1:Int) 0 ((Jbc kn1 t).town.clerk.now)) a10 c10 a11 c11 a12 c12 a13 c13 a14 c14 a15 c15 a16 c16 a17 c17)],r6,r7,r8,r9] (Ja hl1 hl2) ?_)
 rw [hf2];try dsimp only
 exact ⟨a10,c10,a11,c11,a12,c12,a13,c13,a14,c14,a15,c15,a16,c16,a17,c17,r6,r7,r8,r9,rfl,w20,hs6,w21,w22,w23,hs7,hs8,hr6,hr7,w24,hs9,w25,hr8,hr9,rfl⟩
 refine Jq (Jk 4 (Jk 4 (Jk 4 (Jk 4 (Jk 4 ?_)))))
 have hf3:Zx t k=(Jbc kn1 t):=by
  rw [show k=(kn1:Int) by assumption];exact tAsk2 ‹_› ‹_›
 refine ZW [] [] (KB (Lr:=Lr) [[Sg b 0 (Ke (Jbc kn1 t) a2 c2 a3 c3 a4 c4 a5 c5 a6 c6 a7 c7 a8 c8 a9 c9)],r2,r3,r4,r5] hl1 ?_)
 rw [hf3];try dsimp only
 exact ⟨a2,c2,a3,c3,a4,c4,a5,c5,a6,c6,a7,c7,a8,c8,a9,c9,r2,r3,r4,r5,rfl,w14,hs2,w15,w16,w17,hs3,hs4,hr2,hr3,w18,hs5,w19,hr4,hr5,rfl⟩
structure VV (t:JI):Prop where
 I:∃ s,ZV s t
 W:WW t
 polls:t.town.polls.length=t.town.owners.length
 len:t.town.owners.length≤4
 reach:1≤t.reach∧t.reach≤40
theorem VV.epoch {t:JI} (h:VV t) (i:Nat) (o:Qp) (ho:t.town.owners[i]? = some o):o.head.epoch≤1000000:=by
 obtain ⟨s,h⟩:=h.I
 have:=Zl (Qb.1 (h.own i o ho).1).2.1
 omega
theorem VV.grew {t u:JI} {k:Nat} (h:VV t) (g:Yx t u k) (hI:∃ s,ZV s u) (hW:WW u):VV u :=
 ⟨hI,hW,by rw [g.polls,g.own];exact h.polls,by rw [g.own];exact h.len,by rw [g.reach];exact h.reach⟩
theorem Jp3 {s:Kx} {t:JI} (h:ZV s t) (h1:¬ (KV t.town.clerk).1.now=t.town.clerk.now):ZV s (Vt t):=by
 obtain ⟨t0,tk⟩:=JdQ h.clerk
 have hnn:(KV t.town.clerk).1.now=t.town.clerk.now+1:=by
  rcases JcN h.clerk with q | q
  · exact absurd q.1 h1
  · exact q.2
 have hc:=tk.ok.now
 have hn:=h.now
 have hr:=JcS h.net (by omega)
 refine ⟨tk.ok,hr.1,?_,h.own,h.poll⟩
 show (Ku t.town.net).1.now=(KV t.town.clerk).1.now
 rw [hr.2];omega
theorem Zt {t:JI} (h:VV t) (h1:¬ (KV t.town.clerk).1.now=t.town.clerk.now) {jt:JI} {i:Nat} (hJ:jt=Zh (Vt t) ((Ku t.town.net).2.1.take i)) :
  VV jt∧jt.events.length≤t.events.length+60∧jt.town.owners.length=t.town.owners.length:=by
 obtain ⟨s,hI⟩:=h.I
 subst hJ
 have hm:∀ x∈(Ku t.town.net).2.1.take i,x∈(Ku t.town.net).2.1:=fun x hx=>List.mem_of_mem_take hx
 have g:=Jet ((Ku t.town.net).2.1.take i) (Vt t)
 have hl:((Ku t.town.net).2.1.take i).length≤60:=by have:=JjF t.town.net;rw [List.length_take];omega
 have g2:Yx t (Zh (Vt t) ((Ku t.town.net).2.1.take i)) 60:=(⟨g.ev,g.own,g.polls,g.reach⟩:Yx t _ _).mono hl
 exact ⟨h.grew g2 ⟨s,Jev _ (Jp3 hI h1) (fun x hx=>h.W x (Jgk (hm x hx)))⟩ (Jeu _ (JlQ h.W)),g2.len.1,g2.own⟩
theorem Jgm {t:JI} (h:VV t) {i:Nat} {x:JU} (hx:(Ku t.town.net).2.1[i]? = some x):x.to_<t.town.owners.length:=h.W x (Jgk (List.mem_of_getElem? hx))
theorem Jey {t:JI} (h:VV t) {kt:JI} {i:Nat} (hK:kt=Jce t i):VV kt∧kt.events.length≤t.events.length+i∧kt.town.owners.length=t.town.owners.length:=by
 obtain ⟨s,hI⟩:=h.I
 subst hK
 have g:=JkU t i
 exact ⟨h.grew g ⟨s,JkY hI i⟩ (JkV h.W i),g.len.1,g.own⟩
theorem Jk0 {t:JI} (h:(KV t.town.clerk).1.now=t.town.clerk.now):WJ t=t:=by unfold WJ;rw [if_pos h]
theorem Jo3 {t jt kt:JI} {i k:Nat} (h:¬ (KV t.town.clerk).1.now=t.town.clerk.now) (hJ:jt=Zh (Vt t) ((Ku t.town.net).2.1.take i)) (hi:(Ku t.town.net).2.1.length≤i) (hK:kt=Jce jt k) (hk:k=jt.town.owners.length):WJ t=kt:=by
 unfold WJ
 rw [List.take_of_length_le hi] at hJ
 rw [if_neg h,hK,hk,hJ]
theorem do_H {t:JI} (h:VV t) (d:K6):VV (Va t d)∧(Va t d).events.length≤t.events.length+64:=by
 obtain ⟨s,hI⟩:=h.I
 have g:=g_do h.len d
 exact ⟨h.grew g ⟨s,i_do hI h.W d⟩ (w_do h.W d),g.len.1⟩
set_option maxRecDepth 20000 in
abbrev ZI (t:JI):=KV t.town.clerk
set_option maxHeartbeats 1600000 in
theorem Jm6 (G:J5) (b:Nat) (t:JI) (a_1:Ba) (c_1:Nat) (a_5:Ba) (c_5:Nat) (a_6:Ba) (c_6:Nat) (a_7:Ba) (c_7:Nat) (a_8:Ba) (c_8:Nat) (a_10:Ba) (c_10:Nat) (a_12:Ba) (c_12:Nat) (a_13:Ba) (c_13:Nat) (r_7:Bg) (r_8:Bg) (r_12:Bg) (r_13:Bg) (h_0:rI t.town.clerk.queue.most) (h_1:RS Q6 G a_1 c_1 t.town.clerk.queue.wait) (h_2:rI t.town.clerk.batch) (h_3:rI t.town.clerk.every) (h_4:rI t.town.clerk.now) (h_5:RS KO G a_5 c_5 t.town.clerk.heads) (h_6:RS QA G a_6 c_6 t.town.clerk.books) (h_7:JR Q9 G a_7 c_7 t.town.owners r_7) (h_8:JR WK G a_8 c_8 t.town.polls r_8) (h_9:rI t.town.net.now) (h_10:RS Kn G a_10 c_10 t.town.net.way) (h_11:rI t.reach) (h_12:JR VG G a_12 c_12 t.fates r_12) (h_13:JR Wn G a_13 c_13 t.events r_13)  (hH:VV t) (hev:t.events.length≤900000):JcH 64 #[Pt b 0] G [[Sg b 0 [I t.town.clerk.queue.most,Sl a_1 t.town.clerk.queue.wait.length c_1,I t.town.clerk.batch,I t.town.clerk.every,I t.town.clerk.now,Sl a_5 t.town.clerk.heads.length c_5,Sl a_6 t.town.clerk.books.length c_6,Sl a_7 t.town.owners.length c_7,Sl a_8 t.town.polls.length c_8,I t.town.net.now,Sl a_10 t.town.net.way.length c_10,I t.reach,Sl a_12 t.fates.length c_12,Sl a_13 t.events.length c_13]],r_7,r_8,r_12,r_13] (fun u G' L'=>∃ (a_z1:Ba) (c_z1:Nat) (a_z5:Ba) (c_z5:Nat) (a_z6:Ba) (c_z6:Nat) (a_z7:Ba) (c_z7:Nat) (a_z8:Ba) (c_z8:Nat) (a_z10:Ba) (c_z10:Nat) (a_z12:Ba) (c_z12:Nat) (a_z13:Ba) (c_z13:Nat) (r_z7:Bg) (r_z8:Bg) (r_z12:Bg) (r_z13:Bg),u=.tuple #[]∧(rI ((WJ t).town.clerk.queue.most))∧(RS Q6 G' a_z1 c_z1 ((WJ t).town.clerk.queue.wait))∧(rI ((WJ t).town.clerk.batch))∧(rI ((WJ t).town.clerk.every))∧(rI ((WJ t).town.clerk.now))∧(RS KO G' a_z5 c_z5 ((WJ t).town.clerk.heads))∧(RS QA G' a_z6 c_z6 ((WJ t).town.clerk.books))∧(JR Q9 G' a_z7 c_z7 ((WJ t).town.owners) r_z7)∧(JR WK G' a_z8 c_z8 ((WJ t).town.polls) r_z8)∧(rI ((WJ t).town.net.now))∧(RS Kn G' a_z10 c_z10 ((WJ t).town.net.way))∧(rI ((WJ t).reach))∧(JR VG G' a_z12 c_z12 ((WJ t).fates) r_z12)∧(JR Wn G' a_z13 c_z13 ((WJ t).events) r_z13)∧L'=[[Sg b 0 [I ((WJ t).town.clerk.queue.most),Sl a_z1 (((WJ t).town.clerk.queue.wait).length) c_z1,I ((WJ t).town.clerk.batch),I ((WJ t).town.clerk.every),I ((WJ t).town.clerk.now),Sl a_z5 (((WJ t).town.clerk.heads).length) c_z5,Sl a_z6 (((WJ t).town.clerk.books).length) c_z6,Sl a_z7 (((WJ t).town.owners).length) c_z7,Sl a_z8 (((WJ t).town.polls).length) c_z8,I ((WJ t).town.net.now),Sl a_z10 (((WJ t).town.net.way).length) c_z10,I ((WJ t).reach),Sl a_z12 (((WJ t).fates).length) c_z12,Sl a_z13 (((WJ t).events).length) c_z13]],r_z7,r_z8,r_z12,r_z13]):=by
 intro Lr
 refine JP Tryz.func64 79 [(0,Pt b 0)] rfl (fun w0 G0=>?_)
 show TC _ _ _ _ _ ([Sg b 0 (Ke t a_1 c_1 a_5 c_5 a_6 c_6 a_7 c_7 a_8 c_8 a_10 c_10 a_12 c_12 a_13 c_13)]::r_7::r_8::r_12::r_13::Lr)
 refine Jf (Jd (Jb [0,0,0,0,2] [(16,(QG t.town.clerk a_1 c_1 a_5 c_5 a_6 c_6))] (JN 17 (JgY G (KW t.town.clerk a_1 c_1 a_5 c_5 a_6 c_6) t.town.clerk (⟨a_1,c_1,a_5,c_5,a_6,c_6,rfl,h_0,h_1,h_2,h_3,h_4,h_5,h_6⟩)) (fun v G1 L1 hl1 hp=>?_))))
 obtain ⟨a1,c1,a2,c2,a3,c3,rfl,w1,hs1,w2,w3,w4,hs2,hs3,rfl⟩:=hp
 refine Jb [0,0,0,0] [(18,(QG (ZI t).1 a1 c1 a2 c2 a3 c3)),(19,Bo ((ZI t).2.1)),(20,I ((ZI t).2.2))] (Jv 2 #[I 0,Sl none 0 0,I 0,I 0,I 0,Sl none 0 0,Sl none 0 0] 60 (fun b1=>JW [3,0,0] [] ([Sg b1 0 (KW (ZI t).1 a1 c1 a2 c2 a3 c3)]::[Sg b 0 (Ke t a_1 c_1 a_5 c_5 a_6 c_6 a_7 c_7 a_8 c_8 a_10 c_10 a_12 c_12 a_13 c_13)]::r_7::r_8::r_12::r_13::Lr) (Je (Jc (Jf (Jf (Kt [] (Wm [(0,Pt b1 4),(1,I (((ZI t).1).now)),(2,Pt b 0),(3,Pt b 0),(4,Pt b 0),(5,Pt b 0),(6,Pt b 4),(7,I t.town.clerk.now),(8,Bo (decide (((ZI t).1).now=t.town.clerk.now)))] (Kl [] [(0,0),(1,2),(2,0),(3,0),(4,0),(5,0),(6,0),(7,4),(8,0)] [] [(0,Pt b 0),(2,Pt b1 0),(29,Bo (decide (((ZI t).1).now=t.town.clerk.now)))] (Ha _) (Jc (Jl (decide (((ZI t).1).now=t.town.clerk.now)) (fun h1=>?_) (fun h1=>?_))))))))))))
 refine Jn (Jj (Jk 5 (Jk 5 (Jk 5 (Jk 5 (Jk 5 ?_))))))
 have hf1:WJ t=t:=by
  exact Jk0 ‹_›
 refine Jo [] [] (KB (Lr:=Lr) [[Sg b 0 (Ke t a_1 c_1 a_5 c_5 a_6 c_6 a_7 c_7 a_8 c_8 a_10 c_10 a_12 c_12 a_13 c_13)],r_7,r_8,r_12,r_13] hl1 ?_)
 rw [hf1];try dsimp only
 exact ⟨a_1,c_1,a_5,c_5,a_6,c_6,a_7,c_7,a_8,c_8,a_10,c_10,a_12,c_12,a_13,c_13,r_7,r_8,r_12,r_13,rfl,h_0,(h_1.mono hl1),h_2,h_3,h_4,(h_5.mono hl1),(h_6.mono hl1),(h_7.mono hl1),(h_8.mono hl1),h_9,(h_10.mono hl1),h_11,(h_12.mono hl1),(h_13.mono hl1),rfl⟩
 refine Jq (Jc (QF [0,2,0,0,0,5] [] ([Sg b1 0 (KW (ZI t).1 a1 c1 a2 c2 a3 c3)]::[Sg b 0 (Ke (⟨(⟨(ZI t).1,t.town.owners,t.town.polls,t.town.net⟩:Wl),t.reach,t.fates,t.events⟩:JI) a1 c1 a2 c2 a3 c3 a_7 c_7 a_8 c_8 a_10 c_10 a_12 c_12 a_13 c_13)]::r_7::r_8::r_12::r_13::Lr) (Jf (Jd (Jb [0,0,0,0,4] [(40,.agg #[I t.town.net.now,Sl a_10 t.town.net.way.length c_10])] (JN 41 (JjC G1 [I t.town.net.now,Sl a_10 t.town.net.way.length c_10] t.town.net (⟨a_10,c_10,rfl,h_9,(h_10.mono hl1)⟩)) (fun v G2 L1 hl2 hp=>?_)))))))
 obtain ⟨a4,c4,a5,c5,rfl,w5,hs4,hs5,rfl⟩:=hp
 refine Jb [0,0,0,0] [(42,.agg #[I (((Ku t.town.net).1).now),Sl a4 ((((Ku t.town.net).1).way).length) c4]),(43,Sl a5 (((Ku t.town.net).2.1).length) c5),(44,I ((Ku t.town.net).2.2))] (Jv 5 #[I 0,Sl none 0 0] 65 (fun b2=>JW [3,0,0] [(6,Sl a5 (((Ku t.town.net).2.1).length) c5)] ([Sg b2 0 [I (((Ku t.town.net).1).now),Sl a4 ((((Ku t.town.net).1).way).length) c4]]::[Sg b1 0 (KW (ZI t).1 a1 c1 a2 c2 a3 c3)]::[Sg b 0 (Ke (⟨(⟨(ZI t).1,t.town.owners,t.town.polls,t.town.net⟩:Wl),t.reach,t.fates,t.events⟩:JI) a1 c1 a2 c2 a3 c3 a_7 c_7 a_8 c_8 a_10 c_10 a_12 c_12 a_13 c_13)]::r_7::r_8::r_12::r_13::Lr) (Je (Jc (QF [0,2,0,0,0,7] [] ([Sg b2 0 [I (((Ku t.town.net).1).now),Sl a4 ((((Ku t.town.net).1).way).length) c4]]::[Sg b1 0 (KW (ZI t).1 a1 c1 a2 c2 a3 c3)]::[Sg b 0 (Ke (⟨(⟨(ZI t).1,t.town.owners,t.town.polls,(Ku t.town.net).1⟩:Wl),t.reach,t.fates,t.events⟩:JI) a1 c1 a2 c2 a3 c3 a_7 c_7 a_8 c_8 a4 c4 a_12 c_12 a_13 c_13)]::r_7::r_8::r_12::r_13::Lr) (Jf (Jg [0,0,0] [(50,Sl a5 (((Ku t.town.net).2.1).length) c5),(51,I (((Ku t.town.net).2.1).length:Int)),(52,I 0)] (Jy ?_))))))))
 have hlm_hs5:((Ku t.town.net).2.1).length≤9223372036854775807:=Nat.le_trans (hs5).le (hs5).max
 refine Qc (σ:=Nat×JI×Ba×Nat×Ba×Nat×Ba×Nat×Ba×Nat×Bg×Ba×Nat×Bg×Ba×Nat×Ba×Nat×Bg×Ba×Nat×Bg×J5) (fun q_=>(J5.le G2 q_.2.2.2.2.2.2.2.2.2.2.2.2.2.2.2.2.2.2.2.2.2.2)∧(q_.1≤((Ku t.town.net).2.1).length)∧(RS Q6 q_.2.2.2.2.2.2.2.2.2.2.2.2.2.2.2.2.2.2.2.2.2.2 q_.2.2.1 q_.2.2.2.1 q_.2.1.town.clerk.queue.wait)∧(RS KO q_.2.2.2.2.2.2.2.2.2.2.2.2.2.2.2.2.2.2.2.2.2.2 q_.2.2.2.2.1 q_.2.2.2.2.2.1 q_.2.1.town.clerk.heads)∧(RS QA q_.2.2.2.2.2.2.2.2.2.2.2.2.2.2.2.2.2.2.2.2.2.2 q_.2.2.2.2.2.2.1 q_.2.2.2.2.2.2.2.1 q_.2.1.town.clerk.books)∧(JR Q9 q_.2.2.2.2.2.2.2.2.2.2.2.2.2.2.2.2.2.2.2.2.2.2 q_.2.2.2.2.2.2.2.2.1 q_.2.2.2.2.2.2.2.2.2.1 q_.2.1.town.owners q_.2.2.2.2.2.2.2.2.2.2.1)∧(JR WK q_.2.2.2.2.2.2.2.2.2.2.2.2.2.2.2.2.2.2.2.2.2.2 q_.2.2.2.2.2.2.2.2.2.2.2.1 q_.2.2.2.2.2.2.2.2.2.2.2.2.1 q_.2.1.town.polls q_.2.2.2.2.2.2.2.2.2.2.2.2.2.1)∧(RS Kn q_.2.2.2.2.2.2.2.2.2.2.2.2.2.2.2.2.2.2.2.2.2.2 q_.2.2.2.2.2.2.2.2.2.2.2.2.2.2.1 q_.2.2.2.2.2.2.2.2.2.2.2.2.2.2.2.1 q_.2.1.town.net.way)∧(JR VG q_.2.2.2.2.2.2.2.2.2.2.2.2.2.2.2.2.2.2.2.2.2.2 q_.2.2.2.2.2.2.2.2.2.2.2.2.2.2.2.2.1 q_.2.2.2.2.2.2.2.2.2.2.2.2.2.2.2.2.2.1 q_.2.1.fates q_.2.2.2.2.2.2.2.2.2.2.2.2.2.2.2.2.2.2.1)∧(JR Wn q_.2.2.2.2.2.2.2.2.2.2.2.2.2.2.2.2.2.2.2.2.2.2 q_.2.2.2.2.2.2.2.2.2.2.2.2.2.2.2.2.2.2.2.1 q_.2.2.2.2.2.2.2.2.2.2.2.2.2.2.2.2.2.2.2.2.1 q_.2.1.events q_.2.2.2.2.2.2.2.2.2.2.2.2.2.2.2.2.2.2.2.2.2.1)∧(rI q_.2.1.town.clerk.queue.most)∧(rI q_.2.1.town.clerk.batch)∧(rI q_.2.1.town.clerk.every)∧(rI q_.2.1.town.clerk.now)∧(rI q_.2.1.town.net.now)∧(rI q_.2.1.reach)∧(q_.2.1=Zh (Vt t) ((Ku t.town.net).2.1.take q_.1))) (fun q_=>[(0,Pt b 0),(50,Sl a5 (((Ku t.town.net).2.1).length) c5),(51,I (((Ku t.town.net).2.1).length:Int)),(52,I (q_.1:Int))]) (fun q_=>q_.2.2.2.2.2.2.2.2.2.2.2.2.2.2.2.2.2.2.2.2.2.2) (fun q_=>([Sg b2 0 [I (((Ku t.town.net).1).now),Sl a4 ((((Ku t.town.net).1).way).length) c4]]::[Sg b1 0 (KW (ZI t).1 a1 c1 a2 c2 a3 c3)]::[Sg b 0 (Ke q_.2.1 q_.2.2.1 q_.2.2.2.1 q_.2.2.2.2.1 q_.2.2.2.2.2.1 q_.2.2.2.2.2.2.1 q_.2.2.2.2.2.2.2.1 q_.2.2.2.2.2.2.2.2.1 q_.2.2.2.2.2.2.2.2.2.1 q_.2.2.2.2.2.2.2.2.2.2.2.1 q_.2.2.2.2.2.2.2.2.2.2.2.2.1 q_.2.2.2.2.2.2.2.2.2.2.2.2.2.2.1 q_.2.2.2.2.2.2.2.2.2.2.2.2.2.2.2.1 q_.2.2.2.2.2.2.2.2.2.2.2.2.2.2.2.2.1 q_.2.2.2.2.2.2.2.2.2.2.2.2.2.2.2.2.2.1 q_.2.2.2.2.2.2.2.2.2.2.2.2.2.2.2.2.2.2.2.1 q_.2.2.2.2.2.2.2.2.2.2.2.2.2.2.2.2.2.2.2.2.1)]::q_.2.2.2.2.2.2.2.2.2.2.1::q_.2.2.2.2.2.2.2.2.2.2.2.2.2.1::q_.2.2.2.2.2.2.2.2.2.2.2.2.2.2.2.2.2.2.1::q_.2.2.2.2.2.2.2.2.2.2.2.2.2.2.2.2.2.2.2.2.2.1::Lr)) (fun q_=>((Ku t.town.net).2.1).length-q_.1) (0,(⟨(⟨((ZI t).1),t.town.owners,t.town.polls,((Ku t.town.net).1)⟩:Wl),t.reach,t.fates,t.events⟩:JI),a1,c1,a2,c2,a3,c3,a_7,c_7,r_7,a_8,c_8,r_8,a4,c4,a_12,c_12,r_12,a_13,c_13,r_13,G2) ⟨(Jh _),(by (try dsimp only);omega),(hs1.mono hl2),(hs2.mono hl2),(hs3.mono hl2),(h_7.mono (Ja hl1 hl2)),(h_8.mono (Ja hl1 hl2)),hs4,(h_12.mono (Ja hl1 hl2)),(h_13.mono (Ja hl1 hl2)),w1,w2,w3,w4,w5,h_11,(by (try dsimp only);rfl)⟩ (fun q_ hs=>?_)
 obtain ⟨i,jt,ajt0,cjt0,ajt1,cjt1,ajt2,cjt2,ajt3,cjt3,rjt7,ajt4,cjt4,rjt8,ajt5,cjt5,ajt6,cjt6,rjt12,ajt7,cjt7,rjt13,g⟩:=q_
 obtain ⟨hle,hi,hjt1,hjt5,hjt6,hjt7,hjt8,hjt10,hjt12,hjt13,hjt0,hjt2,hjt3,hjt4,hjt9,hjt11,hJ⟩:=hs
 dsimp only at hle hi hjt1 hjt5 hjt6 hjt7 hjt8 hjt10 hjt12 hjt13 hjt0 hjt2 hjt3 hjt4 hjt9 hjt11 hJ
 dsimp only
 refine Jg [0] [(53,Bo (decide ((i:Int)<(((Ku t.town.net).2.1).length:Int))))] (Jf (Jl (decide ((i:Int)<(((Ku t.town.net).2.1).length:Int))) (fun h2=>?_) (fun h2=>?_)))
 refine Jq (Jc (Jf (Jy (Jf (Jd ?_)))))
 obtain ⟨b3,o1,rfl⟩:=RS.addr (hs5.mono hle) (k:=i) (by omega)
 obtain ⟨x1,hx1⟩:=QS (l:=(Ku t.town.net).2.1) (k:=i) (by omega)
 obtain ⟨_,⟨a6,c6,a7,c7,a8,c8,rfl,w6,w7,w8,w9,hs6,w10,w11,w12,w13,w14,hs7,hs8⟩,hc1⟩:=RS.get (hs5.mono hle) hx1
 refine JV (b:=b3) (off:=o1) (len:=((Ku t.town.net).2.1).length) (cap:=c5) (ik:=.i64) 54 51 12 i J4 (JO 55 51 (cs:=(Ky x1 a6 c6 a7 c7 a8 c8)) 0 (Q1 x1 a6 c6 a7 c7 a8 c8) hc1 (Jv 9 #[I 0,I 0,I 0,I 0,Sl none 0 0,I 0,U 0,U 0,I 0,Sr ([]),Sl none 0 0,Sl none 0 0] 51 (fun b4=>JW [3] [] ([Sg b4 0 (Ky x1 a6 c6 a7 c7 a8 c8)]::[Sg b2 0 [I (((Ku t.town.net).1).now),Sl a4 ((((Ku t.town.net).1).way).length) c4]]::[Sg b1 0 (KW (ZI t).1 a1 c1 a2 c2 a3 c3)]::[Sg b 0 (Ke jt ajt0 cjt0 ajt1 cjt1 ajt2 cjt2 ajt3 cjt3 ajt4 cjt4 ajt5 cjt5 ajt6 cjt6 ajt7 cjt7)]::rjt7::rjt8::rjt12::rjt13::Lr) (Je (Jc (Jg [0,2,0] [(58,Bo (decide (x1.to_<0)))] (Jl (decide (x1.to_<0)) (fun h3=>?_) (fun h3=>?_))))))))
 refine Jd (Jb [0,2] [(59,Pt b 0),(60,(Q1 x1 a6 c6 a7 c7 a8 c8))] (Jw 7 (Jw 7 (Jw 7 (Jw 7 (Jw 7 (Qi (Ls:=[[Sg b 0 (Ke jt ajt0 cjt0 ajt1 cjt1 ajt2 cjt2 ajt3 cjt3 ajt4 cjt4 ajt5 cjt5 ajt6 cjt6 ajt7 cjt7)],rjt7,rjt8,rjt12,rjt13]) (Lr:=([Sg b4 0 (Ky x1 a6 c6 a7 c7 a8 c8)]::[Sg b2 0 [I (((Ku t.town.net).1).now),Sl a4 ((((Ku t.town.net).1).way).length) c4]]::[Sg b1 0 (KW (ZI t).1 a1 c1 a2 c2 a3 c3)]::Lr)) 61 (JjH g b jt ajt0 cjt0 ajt1 cjt1 ajt2 cjt2 ajt3 cjt3 ajt4 cjt4 ajt5 cjt5 ajt6 cjt6 ajt7 cjt7 rjt7 rjt8 rjt12 rjt13 hjt0 hjt1 hjt2 hjt3 hjt4 hjt5 hjt6 hjt7 hjt8 hjt9 hjt10 hjt11 hjt12 hjt13 (Ky x1 a6 c6 a7 c7 a8 c8) x1 (⟨a6,c6,a7,c7,a8,c8,rfl,w6,w7,w8,w9,hs6,w10,w11,w12,w13,w14,hs7,hs8⟩) (by exact (Zt hH ‹_› hJ).1.reach)) (fun v G3 L1 hl3 hp=>?_))))))))
 obtain ⟨a9,c9,a10,c10,a11,c11,a12,c12,a13,c13,a14,c14,a15,c15,a16,c16,r1,r2,r3,r4,rfl,_,hs9,_,_,_,hs10,hs11,hr1,hr2,_,hs12,_,hr3,hr4,rfl⟩:=hp
 refine Je (JM (Jc (Jd (Jb [0,0] [(52,I (Hb.wrap ((i:Int)+1)))] (Kp 52 ((i:Int)+1) J4 (Je (Jk 4 (Jk 4 (Jk 4 (Jk 4 (Jk 4 (Jk 7 (Jk 7 ?_)))))))))))))
 exact Qy ([Sg b2 0 [I (((Ku t.town.net).1).now),Sl a4 ((((Ku t.town.net).1).way).length) c4]]::[Sg b1 0 (KW (ZI t).1 a1 c1 a2 c2 a3 c3)]::[Sg b 0 (Ke (Qn jt x1) a9 c9 a10 c10 a11 c11 a12 c12 a13 c13 a14 c14 a15 c15 a16 c16)]::r1::r2::r3::r4::Lr) (Qh (i+1,(Qn jt x1),a9,c9,a10,c10,a11,c11,a12,c12,r1,a13,c13,r2,a14,c14,a15,c15,r3,a16,c16,r4,G3) ⟨(Ja hle hl3),J4,hs9,hs10,hs11,hr1,hr2,hs12,hr3,hr4,‹_›,‹_›,‹_›,‹_›,‹_›,‹_›,(by (try dsimp only);rw [← JcR hx1,← hJ];unfold Yg;rw [if_pos (by omega)])⟩ (by (try dsimp only);omega))
 refine Jd (Jb [0,2] [(62,Pt b 0),(63,(Q1 x1 a6 c6 a7 c7 a8 c8))] (Jw 7 (Jw 7 (Jw 7 (Jw 7 (Jw 7 (Qi (Ls:=[[Sg b 0 (Ke jt ajt0 cjt0 ajt1 cjt1 ajt2 cjt2 ajt3 cjt3 ajt4 cjt4 ajt5 cjt5 ajt6 cjt6 ajt7 cjt7)],rjt7,rjt8,rjt12,rjt13]) (Lr:=([Sg b4 0 (Ky x1 a6 c6 a7 c7 a8 c8)]::[Sg b2 0 [I (((Ku t.town.net).1).now),Sl a4 ((((Ku t.town.net).1).way).length) c4]]::[Sg b1 0 (KW (ZI t).1 a1 c1 a2 c2 a3 c3)]::Lr)) 64 (Jo1 g b jt ajt0 cjt0 ajt1 cjt1 ajt2 cjt2 ajt3 cjt3 ajt4 cjt4 ajt5 cjt5 ajt6 cjt6 ajt7 cjt7 rjt7 rjt8 rjt12 rjt13 hjt0 hjt1 hjt2 hjt3 hjt4 hjt5 hjt6 hjt7 hjt8 hjt9 hjt10 hjt11 hjt12 hjt13 (Ky x1 a6 c6 a7 c7 a8 c8) x1 (⟨a6,c6,a7,c7,a8,c8,rfl,w6,w7,w8,w9,hs6,w10,w11,w12,w13,w14,hs7,hs8⟩) (by (have q_:=(Zt hH ‹_› hJ);have q2_:=Jgm hH ‹_›;omega)) (by (have q_:=(Zt hH ‹_› hJ);have q2_:=Jgm hH ‹_›;omega)) (by exact (Zt hH ‹_› hJ).1.polls)) (fun v G4 L1 hl4 hp=>?_))))))))
 obtain ⟨a17,c17,a18,c18,a19,c19,a20,c20,a21,c21,a22,c22,a23,c23,a24,c24,r5,r6,r7,r8,rfl,_,hs13,_,_,_,hs14,hs15,hr5,hr6,_,hs16,_,hr7,hr8,rfl⟩:=hp
 refine Je (JM (Jc (Jd (Jb [0,0] [(52,I (Hb.wrap ((i:Int)+1)))] (Kp 52 ((i:Int)+1) J4 (Je (Jk 4 (Jk 4 (Jk 4 (Jk 4 (Jk 4 (Jk 7 (Jk 7 ?_)))))))))))))
 exact Qy ([Sg b2 0 [I (((Ku t.town.net).1).now),Sl a4 ((((Ku t.town.net).1).way).length) c4]]::[Sg b1 0 (KW (ZI t).1 a1 c1 a2 c2 a3 c3)]::[Sg b 0 (Ke (Yd jt x1) a17 c17 a18 c18 a19 c19 a20 c20 a21 c21 a22 c22 a23 c23 a24 c24)]::r5::r6::r7::r8::Lr) (Qh (i+1,(Yd jt x1),a17,c17,a18,c18,a19,c19,a20,c20,r5,a21,c21,r6,a22,c22,a23,c23,r7,a24,c24,r8,G4) ⟨(Ja hle hl4),J4,hs13,hs14,hs15,hr5,hr6,hs16,hr7,hr8,‹_›,‹_›,‹_›,‹_›,‹_›,‹_›,(by (try dsimp only);rw [← JcR hx1,← hJ];unfold Yg;rw [if_neg (by omega)])⟩ (by (try dsimp only);omega))
 refine KX (J1 (Kd (JS (Jc (Jg [0,0,0,0,6,0,0] [(71,I (jt.town.owners.length:Int)),(72,I 0)] (Jy ?_))))))
 refine Qc (σ:=Nat×JI×Ba×Nat×Ba×Nat×Ba×Nat×Ba×Nat×Bg×Ba×Nat×Bg×Ba×Nat×Ba×Nat×Bg×Ba×Nat×Bg×J5) (fun q_=>(J5.le g q_.2.2.2.2.2.2.2.2.2.2.2.2.2.2.2.2.2.2.2.2.2.2)∧(q_.1≤jt.town.owners.length)∧(RS Q6 q_.2.2.2.2.2.2.2.2.2.2.2.2.2.2.2.2.2.2.2.2.2.2 q_.2.2.1 q_.2.2.2.1 q_.2.1.town.clerk.queue.wait)∧(RS KO q_.2.2.2.2.2.2.2.2.2.2.2.2.2.2.2.2.2.2.2.2.2.2 q_.2.2.2.2.1 q_.2.2.2.2.2.1 q_.2.1.town.clerk.heads)∧(RS QA q_.2.2.2.2.2.2.2.2.2.2.2.2.2.2.2.2.2.2.2.2.2.2 q_.2.2.2.2.2.2.1 q_.2.2.2.2.2.2.2.1 q_.2.1.town.clerk.books)∧(JR Q9 q_.2.2.2.2.2.2.2.2.2.2.2.2.2.2.2.2.2.2.2.2.2.2 q_.2.2.2.2.2.2.2.2.1 q_.2.2.2.2.2.2.2.2.2.1 q_.2.1.town.owners q_.2.2.2.2.2.2.2.2.2.2.1)∧(JR WK q_.2.2.2.2.2.2.2.2.2.2.2.2.2.2.2.2.2.2.2.2.2.2 q_.2.2.2.2.2.2.2.2.2.2.2.1 q_.2.2.2.2.2.2.2.2.2.2.2.2.1 q_.2.1.town.polls q_.2.2.2.2.2.2.2.2.2.2.2.2.2.1)∧(RS Kn q_.2.2.2.2.2.2.2.2.2.2.2.2.2.2.2.2.2.2.2.2.2.2 q_.2.2.2.2.2.2.2.2.2.2.2.2.2.2.1 q_.2.2.2.2.2.2.2.2.2.2.2.2.2.2.2.1 q_.2.1.town.net.way)∧(JR VG q_.2.2.2.2.2.2.2.2.2.2.2.2.2.2.2.2.2.2.2.2.2.2 q_.2.2.2.2.2.2.2.2.2.2.2.2.2.2.2.2.1 q_.2.2.2.2.2.2.2.2.2.2.2.2.2.2.2.2.2.1 q_.2.1.fates q_.2.2.2.2.2.2.2.2.2.2.2.2.2.2.2.2.2.2.1)∧(JR Wn q_.2.2.2.2.2.2.2.2.2.2.2.2.2.2.2.2.2.2.2.2.2.2 q_.2.2.2.2.2.2.2.2.2.2.2.2.2.2.2.2.2.2.2.1 q_.2.2.2.2.2.2.2.2.2.2.2.2.2.2.2.2.2.2.2.2.1 q_.2.1.events q_.2.2.2.2.2.2.2.2.2.2.2.2.2.2.2.2.2.2.2.2.2.1)∧(rI q_.2.1.town.clerk.queue.most)∧(rI q_.2.1.town.clerk.batch)∧(rI q_.2.1.town.clerk.every)∧(rI q_.2.1.town.clerk.now)∧(rI q_.2.1.town.net.now)∧(rI q_.2.1.reach)∧(q_.2.1=Jce jt q_.1)) (fun q_=>[(0,Pt b 0),(71,I (jt.town.owners.length:Int)),(72,I (q_.1:Int))]) (fun q_=>q_.2.2.2.2.2.2.2.2.2.2.2.2.2.2.2.2.2.2.2.2.2.2) (fun q_=>([Sg b2 0 [I (((Ku t.town.net).1).now),Sl a4 ((((Ku t.town.net).1).way).length) c4]]::[Sg b1 0 (KW (ZI t).1 a1 c1 a2 c2 a3 c3)]::[Sg b 0 (Ke q_.2.1 q_.2.2.1 q_.2.2.2.1 q_.2.2.2.2.1 q_.2.2.2.2.2.1 q_.2.2.2.2.2.2.1 q_.2.2.2.2.2.2.2.1 q_.2.2.2.2.2.2.2.2.1 q_.2.2.2.2.2.2.2.2.2.1 q_.2.2.2.2.2.2.2.2.2.2.2.1 q_.2.2.2.2.2.2.2.2.2.2.2.2.1 q_.2.2.2.2.2.2.2.2.2.2.2.2.2.2.1 q_.2.2.2.2.2.2.2.2.2.2.2.2.2.2.2.1 q_.2.2.2.2.2.2.2.2.2.2.2.2.2.2.2.2.1 q_.2.2.2.2.2.2.2.2.2.2.2.2.2.2.2.2.2.1 q_.2.2.2.2.2.2.2.2.2.2.2.2.2.2.2.2.2.2.2.1 q_.2.2.2.2.2.2.2.2.2.2.2.2.2.2.2.2.2.2.2.2.1)]::q_.2.2.2.2.2.2.2.2.2.2.1::q_.2.2.2.2.2.2.2.2.2.2.2.2.2.1::q_.2.2.2.2.2.2.2.2.2.2.2.2.2.2.2.2.2.2.1::q_.2.2.2.2.2.2.2.2.2.2.2.2.2.2.2.2.2.2.2.2.2.1::Lr)) (fun q_=>jt.town.owners.length-q_.1) (0,jt,ajt0,cjt0,ajt1,cjt1,ajt2,cjt2,ajt3,cjt3,rjt7,ajt4,cjt4,rjt8,ajt5,cjt5,ajt6,cjt6,rjt12,ajt7,cjt7,rjt13,g) ⟨(Jh _),(by (try dsimp only);omega),hjt1,hjt5,hjt6,hjt7,hjt8,hjt10,hjt12,hjt13,hjt0,hjt2,hjt3,hjt4,hjt9,hjt11,(by (try dsimp only);rfl)⟩ (fun q_ hs=>?_)
 obtain ⟨k,kt,akt0,ckt0,akt1,ckt1,akt2,ckt2,akt3,ckt3,rkt7,akt4,ckt4,rkt8,akt5,ckt5,akt6,ckt6,rkt12,akt7,ckt7,rkt13,g1_⟩:=q_
 obtain ⟨hle1_,hi,hkt1,hkt5,hkt6,hkt7,hkt8,hkt10,hkt12,hkt13,hkt0,hkt2,hkt3,hkt4,hkt9,hkt11,hK⟩:=hs
 dsimp only at hle1_ hi hkt1 hkt5 hkt6 hkt7 hkt8 hkt10 hkt12 hkt13 hkt0 hkt2 hkt3 hkt4 hkt9 hkt11 hK
 dsimp only
 refine Jg [0] [(73,Bo (decide ((k:Int)<(jt.town.owners.length:Int))))] (Jf (Jl (decide ((k:Int)<(jt.town.owners.length:Int))) (fun h4=>?_) (fun h4=>?_)))
 refine Jq (Jc (Jf (Jy (Jg [0,0] [(10,I (k:Int))] (Jd (Jb [0,0] [(75,Pt b 0),(76,I (k:Int))] (Jw 6 (Jw 6 (Jw 6 (Jw 6 (Jw 6 (Qi (Ls:=[[Sg b 0 (Ke kt akt0 ckt0 akt1 ckt1 akt2 ckt2 akt3 ckt3 akt4 ckt4 akt5 ckt5 akt6 ckt6 akt7 ckt7)],rkt7,rkt8,rkt12,rkt13]) (Lr:=([Sg b2 0 [I (((Ku t.town.net).1).now),Sl a4 ((((Ku t.town.net).1).way).length) c4]]::[Sg b1 0 (KW (ZI t).1 a1 c1 a2 c2 a3 c3)]::Lr)) 77 (Jo2 g1_ b kt akt0 ckt0 akt1 ckt1 akt2 ckt2 akt3 ckt3 akt4 ckt4 akt5 ckt5 akt6 ckt6 akt7 ckt7 rkt7 rkt8 rkt12 rkt13 hkt0 hkt1 hkt2 hkt3 hkt4 hkt5 hkt6 hkt7 hkt8 hkt9 hkt10 hkt11 hkt12 hkt13 (k:Int) (by (have q_:=(Zt hH ‹_› hJ);have q2_:=(Jey (Zt hH ‹_› hJ).1 hK);have q3_:=hH.len;omega)) (by (have q_:=(Zt hH ‹_› hJ);have q2_:=(Jey (Zt hH ‹_› hJ).1 hK);have q3_:=hH.len;omega)) (by (have q_:=(Zt hH ‹_› hJ);have q2_:=(Jey (Zt hH ‹_› hJ).1 hK);have q3_:=hH.len;omega)) (by exact (Jey (Zt hH ‹_› hJ).1 hK).1.polls) (by exact (Jey (Zt hH ‹_› hJ).1 hK).1.epoch)) (fun v G5 L1 hl5 hp=>?_)))))))))))))
 obtain ⟨a25,c25,a26,c26,a27,c27,a28,c28,a29,c29,a30,c30,a31,c31,a32,c32,r9,r10,r11,r12,rfl,_,hs17,_,_,_,hs18,hs19,hr9,hr10,_,hs20,_,hr11,hr12,rfl⟩:=hp
 refine Je (JM (Jc (Jd (Jb [0,0] [(72,I (Hb.wrap ((k:Int)+1)))] (Kp 72 ((k:Int)+1) (by (have q_:=(Zt hH ‹_› hJ);have q2_:=(Jey (Zt hH ‹_› hJ).1 hK);have q3_:=hH.len;omega)) (Je (Jk 4 (Jk 4 (Jk 4 (Jk 4 (Jk 4 (Jk 6 (Jk 6 ?_)))))))))))))
 exact Qy ([Sg b2 0 [I (((Ku t.town.net).1).now),Sl a4 ((((Ku t.town.net).1).way).length) c4]]::[Sg b1 0 (KW (ZI t).1 a1 c1 a2 c2 a3 c3)]::[Sg b 0 (Ke (Zx kt (k:Int)) a25 c25 a26 c26 a27 c27 a28 c28 a29 c29 a30 c30 a31 c31 a32 c32)]::r9::r10::r11::r12::Lr) (Qh (k+1,(Zx kt (k:Int)),a25,c25,a26,c26,a27,c27,a28,c28,r9,a29,c29,r10,a30,c30,a31,c31,r11,a32,c32,r12,G5) ⟨(Ja hle1_ hl5),J4,hs17,hs18,hs19,hr9,hr10,hs20,hr11,hr12,‹_›,‹_›,‹_›,‹_›,‹_›,‹_›,(by (try dsimp only);rw [← JaS,← hK])⟩ (by (try dsimp only);omega))
 refine KX (J1 (Kd (JS (Jk 6 (Jk 6 (Jk 6 (Jk 6 (Jk 6 ?_))))))))
 have hf2:WJ t=kt:=by
  exact Jo3 ‹_› hJ J4 hK (by omega)
 refine ZW [] [] (KB (Lr:=Lr) [[Sg b 0 (Ke kt akt0 ckt0 akt1 ckt1 akt2 ckt2 akt3 ckt3 akt4 ckt4 akt5 ckt5 akt6 ckt6 akt7 ckt7)],rkt7,rkt8,rkt12,rkt13] (Ja (Ja (Ja hl1 hl2) hle) hle1_) ?_)
 rw [hf2];try dsimp only
 exact ⟨akt0,ckt0,akt1,ckt1,akt2,ckt2,akt3,ckt3,akt4,ckt4,akt5,ckt5,akt6,ckt6,akt7,ckt7,rkt7,rkt8,rkt12,rkt13,rfl,hkt0,hkt1,hkt2,hkt3,hkt4,hkt5,hkt6,hkt7,hkt8,hkt9,hkt10,hkt11,hkt12,hkt13,rfl⟩
theorem tDo1 {t:JI} {d:K6} (h:d.kind=1):Va t d=Wk t d:=by unfold Va;rw [if_pos h]
theorem tDo2 {t:JI} {d:K6} (h:d.kind=2):Va t d=⟨t.town,t.reach,t.fates++[d.fates],t.events⟩:=by unfold Va;rw [if_neg (by omega),if_pos h]
theorem tDo30 {t:JI} {d:K6} (h:d.kind=3) (ho:Zi t d.who=false):Va t d=t:=by unfold Va;rw [if_neg (by omega),if_neg (by omega),if_pos h];unfold Jgj;rw [if_pos ho]
theorem tDo31 {t:JI} {d:K6} (h:d.kind=3) (ho:Zi t d.who=true) (hs:(Kz t.town.net (JjD d.letter d.who) [1]).2=0):Va t d=⟨⟨t.town.clerk,t.town.owners,t.town.polls,(Kz t.town.net (JjD d.letter d.who) [1]).1⟩,t.reach,t.fates,t.events⟩:=by
 unfold Va;rw [if_neg (by omega),if_neg (by omega),if_pos h];unfold Jgj;rw [if_neg (by rw [ho];simp),if_pos hs]
theorem tDo32 {t:JI} {d:K6} (h:d.kind=3) (ho:Zi t d.who=true) (hs:¬ (Kz t.town.net (JjD d.letter d.who) [1]).2=0):Va t d=t:=by
 unfold Va;rw [if_neg (by omega),if_neg (by omega),if_pos h];unfold Jgj;rw [if_neg (by rw [ho];simp),if_neg hs]
theorem tDo4 {t:JI} {d:K6} (h:d.kind=4):Va t d=WJ t:=by unfold Va;rw [if_neg (by omega),if_neg (by omega),if_neg (by omega),if_pos h]
theorem tDo5 {t:JI} {d:K6} (h1:¬ d.kind=1) (h2:¬ d.kind=2) (h3:¬ d.kind=3) (h4:¬ d.kind=4):Va t d=t:=by unfold Va;rw [if_neg h1,if_neg h2,if_neg h3,if_neg h4]
set_option maxRecDepth 20000 in
abbrev Y4 (d:K6):=(⟨d.who,d.letter.from_,d.letter.since,d.letter.due,d.letter.heads,d.letter.reply⟩:JU)
abbrev Qq (d:K6) (t:JI):=Kz t.town.net (Y4 d) ([1])
theorem Jp4 (G:J5) (b:Nat) (t:JI) (a_1:Ba) (c_1:Nat) (a_5:Ba) (c_5:Nat) (a_6:Ba) (c_6:Nat) (a_7:Ba) (c_7:Nat) (a_8:Ba) (c_8:Nat) (a_10:Ba) (c_10:Nat) (a_12:Ba) (c_12:Nat) (a_13:Ba) (c_13:Nat) (r_7:Bg) (r_8:Bg) (r_12:Bg) (r_13:Bg) (h_0:rI t.town.clerk.queue.most) (h_1:RS Q6 G a_1 c_1 t.town.clerk.queue.wait) (h_2:rI t.town.clerk.batch) (h_3:rI t.town.clerk.every) (h_4:rI t.town.clerk.now) (h_5:RS KO G a_5 c_5 t.town.clerk.heads) (h_6:RS QA G a_6 c_6 t.town.clerk.books) (h_7:JR Q9 G a_7 c_7 t.town.owners r_7) (h_8:JR WK G a_8 c_8 t.town.polls r_8) (h_9:rI t.town.net.now) (h_10:RS Kn G a_10 c_10 t.town.net.way) (h_11:rI t.reach) (h_12:JR VG G a_12 c_12 t.fates r_12) (h_13:JR Wn G a_13 c_13 t.events r_13) (vs_d:Bv) (d:K6) (h_d:Wh.R G vs_d d) (hH:VV t) (hev:t.events.length≤900000) (hfl:t.fates.length≤1000000):JcH 35 #[Pt b 0,.agg vs_d.toArray] G [[Sg b 0 [I t.town.clerk.queue.most,Sl a_1 t.town.clerk.queue.wait.length c_1,I t.town.clerk.batch,I t.town.clerk.every,I t.town.clerk.now,Sl a_5 t.town.clerk.heads.length c_5,Sl a_6 t.town.clerk.books.length c_6,Sl a_7 t.town.owners.length c_7,Sl a_8 t.town.polls.length c_8,I t.town.net.now,Sl a_10 t.town.net.way.length c_10,I t.reach,Sl a_12 t.fates.length c_12,Sl a_13 t.events.length c_13]],r_7,r_8,r_12,r_13] (fun u G' L'=>∃ (a_z1:Ba) (c_z1:Nat) (a_z5:Ba) (c_z5:Nat) (a_z6:Ba) (c_z6:Nat) (a_z7:Ba) (c_z7:Nat) (a_z8:Ba) (c_z8:Nat) (a_z10:Ba) (c_z10:Nat) (a_z12:Ba) (c_z12:Nat) (a_z13:Ba) (c_z13:Nat) (r_z7:Bg) (r_z8:Bg) (r_z12:Bg) (r_z13:Bg),u=.tuple #[]∧(rI ((Va t d).town.clerk.queue.most))∧(RS Q6 G' a_z1 c_z1 ((Va t d).town.clerk.queue.wait))∧(rI ((Va t d).town.clerk.batch))∧(rI ((Va t d).town.clerk.every))∧(rI ((Va t d).town.clerk.now))∧(RS KO G' a_z5 c_z5 ((Va t d).town.clerk.heads))∧(RS QA G' a_z6 c_z6 ((Va t d).town.clerk.books))∧(JR Q9 G' a_z7 c_z7 ((Va t d).town.owners) r_z7)∧(JR WK G' a_z8 c_z8 ((Va t d).town.polls) r_z8)∧(rI ((Va t d).town.net.now))∧(RS Kn G' a_z10 c_z10 ((Va t d).town.net.way))∧(rI ((Va t d).reach))∧(JR VG G' a_z12 c_z12 ((Va t d).fates) r_z12)∧(JR Wn G' a_z13 c_z13 ((Va t d).events) r_z13)∧L'=[[Sg b 0 [I ((Va t d).town.clerk.queue.most),Sl a_z1 (((Va t d).town.clerk.queue.wait).length) c_z1,I ((Va t d).town.clerk.batch),I ((Va t d).town.clerk.every),I ((Va t d).town.clerk.now),Sl a_z5 (((Va t d).town.clerk.heads).length) c_z5,Sl a_z6 (((Va t d).town.clerk.books).length) c_z6,Sl a_z7 (((Va t d).town.owners).length) c_z7,Sl a_z8 (((Va t d).town.polls).length) c_z8,I ((Va t d).town.net.now),Sl a_z10 (((Va t d).town.net.way).length) c_z10,I ((Va t d).reach),Sl a_z12 (((Va t d).fates).length) c_z12,Sl a_z13 (((Va t d).events).length) c_z13]],r_z7,r_z8,r_z12,r_z13]):=by
 obtain ⟨a1,c1,a2,c2,a3,c3,a4,c4,rfl,w1,w2,w3,hs1,w4,w5,w6,w7,hs2,w8,w9,w10,w11,w12,hs3,hs4⟩:=h_d
 intro Lr
 refine JP Tryz.func35 61 [(0,Pt b 0),(1,(JfQ d a1 c1 a2 c2 a3 c3 a4 c4))] rfl (fun w0 G0=>?_)
 show TC _ _ _ _ _ ([Sg b 0 (Ke t a_1 c_1 a_5 c_5 a_6 c_6 a_7 c_7 a_8 c_8 a_10 c_10 a_12 c_12 a_13 c_13)]::r_7::r_8::r_12::r_13::Lr)
 refine Jf (Jd (Jv 3 #[I d.kind,I d.who,Sr d.value,Sl a1 d.fates.length c1,I d.letter.to_,I d.letter.from_,I d.letter.since,I d.letter.due,Sl a2 d.letter.heads.length c2,I d.letter.reply.head.epoch,U d.letter.reply.head.root,U d.letter.reply.head.prev,I d.letter.reply.head.at_,Sr d.letter.reply.proof.name,Sl a3 d.letter.reply.proof.entries.length c3,Sl a4 d.letter.reply.proof.sides.length c4] 53 (fun b1=>Je (Jc (Jg [0,2] [(8,I d.kind)] (Jy (Jg [0,0] [(9,Bo (decide (d.kind=1)))] (Jl (decide (d.kind=1)) (fun h1=>?_) (fun h1=>?_)))))))))
 refine Jd (Jb [0,2] [(11,Pt b 0),(12,(JfQ d a1 c1 a2 c2 a3 c3 a4 c4))] (Jw 5 (Jw 5 (Jw 5 (Jw 5 (Jw 5 (Qi (Ls:=[[Sg b 0 (Ke t a_1 c_1 a_5 c_5 a_6 c_6 a_7 c_7 a_8 c_8 a_10 c_10 a_12 c_12 a_13 c_13)],r_7,r_8,r_12,r_13]) (Lr:=([Sg b1 0 (W7 d a1 c1 a2 c2 a3 c3 a4 c4)]::Lr)) 13 (Jm5 G b t a_1 c_1 a_5 c_5 a_6 c_6 a_7 c_7 a_8 c_8 a_10 c_10 a_12 c_12 a_13 c_13 r_7 r_8 r_12 r_13 h_0 h_1 h_2 h_3 h_4 h_5 h_6 h_7 h_8 h_9 h_10 h_11 h_12 h_13 (W7 d a1 c1 a2 c2 a3 c3 a4 c4) d (⟨a1,c1,a2,c2,a3,c3,a4,c4,rfl,w1,w2,w3,hs1,w4,w5,w6,w7,hs2,w8,w9,w10,w11,w12,hs3,hs4⟩) J4) (fun v G1 L1 hl1 hp=>?_))))))))
 obtain ⟨a5,c5,a6,c6,a7,c7,a8,c8,a9,c9,a10,c10,a11,c11,a12,c12,r1,r2,r3,r4,rfl,w13,hs5,w14,w15,w16,hs6,hs7,hr1,hr2,w17,hs8,w18,hr3,hr4,rfl⟩:=hp
 refine Je (JM (Jk 4 (Jk 4 (Jk 4 (Jk 4 (Jk 4 ?_))))))
 have hf1:Va t d=(Wk t d):=by
  exact tDo1 ‹_›
 refine ZW [] [] (KB (Lr:=Lr) [[Sg b 0 (Ke (Wk t d) a5 c5 a6 c6 a7 c7 a8 c8 a9 c9 a10 c10 a11 c11 a12 c12)],r1,r2,r3,r4] hl1 ?_)
 rw [hf1];try dsimp only
 exact ⟨a5,c5,a6,c6,a7,c7,a8,c8,a9,c9,a10,c10,a11,c11,a12,c12,r1,r2,r3,r4,rfl,w13,hs5,w14,w15,w16,hs6,hs7,hr1,hr2,w17,hs8,w18,hr3,hr4,rfl⟩
 refine Jg [0,0] [(14,Bo (decide (d.kind=2)))] (Jl (decide (d.kind=2)) (fun h2=>?_) (fun h2=>?_))
 refine Kt [7,8,9,12] (Wm [(0,Pt b 0),(1,Pt b 0),(2,Pt b 0),(3,Pt b 12),(4,Sl a_12 t.fates.length c_12),(5,Pt b1 3),(6,Sl a1 d.fates.length c1)] (JF [] [(0,0),(1,0),(2,0),(3,0),(4,4),(5,0),(6,2)] [] [7] (Ha _) (Kf ?_ KY)))
 refine Jz 7 [(22,Sl a1 d.fates.length c1)] (fun X=>?_)
 refine JN 23 (Jmx G a1 c1 d.fates hs1) (fun v G2 L1 hl2 hp=>?_)
 obtain ⟨a13,c13,_,rfl,hr5,rfl⟩:=hp
 refine JA [(7,Sl a13 d.fates.length c13)] (JF [5,6] [(0,0),(1,0),(2,0),(3,0),(4,6)] [] [8] (Ha _) (Kf ?_ KY))
 refine Jz 8 [(23,Sl a13 d.fates.length c13)] (fun X=>?_)
 refine Km 24 1 #[Sl a13 d.fates.length c13] 39 (fun b2=>JA [(8,Sl (At b2 0) 1 1)] (JF [5,6] [(0,0),(1,0),(2,0),(3,0),(4,8)] [] [9] (Ha _) (Kf ?_ KY)))
 refine Jz 9 [(20,Sl a_12 t.fates.length c_12),(24,Sl (At b2 0) 1 1)] (fun X=>?_)
 refine Wg (E:=EI) 1 hr5 (by exact (hs1).fit) (fun G3 hl3 hs9=>Qd (b:=b2) (cs:=[Sl a13 d.fates.length c13]) 25 39 6 0 (E:=VG) d.fates (h_12.mono (Ja hl2 hl3)) ⟨a13,c13,rfl,hs9⟩ (by (try simp only [VG,List.length_append,List.length_cons,List.length_nil]);omega) (by (try simp only [VG,List.length_append,List.length_cons,List.length_nil]);omega) (fun a14 c14 r6 hr6=>JA [(9,Sl a14 ((t.fates++[d.fates]).length) c14),(10,Pt b 0),(11,Pt b 12)] (JF [1,2,3,4,5,6] [(0,0),(10,0),(11,0)] [] [12] (Ha _) (Kf ?_ KY))))
 refine Jz 12 [(25,Sl a14 ((t.fates++[d.fates]).length) c14),(27,Pt b 12)] (fun X=>?_)
 refine KC 3 ([Sg b2 0 [Sl a13 d.fates.length c13]]::[]::[Sg b1 0 (W7 d a1 c1 a2 c2 a3 c3 a4 c4)]::[Sg b 0 (Ke (⟨t.town,t.reach,(t.fates++[d.fates]),t.events⟩:JI) a_1 c_1 a_5 c_5 a_6 c_6 a_7 c_7 a_8 c_8 a_10 c_10 a14 c14 a_13 c_13)]::r_7::r_8::r6::r_13::Lr) (J6 [] (Kl [0,1,2,3,4,5,6,10,11] [] [] [] (Ha _) (JM (Jk 7 (Jk 7 (Jk 7 (Jk 7 (Jk 7 ?_))))))))
 have hf2:Va t d=(⟨t.town,t.reach,t.fates++[d.fates],t.events⟩:JI):=by
  exact tDo2 ‹_›
 refine ZW [] [] (KB (Lr:=Lr) [[Sg b 0 (Ke (⟨t.town,t.reach,(t.fates++[d.fates]),t.events⟩:JI) a_1 c_1 a_5 c_5 a_6 c_6 a_7 c_7 a_8 c_8 a_10 c_10 a14 c14 a_13 c_13)],r_7,r_8,r6,r_13] (Ja hl2 hl3) ?_)
 rw [hf2];try dsimp only
 exact ⟨a_1,c_1,a_5,c_5,a_6,c_6,a_7,c_7,a_8,c_8,a_10,c_10,a14,c14,a_13,c_13,r_7,r_8,r6,r_13,rfl,h_0,(h_1.mono (Ja hl2 hl3)),h_2,h_3,h_4,(h_5.mono (Ja hl2 hl3)),(h_6.mono (Ja hl2 hl3)),(h_7.mono (Ja hl2 hl3)),(h_8.mono (Ja hl2 hl3)),h_9,(h_10.mono (Ja hl2 hl3)),h_11,hr6,(h_13.mono (Ja hl2 hl3)),rfl⟩
 refine Jg [0,0] [(28,Bo (decide (d.kind=3)))] (Jl (decide (d.kind=3)) (fun h3=>?_) (fun h3=>?_))
 refine Jf (Jd (Jb [0,0,2] [(30,Pt b 0),(32,I d.who)] (Jw 5 (Jw 5 (Jw 5 (Jw 5 (Jw 5 (Qi (Ls:=[[Sg b 0 (Ke t a_1 c_1 a_5 c_5 a_6 c_6 a_7 c_7 a_8 c_8 a_10 c_10 a_12 c_12 a_13 c_13)],r_7,r_8,r_12,r_13]) (Lr:=([Sg b1 0 (W7 d a1 c1 a2 c2 a3 c3 a4 c4)]::Lr)) 33 (Jch G b t a_1 c_1 a_5 c_5 a_6 c_6 a_7 c_7 a_8 c_8 a_10 c_10 a_12 c_12 a_13 c_13 r_7 r_8 r_12 r_13 h_0 h_1 h_2 h_3 h_4 h_5 h_6 h_7 h_8 h_9 h_10 h_11 h_12 h_13 d.who) (fun v G4 L1 hl4 hp=>?_)))))))))
 obtain ⟨a15,c15,a16,c16,a17,c17,a18,c18,a19,c19,a20,c20,a21,c21,a22,c22,r7,r8,r9,r10,rfl,w19,hs10,w20,w21,w22,hs11,hs12,hr7,hr8,w23,hs13,w24,hr9,hr10,rfl⟩:=hp
 refine Je (Jc (Jl (Zi t d.who) (fun h4=>?_) (fun h4=>?_)))
 refine Jf (Jd (Jb [0,12] [(35,(Q1 d.letter a2 c2 a3 c3 a4 c4))] (Jv 4 #[I 0,I 0,I 0,I 0,Sl none 0 0,I 0,U 0,U 0,I 0,Sr ([]),Sl none 0 0,Sl none 0 0] 51 (fun b3=>JW [3] [] ([Sg b3 0 (Ky d.letter a2 c2 a3 c3 a4 c4)]::[Sg b 0 (Ke t a15 c15 a16 c16 a17 c17 a18 c18 a19 c19 a20 c20 a21 c21 a22 c22)]::r7::r8::r9::r10::[Sg b1 0 (W7 d a1 c1 a2 c2 a3 c3 a4 c4)]::Lr) (Je (Jc (QF [0,14,0,3] [] ([Sg b3 0 (Ky (Y4 d) a2 c2 a3 c3 a4 c4)]::[Sg b 0 (Ke t a15 c15 a16 c16 a17 c17 a18 c18 a19 c19 a20 c20 a21 c21 a22 c22)]::r7::r8::r9::r10::[Sg b1 0 (W7 d a1 c1 a2 c2 a3 c3 a4 c4)]::Lr) ?_)))))))
 refine Ye (σ:=Nat×Ba×Nat×J5) (fun q_=>(J5.le G4 q_.2.2.2)∧(rI (((Qq d t).1).now))∧(RS Kn q_.2.2.2 q_.2.1 q_.2.2.1 (((Qq d t).1).way))) (fun q_=>[(0,Pt b 0),(5,Pt q_.1 0),(6,I ((Qq d t).2))]) (fun q_=>q_.2.2.2) (fun q_=>([Sg q_.1 0 [I (((Qq d t).1).now),Sl q_.2.1 ((((Qq d t).1).way).length) q_.2.2.1]]::[]::[Sg b3 0 (Ky (Y4 d) a2 c2 a3 c3 a4 c4)]::[Sg b 0 (Ke t a15 c15 a16 c16 a17 c17 a18 c18 a19 c19 a20 c20 a21 c21 a22 c22)]::r7::r8::r9::r10::[Sg b1 0 (W7 d a1 c1 a2 c2 a3 c3 a4 c4)]::Lr)) ?_ (fun q_ hs=>?_)
 refine Kt [6,7,11,12] (Wm [(0,Pt b 0),(1,Pt b 0),(2,Pt b 0),(3,Pt b 9),(4,.agg #[I t.town.net.now,Sl a20 t.town.net.way.length c20]),(5,(Q1 (Y4 d) a2 c2 a3 c3 a4 c4))] (JF [] [(0,0),(1,0),(2,0),(3,0),(4,4),(5,2)] [] [6,11] (Ha _) (Kf ?_ (Kf ?_ KY))))
 refine Jz 6 [] (fun X=>?_)
 refine Km 46 1 #[I 1] 3 (fun b4=>JA [(6,Sl (At b4 0) 1 1)] (JF [] [(0,0),(1,0),(2,0),(3,0),(4,6),(5,4)] [] [7,11] (Ha _) (Kf ?_ (Kf ?_ KY))))
 refine Jz 7 [(44,.agg #[I t.town.net.now,Sl a20 t.town.net.way.length c20]),(45,(Q1 (Y4 d) a2 c2 a3 c3 a4 c4)),(46,Sl (At b4 0) 1 1)] (fun X=>?_)
 refine QI (b:=b4) (o:=0) (cs:=[I 1]) 0 (fun G5 hl5 hz1=>?_)
 have hs14:RS EI G5 (At b4 0) 1 [1]:=RS.lit [[I 1]] [1] ⟨⟨rfl,(by omega)⟩,trivial⟩ hz1 (Hc rfl) (Hc rfl)
 refine JN 47 (Y2 G5 [I t.town.net.now,Sl a20 t.town.net.way.length c20] t.town.net (⟨a20,c20,rfl,w23,(hs13.mono hl5)⟩) (Ky (Y4 d) a2 c2 a3 c3 a4 c4) (Y4 d) (⟨a2,c2,a3,c3,a4,c4,rfl,w2,w5,w6,w7,(hs2.mono (Ja hl4 hl5)),w8,w9,w10,w11,w12,(hs3.mono (Ja hl4 hl5)),(hs4.mono (Ja hl4 hl5))⟩) (At b4 0) 1 ([1]) hs14) (fun v G6 L1 hl6 hp=>?_)
 obtain ⟨a23,c23,rfl,w25,hs15,rfl⟩:=hp
 refine JA [(7,.tuple #[.agg #[I (((Qq d t).1).now),Sl a23 ((((Qq d t).1).way).length) c23],I ((Qq d t).2)]),(8,.tuple #[.agg #[I (((Qq d t).1).now),Sl a23 ((((Qq d t).1).way).length) c23],I ((Qq d t).2)]),(9,.agg #[I (((Qq d t).1).now),Sl a23 ((((Qq d t).1).way).length) c23]),(10,I ((Qq d t).2))] (JF [0,1,2,3,4,5] [(8,0),(9,0),(10,0)] [] [11] (Ha _) (Kf ?_ KY))
 refine Jz 11 [] (fun X=>?_)
 refine Jv 5 #[I 0,Sl none 0 0] 65 (fun b5=>JA [(11,Pt b5 0)] (JF [0,1,2,3,4,5] [(8,0),(9,0),(10,0)] [] [12] (Ha _) (Kf ?_ KY)))
 refine Jz 12 [(5,Pt b5 0),(48,.agg #[I (((Qq d t).1).now),Sl a23 ((((Qq d t).1).way).length) c23])] (fun X=>?_)
 exact KC 0 ([Sg b5 0 [I (((Qq d t).1).now),Sl a23 ((((Qq d t).1).way).length) c23]]::[]::[Sg b3 0 (Ky (Y4 d) a2 c2 a3 c3 a4 c4)]::[Sg b 0 (Ke t a15 c15 a16 c16 a17 c17 a18 c18 a19 c19 a20 c20 a21 c21 a22 c22)]::r7::r8::r9::r10::[Sg b1 0 (W7 d a1 c1 a2 c2 a3 c3 a4 c4)]::Lr) (J6 [(13,I ((Qq d t).2))] (Kl [0,1,2,3,4,5,8,9] [(10,0),(13,0)] [] [(0,Pt b 0),(5,Pt b5 0),(6,I ((Qq d t).2))] (Ha _) (QW (b5,a23,c23,G6) ⟨(Ja hl5 hl6),w25,hs15⟩)))
 refine Jz 11 [] (fun X=>?_)
 refine Jv 5 #[I 0,Sl none 0 0] 65 (fun b6=>JA [(11,Pt b6 0)] (JF [] [(0,0),(1,0),(2,0),(3,0),(4,8),(5,6)] [] [7] (Ha _) (Kf ?_ KY)))
 refine Jz 7 [(44,.agg #[I t.town.net.now,Sl a20 t.town.net.way.length c20]),(45,(Q1 (Y4 d) a2 c2 a3 c3 a4 c4)),(46,Sl (At b4 0) 1 1)] (fun X=>?_)
 refine QI (b:=b4) (o:=0) (cs:=[I 1]) 1 (fun G7 hl7 hz2=>?_)
 have hs16:RS EI G7 (At b4 0) 1 [1]:=RS.lit [[I 1]] [1] ⟨⟨rfl,(by omega)⟩,trivial⟩ hz2 (Hc rfl) (Hc rfl)
 refine JN 47 (Y2 G7 [I t.town.net.now,Sl a20 t.town.net.way.length c20] t.town.net (⟨a20,c20,rfl,w23,(hs13.mono hl7)⟩) (Ky (Y4 d) a2 c2 a3 c3 a4 c4) (Y4 d) (⟨a2,c2,a3,c3,a4,c4,rfl,w2,w5,w6,w7,(hs2.mono (Ja hl4 hl7)),w8,w9,w10,w11,w12,(hs3.mono (Ja hl4 hl7)),(hs4.mono (Ja hl4 hl7))⟩) (At b4 0) 1 ([1]) hs16) (fun v G8 L1 hl8 hp=>?_)
 obtain ⟨a24,c24,rfl,w26,hs17,rfl⟩:=hp
 refine JA [(7,.tuple #[.agg #[I (((Qq d t).1).now),Sl a24 ((((Qq d t).1).way).length) c24],I ((Qq d t).2)]),(8,.tuple #[.agg #[I (((Qq d t).1).now),Sl a24 ((((Qq d t).1).way).length) c24],I ((Qq d t).2)]),(9,.agg #[I (((Qq d t).1).now),Sl a24 ((((Qq d t).1).way).length) c24]),(10,I ((Qq d t).2))] (JF [0,1,2,3,4,5] [(8,0),(9,0),(10,0)] [] [12] (Ha _) (Kf ?_ KY))
 refine Jz 12 [(5,Pt b6 0),(48,.agg #[I (((Qq d t).1).now),Sl a24 ((((Qq d t).1).way).length) c24])] (fun X=>?_)
 exact KC 0 ([Sg b6 0 [I (((Qq d t).1).now),Sl a24 ((((Qq d t).1).way).length) c24]]::[]::[Sg b3 0 (Ky (Y4 d) a2 c2 a3 c3 a4 c4)]::[Sg b 0 (Ke t a15 c15 a16 c16 a17 c17 a18 c18 a19 c19 a20 c20 a21 c21 a22 c22)]::r7::r8::r9::r10::[Sg b1 0 (W7 d a1 c1 a2 c2 a3 c3 a4 c4)]::Lr) (J6 [(13,I ((Qq d t).2))] (Kl [0,1,2,3,4,5,8,9] [(10,0),(13,0)] [] [(0,Pt b 0),(5,Pt b6 0),(6,I ((Qq d t).2))] (Ha _) (QW (b6,a24,c24,G8) ⟨(Ja hl7 hl8),w26,hs17⟩)))
 refine Jz 11 [] (fun X=>?_)
 refine Jv 5 #[I 0,Sl none 0 0] 65 (fun b7=>JA [(11,Pt b7 0)] (JF [] [(0,0),(1,0),(2,0),(3,0),(4,6),(5,4)] [] [6] (Ha _) (Kf ?_ KY)))
 refine Jz 6 [] (fun X=>?_)
 refine Km 46 1 #[I 1] 3 (fun b8=>JA [(6,Sl (At b8 0) 1 1)] (JF [] [(0,0),(1,0),(2,0),(3,0),(4,8),(5,6)] [] [7] (Ha _) (Kf ?_ KY)))
 refine Jz 7 [(44,.agg #[I t.town.net.now,Sl a20 t.town.net.way.length c20]),(45,(Q1 (Y4 d) a2 c2 a3 c3 a4 c4)),(46,Sl (At b8 0) 1 1)] (fun X=>?_)
 refine QI (b:=b8) (o:=0) (cs:=[I 1]) 0 (fun G9 hl9 hz3=>?_)
 have hs18:RS EI G9 (At b8 0) 1 [1]:=RS.lit [[I 1]] [1] ⟨⟨rfl,(by omega)⟩,trivial⟩ hz3 (Hc rfl) (Hc rfl)
 refine JN 47 (Y2 G9 [I t.town.net.now,Sl a20 t.town.net.way.length c20] t.town.net (⟨a20,c20,rfl,w23,(hs13.mono hl9)⟩) (Ky (Y4 d) a2 c2 a3 c3 a4 c4) (Y4 d) (⟨a2,c2,a3,c3,a4,c4,rfl,w2,w5,w6,w7,(hs2.mono (Ja hl4 hl9)),w8,w9,w10,w11,w12,(hs3.mono (Ja hl4 hl9)),(hs4.mono (Ja hl4 hl9))⟩) (At b8 0) 1 ([1]) hs18) (fun v G10 L1 hl10 hp=>?_)
 obtain ⟨a25,c25,rfl,w27,hs19,rfl⟩:=hp
 refine JA [(7,.tuple #[.agg #[I (((Qq d t).1).now),Sl a25 ((((Qq d t).1).way).length) c25],I ((Qq d t).2)]),(8,.tuple #[.agg #[I (((Qq d t).1).now),Sl a25 ((((Qq d t).1).way).length) c25],I ((Qq d t).2)]),(9,.agg #[I (((Qq d t).1).now),Sl a25 ((((Qq d t).1).way).length) c25]),(10,I ((Qq d t).2))] (JF [0,1,2,3,4,5] [(8,0),(9,0),(10,0)] [] [12] (Ha _) (Kf ?_ KY))
 refine Jz 12 [(5,Pt b7 0),(48,.agg #[I (((Qq d t).1).now),Sl a25 ((((Qq d t).1).way).length) c25])] (fun X=>?_)
 refine KC 1 ([]::[Sg b7 0 [I (((Qq d t).1).now),Sl a25 ((((Qq d t).1).way).length) c25]]::[Sg b3 0 (Ky (Y4 d) a2 c2 a3 c3 a4 c4)]::[Sg b 0 (Ke t a15 c15 a16 c16 a17 c17 a18 c18 a19 c19 a20 c20 a21 c21 a22 c22)]::r7::r8::r9::r10::[Sg b1 0 (W7 d a1 c1 a2 c2 a3 c3 a4 c4)]::Lr) (J6 [(13,I ((Qq d t).2))] (Kl [0,1,2,3,4,5,8,9] [(10,0),(13,0)] [] [(0,Pt b 0),(5,Pt b7 0),(6,I ((Qq d t).2))] (Ha _) (Jk 8 (Jk 8 (Jk 8 (Jk 8 (Jk 8 (Jk 8 (Jk 8 (Jk 7 ?_))))))))))
 exact Jk 8 (QW (b7,a25,c25,G10) ⟨(Ja hl9 hl10),w27,hs19⟩)
 obtain ⟨b5,a23,c23,G6⟩:=q_
 obtain ⟨hle1,hj1,hj2⟩:=hs
 dsimp only at hle1 hj1 hj2
 dsimp only
 refine Jg [0,0] [(51,Bo (decide ((Qq d t).2=0)))] (Jl (decide ((Qq d t).2=0)) (fun h5=>?_) (fun h5=>?_))
 refine Jd (JW [0,2,0,0,0,9] [] ([Sg b5 0 [I (((Qq d t).1).now),Sl a23 ((((Qq d t).1).way).length) c23]]::[]::[Sg b3 0 (Ky (Y4 d) a2 c2 a3 c3 a4 c4)]::[Sg b 0 (Ke (⟨(⟨t.town.clerk,t.town.owners,t.town.polls,(Qq d t).1⟩:Wl),t.reach,t.fates,t.events⟩:JI) a15 c15 a16 c16 a17 c17 a18 c18 a19 c19 a23 c23 a21 c21 a22 c22)]::r7::r8::r9::r10::[Sg b1 0 (W7 d a1 c1 a2 c2 a3 c3 a4 c4)]::Lr) (Je (JM (Jk 7 (Jk 7 (Jk 7 (Jk 7 (Jk 7 ?_))))))))
 have hf3:Va t d=(⟨(⟨t.town.clerk,t.town.owners,t.town.polls,((Qq d t).1)⟩:Wl),t.reach,t.fates,t.events⟩:JI):=by
  exact tDo31 ‹_› ‹_› ‹_›
 refine ZW [] [] (KB (Lr:=Lr) [[Sg b 0 (Ke (⟨(⟨t.town.clerk,t.town.owners,t.town.polls,(Qq d t).1⟩:Wl),t.reach,t.fates,t.events⟩:JI) a15 c15 a16 c16 a17 c17 a18 c18 a19 c19 a23 c23 a21 c21 a22 c22)],r7,r8,r9,r10] (Ja hl4 hle1) ?_)
 rw [hf3];try dsimp only
 exact ⟨a15,c15,a16,c16,a17,c17,a18,c18,a19,c19,a23,c23,a21,c21,a22,c22,r7,r8,r9,r10,rfl,w19,(hs10.mono hle1),w20,w21,w22,(hs11.mono hle1),(hs12.mono hle1),(hr7.mono hle1),(hr8.mono hle1),hj1,hj2,w24,(hr9.mono hle1),(hr10.mono hle1),rfl⟩
 refine Jq (JM (Jk 7 (Jk 7 (Jk 7 (Jk 7 (Jk 7 ?_))))))
 have hf4:Va t d=t:=by
  exact tDo32 ‹_› ‹_› ‹_›
 refine ZW [] [] (KB (Lr:=Lr) [[Sg b 0 (Ke t a15 c15 a16 c16 a17 c17 a18 c18 a19 c19 a20 c20 a21 c21 a22 c22)],r7,r8,r9,r10] (Ja hl4 hle1) ?_)
 rw [hf4];try dsimp only
 exact ⟨a15,c15,a16,c16,a17,c17,a18,c18,a19,c19,a20,c20,a21,c21,a22,c22,r7,r8,r9,r10,rfl,w19,(hs10.mono hle1),w20,w21,w22,(hs11.mono hle1),(hs12.mono hle1),(hr7.mono hle1),(hr8.mono hle1),w23,(hs13.mono hle1),w24,(hr9.mono hle1),(hr10.mono hle1),rfl⟩
 refine Jq (JM (Jk 4 (Jk 4 (Jk 4 (Jk 4 (Jk 4 ?_))))))
 have hf5:Va t d=t:=by
  exact tDo30 ‹_› ‹_›
 refine ZW [] [] (KB (Lr:=Lr) [[Sg b 0 (Ke t a15 c15 a16 c16 a17 c17 a18 c18 a19 c19 a20 c20 a21 c21 a22 c22)],r7,r8,r9,r10] hl4 ?_)
 rw [hf5];try dsimp only
 exact ⟨a15,c15,a16,c16,a17,c17,a18,c18,a19,c19,a20,c20,a21,c21,a22,c22,r7,r8,r9,r10,rfl,w19,hs10,w20,w21,w22,hs11,hs12,hr7,hr8,w23,hs13,w24,hr9,hr10,rfl⟩
 refine Jg [0,0] [(57,Bo (decide (d.kind=4)))] (Jl (decide (d.kind=4)) (fun h6=>?_) (fun h6=>?_))
 refine Jd (Jb [0] [(59,Pt b 0)] (Jw 5 (Jw 5 (Jw 5 (Jw 5 (Jw 5 (Qi (Ls:=[[Sg b 0 (Ke t a_1 c_1 a_5 c_5 a_6 c_6 a_7 c_7 a_8 c_8 a_10 c_10 a_12 c_12 a_13 c_13)],r_7,r_8,r_12,r_13]) (Lr:=([Sg b1 0 (W7 d a1 c1 a2 c2 a3 c3 a4 c4)]::Lr)) 60 (Jm6 G b t a_1 c_1 a_5 c_5 a_6 c_6 a_7 c_7 a_8 c_8 a_10 c_10 a_12 c_12 a_13 c_13 r_7 r_8 r_12 r_13 h_0 h_1 h_2 h_3 h_4 h_5 h_6 h_7 h_8 h_9 h_10 h_11 h_12 h_13 ‹_› ‹_›) (fun v G11 L1 hl11 hp=>?_))))))))
 obtain ⟨a26,c26,a27,c27,a28,c28,a29,c29,a30,c30,a31,c31,a32,c32,a33,c33,r11,r12,r13,r14,rfl,w28,hs20,w29,w30,w31,hs21,hs22,hr11,hr12,w32,hs23,w33,hr13,hr14,rfl⟩:=hp
 refine Je (JM (Jk 4 (Jk 4 (Jk 4 (Jk 4 (Jk 4 ?_))))))
 have hf6:Va t d=(WJ t):=by
  exact tDo4 ‹_›
 refine ZW [] [] (KB (Lr:=Lr) [[Sg b 0 (Ke (WJ t) a26 c26 a27 c27 a28 c28 a29 c29 a30 c30 a31 c31 a32 c32 a33 c33)],r11,r12,r13,r14] hl11 ?_)
 rw [hf6];try dsimp only
 exact ⟨a26,c26,a27,c27,a28,c28,a29,c29,a30,c30,a31,c31,a32,c32,a33,c33,r11,r12,r13,r14,rfl,w28,hs20,w29,w30,w31,hs21,hs22,hr11,hr12,w32,hs23,w33,hr13,hr14,rfl⟩
 refine Jq (JM (Jk 5 (Jk 5 (Jk 5 (Jk 5 (Jk 5 ?_))))))
 have hf7:Va t d=t:=by
  exact tDo5 ‹_› ‹_› ‹_› ‹_›
 refine ZW [] [] (KB (Lr:=Lr) [[Sg b 0 (Ke t a_1 c_1 a_5 c_5 a_6 c_6 a_7 c_7 a_8 c_8 a_10 c_10 a_12 c_12 a_13 c_13)],r_7,r_8,r_12,r_13] (Jh _) ?_)
 rw [hf7];try dsimp only
 exact ⟨a_1,c_1,a_5,c_5,a_6,c_6,a_7,c_7,a_8,c_8,a_10,c_10,a_12,c_12,a_13,c_13,r_7,r_8,r_12,r_13,rfl,h_0,h_1,h_2,h_3,h_4,h_5,h_6,h_7,h_8,h_9,h_10,h_11,h_12,h_13,rfl⟩
end Go.Proofs.YteaampgpgokjmaaGreatDoor
namespace Go.Tx
open Go.RowKit Go.Proofs Go.Shelf
open _root_.List renaming replicate → Ha, take_of_length_le → Hb, replicate_append_replicate → Hc, take_append_of_le_length → Hf, getElem?_eq_some_iff → Hg, getElem?_replicate → Hh, length_replicate → Hi
open _root_.Nat renaming min → Hd, mul_le_mul_right → He
section
variable {C:Cx} {Q:Bq} {fr:Bf} {G:J5} {L:Bl} {ops:Bp} {rest:List Oper} {o:Oper}
theorem Jgn {x y:Code} (h:TC C y Q fr G L):TC C (.cond (.const (.bool false)) x y) Q fr G L :=
 fun a w ha hw=>wp_cond_false (by simp [Act.eval]) (h a w ha hw)
theorem Jgo (d t e n sz:Nat) {z:Value} {lo co:Operand} {bytes:Nat} (h63:n≤9223372036854775807) (hby:n*bytes≤281474976710656)
  (hi:(C.P.info? e).map (fun i=>(i.zero,i.size,i.bytes))=some (some z,sz,bytes))
  (h:∀ b F,F.length=n*sz→KA C ops Q rest ((d,Sl (At b 0) n n)::fr) G ([Sg b 0 F]::L))
  (hb:base C.n ops fr o d=true:=by as_aux_lemma=>kernel_rfl)
  (hop:o.op=.makeSlice t lo co:=by rfl) (ht:C.P.underlying t=some (.slice e):=by as_aux_lemma=>kernel_rfl)
  (hlo:W6 fr lo=I (n:Int):=by as_aux_lemma=>kernel_rfl) (hco:W6 fr co=I (n:Int):=by as_aux_lemma=>kernel_rfl):KA C ops Q (o::rest) fr G L:=by
 refine QE d hb (fun w hw=>?_)
 obtain ⟨inf,hinf,hz,hsz,hbs⟩:=info_parts hi
 have hbn:(inf.bytes:Int)*(n:Int)≤281474976710656:=by
  have h2:(inf.bytes:Int)*n=((n*bytes:Nat):Int):=by rw [Int.natCast_mul,Int.mul_comm,hbs]
  omega
 have hm:=run_make (P:=C.P) w t e inf z ht hinf hz .i64 .i64 n n (by omega) (Int.le_refl _) hbn (by omega)
 simp only [Int.toNat_natCast,hsz] at hm
 refine ⟨_,_,G,_,?_,hw.alloc (madeCells z.cells (n*sz)) e,h w.heap.size _ (by simp [size_madeCells])⟩
 unfold execOp
 simp only [hop,hlo,hco,Sem.run_bind,hm,Result.andThen_ok,Sem.run_pure]
end
theorem Jfy (k:Nat) (cs:Bv):(Ha k cs).flatten.length=k*cs.length:=by simp
theorem Jo4 {k m:Nat} {cs:Bv} (h:m≤k):(Ha k cs).flatten.take (m*cs.length)=(Ha m cs).flatten:=by
 obtain ⟨j,rfl⟩:=Nat.exists_eq_add_of_le h
 rw [← Hc,List.flatten_append,Hf (by rw [Jfy];exact Nat.le_refl _),Hb (by rw [Jfy];exact Nat.le_refl _)]
theorem Yh (a b:Nat):Hd a b≤a∧Hd a b≤b∧(1≤a→1≤b→1≤Hd a b):=by
 show min a b≤a∧min a b≤b∧(1≤a→1≤b→1≤min a b)
 omega
structure Jda (cs:Bv) (n k:Nat) (F:Bv):Prop where
 le:k≤n
 pos:n=0∨1≤k
 len:F.length=n*cs.length
 eq:F.take (k*cs.length)=(Ha k cs).flatten
theorem Jda.x {cs F:Bv} {n k m:Nat} (h:Jda cs n k F) (hm:m≤k):F.take (m*cs.length)=(Ha m cs).flatten:=by
 rw [← Jo4 hm,← h.eq,List.take_take,Nat.min_eq_left (He _ hm)]
theorem Jda.xlen {cs F:Bv} {n k m:Nat} (h:Jda cs n k F) (hm:m≤k):(F.take (m*cs.length)).length=m*cs.length:=by rw [h.x hm,Jfy]
theorem Jda.one {cs F:Bv} {n k m:Nat} (h:Jda cs n k F) (hm:m≤k) (h1:∀ u∈cs,u.oneCell'=true):∀ u∈F.take (m*cs.length),u.oneCell'=true:=by
 rw [h.x hm]
 intro u hu
 obtain ⟨l,hl,hu⟩:=List.mem_flatten.1 hu
 rw [(List.mem_replicate.1 hl).2] at hu
 exact h1 u hu
theorem Je4 {F X:Bv} {p:Nat} (hp:p≤F.length):(Qz F p X).take (p+X.length)=F.take p++X:=by
 unfold Qz
 rw [← List.append_assoc,Hf (by simp;omega),Hb (by simp;omega)]
theorem Jda.next {cs F:Bv} {n k m:Nat} (h:Jda cs n k F) (hm:m≤k) (hmn:k+m≤n):Jda cs n (k+m) (Qz F (k*cs.length) (F.take (m*cs.length))):=by
 have hkl:k*cs.length+m*cs.length≤n*cs.length:=by rw [← Nat.add_mul];exact He _ hmn
 have hx:=h.xlen hm
 refine ⟨hmn,?_,?_,?_⟩
 ·
  rcases h.pos with q | q
  · exact .inl q
  · exact .inr (by omega)
 · rw [Zk (by rw [hx,h.len];exact hkl)];exact h.len
 ·
  have:=Je4 (F:=F) (X:=F.take (m*cs.length)) (p:=k*cs.length) (by rw [h.len];omega)
  rw [hx,← Nat.add_mul] at this
  rw [this,h.eq,h.x hm,← List.flatten_append,Hc]
def Jgp (cs:Bv) (n:Nat):Bv:=(Ha (Hd 1 n) cs).flatten
theorem Jcj (cs:Bv) (n:Nat):(Jgp cs n).length=Hd 1 n*cs.length:=Jfy _ _
theorem JjI {cs:Bv} {n:Nat} {u:Value} (h:u∈Jgp cs n):u∈cs:=by
 obtain ⟨l,hl,hu⟩:=List.mem_flatten.1 h
 rw [(List.mem_replicate.1 hl).2] at hu;exact hu
theorem Jo5 {cs:Bv} {n j:Nat} {v:Value} (h:(Jgp cs n)[j]? = some v):cs[j]? = some v:=by
 unfold Jgp at h
 have h2:=(Nat.min_def (m:=n) (n:=1))
 by_cases e:1≤n
 ·
  rw [show Hd 1 n=1 from Nat.min_eq_left e] at h
  simpa using h
 ·
  rw [show Hd 1 n=0 from by show min 1 n=0;omega] at h
  simp at h
theorem Jda.start {cs F:Bv} {n:Nat} (hF:F.length=n*cs.length):Jda cs n (Hd 1 n) (Qz F 0 (Jgp cs n)):=by
 have hl:=Jcj cs n
 have hle:Hd 1 n≤n:=Nat.min_le_right 1 n
 have hk:Hd 1 n*cs.length≤n*cs.length:=He _ hle
 refine ⟨hle,?_,?_,?_⟩
 ·
  by_cases e:n=0
  · exact .inl e
  · exact .inr (by show 1≤min 1 n;omega)
 · rw [Zk (by rw [hl,hF];omega)];exact hF
 ·
  have:=Je4 (F:=F) (X:=Jgp cs n) (p:=0) (Nat.zero_le _)
  rw [hl] at this
  simp only [Nat.zero_add,List.take_zero,List.nil_append] at this
  rw [this];rfl
theorem Jda.row {α:Type} {E:YR α} {G:J5} {cs F:Bv} {n k b:Nat} {x:α} (h:Jda cs n k F) (hk:n≤k) (hR:E.R G cs x) (h63:n≤9223372036854775807):JR E G (At b 0) n (Ha n x) [Sg b 0 F]:=by
 have hkn:k=n:=Nat.le_antisymm h.le hk
 subst hkn
 have hF:F=(Ha k cs).flatten:=by rw [← h.eq,Hb (by rw [h.len];exact Nat.le_refl _)]
 have hsz:=E.len hR
 refine ⟨⟨Ha k cs,by simp,fun i y hy=>?_,?_⟩⟩
 ·
  have hi:=(Hg.1 hy).1
  simp only [Hi] at hi
  rw [Hh,if_pos hi] at hy
  cases hy
  exact ⟨cs,by rw [Hh,if_pos hi],hR⟩
 ·
  rw [Hi,← hF]
  exact Row.lit (by rw [h.len,hsz]) h63
theorem JlV {G:J5} {L:Bl} {b o n:Nat} {cs:Bv} (h:∀ j v,cs[j]? = some v→G b (o+j)=some v):Jlo G L b o (Jgp cs n):=.inl fun j v hv=>h j v (Jo5 hv)
theorem JlW {G:J5} {L:Bl} {b:Nat} {F:Bv} {m:Nat} (k:Nat) (hL:L[k]? = some [Sg b 0 F]):Jlo G L b 0 (F.take m):=.inr ⟨k,0,F,0,hL,rfl,fun j v hv=>by
 rw [Nat.zero_add]
 have hj:=(Hg.1 hv).1
 simp only [List.length_take] at hj
 rw [List.getElem?_take] at hv
 split at hv
 · exact hv
 · cases hv⟩
end Go.Tx
namespace Go.Proofs.YteaampgpgokjmaaGreatDoor
open Go.Tx
open Go.Proofs
open _root_.List renaming forall_mem_nil → Ha, replicate → Hc, length_cons → Hd, length_append → He, length_nil → Hg, mem_of_getElem? → Hh, length_map → Hj, length_take → Hk, take_of_length_le → Hl, length_replicate → Hm, take_add_one → Hn, getElem?_eq_some_iff → Hs, drop_eq_getElem_cons → Ht, length → Hv
open _root_.Nat renaming le_of_ble_eq_true → Hb, min → Hf, le_trans → Ho, le_refl → Hq, zero_le → Hr
open IntKind renaming i64 → Hi, u64 → Hp
open _root_.Decidable renaming not_not → Hu
open IntWalk renaming i64_in → Hw
theorem JjJ (y:Int) (hy:0≤y∧y<9223372036854775808) (G:J5):VC Tryz.prog 33 #[U 1,U y] G [] (fun u G' L'=>u=.tuple #[U 0,U y]):=by
 refine JP Tryz.func33 30 [(0,U 1),(1,U y)] rfl (fun w0 G0=>?_)
 exact Jg [0,0] [] (Jf (Jgn (Jq (Jc (Jf (Jd (Jb [0,0] [(23,U 1),(24,U y)] (Jm 25 (.tuple #[U (1*y / 18446744073709551616),U (1*y % 18446744073709551616)]) (Jhl 1 y J4 J4 G) (Jb [0,0,0,0,0] [(8,U (1*y / 18446744073709551616)),(9,U (1*y % 18446744073709551616))] (Je (Jc (Jg [0,0,0,0] [(4,U (1*y / 18446744073709551616)),(5,U (1*y % 18446744073709551616))] (Jn (Jo [0,0] [U (1*y / 18446744073709551616),U (1*y % 18446744073709551616)] (Jx (Jh _) (congr (congrArg (fun a b=>Value.tuple #[U a,U b]) J4) J4))))))))))))))))
theorem JjK (G:J5) (a_l:Ba) (c_l:Nat) (p:We) (h_l:RS WK G a_l c_l [p]) (n:Nat) (hn:n≤1000):VC Tryz.prog 59 #[Sl a_l 1 c_l,I (n:Int)] G [] (fun u G' L'=>∃ a' c' r,u=Sl a' (Hc n p).length c'∧JR WK G' a' c' (Hc n p) r∧L'=[r]):=by
 obtain ⟨bx,ox,rfl⟩:=RS.addr h_l (k:=0) (by simp)
 obtain ⟨csx,h_p,hcx⟩:=RS.get h_l (k:=0) (x:=p) rfl
 have h1x:=WK.one h_p
 obtain ⟨rfl,_,_,_,_,_,_⟩:=id h_p
 rw [Nat.zero_mul,Nat.add_zero] at hcx
 refine JP Tryz.func59 48 [(0,Sl (At bx ox) 1 c_l),(1,I (n:Int))] rfl (fun w0 G0=>?_)
 refine Jg [0] [] (Jf (Jg [0,0] [(10,Bo (decide ((n:Int)<0)))] (Jl (decide ((n:Int)<0)) (fun h1=>?_) (fun h1=>?_))))
 exfalso;omega
 refine Jq (Jc (Jf (Jd (Jb [0,0,0,0,0] [(15,U (Hp.wrap (1:Int))),(17,U (Hp.wrap (n:Int)))] (Jbi 17 (n:Int) J4 (Jm 18 (.tuple #[U 0,U (n:Int)]) (JjJ (n:Int) J4 G) (Jb [0,0,0,0,0] [(5,U 0),(6,U (n:Int))] (Je (Jc (Jf (Jg [0,0,0,0,0,0] [(26,Bo (decide ((n:Int) > 9223372036854775807)))] (Jl (decide ((n:Int) > 9223372036854775807)) (fun h2=>?_) (fun h2=>?_)))))))))))))
 exfalso;omega
 refine Jq (Jc (Jf (Jd (Jb [0,0] [(29,I (Hi.wrap (n:Int)))] (Kp 29 (n:Int) J4 (Jgo (z:=(.agg #[I 0,I 0,I 0,I 0,I 0,I 0])) (bytes:=48) 30 62 143 n 6 J4 J4 (by kernel_rfl) (fun bz Fz hFz=>Jb [0] [(7,Sl (At bz 0) n n)] (Je (Jc (Jf (Jd (Jb [0,0] [(31,Sl (At bz 0) n n),(32,Sl (At bx ox) 1 c_l)] (YB (b:=bz) (off:=0) (p:=0) (nd:=n) (cd:=n) (bs:=bx) (os:=ox) (ns:=1) (cs:=c_l) (F:=Fz) 33 0 6 (Jgp [I p.least,I p.most,I p.lost,I p.gap,I p.next,I p.asked] n) (Jcj _ _) (by rw [Jcj,hFz,Nat.zero_add];exact Nat.mul_le_mul_right _ (Nat.min_le_right 1 n)) (fun u hu=>h1x u (JjI hu)) (JlV hcx) (Jb [0] [(8,I ((Hf 1 n:Nat):Int))] (Je (Jc (Jf (Jy ?_))))))))))))))))))
 refine Qc (σ:=Nat×Bv) (fun q_=>(Jda [I p.least,I p.most,I p.lost,I p.gap,I p.next,I p.asked] n q_.1 q_.2)) (fun q_=>[(7,Sl (At bz 0) n n),(8,I (q_.1:Int))]) (fun q_=>G) (fun q_=>[[Sg bz 0 q_.2]]) (fun q_=>n-q_.1) ((Hf 1 n),(Qz Fz 0 (Jgp [I p.least,I p.most,I p.lost,I p.gap,I p.next,I p.asked] n))) (.start hFz) (fun q_ hs=>?_)
 obtain ⟨k,F⟩:=q_
 have hI:=hs
 dsimp only at hI
 dsimp only
 refine Jf (Jg [0,0,0,0] [(37,Bo (decide ((k:Int)<(n:Int))))] (Jl (decide ((k:Int)<(n:Int))) (fun h3=>?_) (fun h3=>?_)))
 refine Jq (Jc (Jy (Kt [7] (Wm [(0,I (k:Int)),(1,Sl (At bz 0) n n),(2,I (k:Int)),(3,Sl (At bz (0+k*6)) (n-k) (n-k)),(4,Sl (At bz 0) n n),(5,I (k:Int)),(6,Sl (At bz 0) k n)] (JF [] [(0,0),(1,0),(2,0),(4,0),(5,0)] [3,6] [7] (Kf ?_ (Kf ?_ KY)) (Kf ?_ KY))))))
 refine Jr 3 41 (Sl (At bz (0+k*6)) (n-k) (n-k)) [(39,Sl (At bz 0) n n),(40,I (k:Int))] (fun X=>?_)
 exact ZC (b:=bz) (off:=0) (len:=n) (cap:=n) 41 6 (some (I (k:Int))) none k n (.inr ⟨_,rfl⟩) (.inl ⟨rfl,rfl⟩) J4 J4 J4 Jp
 refine Jr 6 44 (Sl (At bz 0) k n) [(42,Sl (At bz 0) n n),(43,I (k:Int))] (fun X=>?_)
 exact Jaw (b:=bz) (off:=0) (len:=n) (cap:=n) 44 6 (some (I (k:Int))) k (.inr ⟨_,rfl⟩) J4 Jp
 refine Jz 7 [(41,Sl (At bz (0+k*6)) (n-k) (n-k)),(44,Sl (At bz 0) k n)] (fun X=>?_)
 refine YB (b:=bz) (off:=0) (p:=k*6) (nd:=n-k) (cd:=n-k) (bs:=bz) (os:=0) (ns:=k) (cs:=n) (F:=F) 45 0 6 (F.take (Hf k (n-k)*6)) (hI.xlen (Yh _ _).1) (by have q_:(F.take (Hf k (n-k)*6)).length=Hf k (n-k)*6:=hI.xlen (Yh _ _).1;have q1_:F.length=n*6:=hI.len;have q2_:=Yh k (n-k);omega) (hI.one (Yh _ _).1 h1x) (JlW 0 rfl) ?_
 have e1:Hi.wrap ((k:Int)+((Hf k (n-k):Nat):Int))=((k+Hf k (n-k):Nat):Int):=(Hw _ (by (have q_:=Yh k (n-k);have q2_:=hI.le;omega))).trans (show (k:Int)+((Hf k (n-k):Nat):Int)=((k+Hf k (n-k):Nat):Int) from (Int.natCast_add _ _).symm)
 refine JA [(7,I ((Hf k (n-k):Nat):Int)),(8,I ((k+Hf k (n-k):Nat):Int)),(9,I ((k+Hf k (n-k):Nat):Int))] (Kl [1,2,3,4,5,6] [(0,0),(9,0)] [8] [(7,Sl (At bz 0) n n),(8,I ((k+Hf k (n-k):Nat):Int))] (Kf ?_ KY) ?_)
 refine Jr 8 46 (I ((k+Hf k (n-k):Nat):Int)) [(38,I (k:Int)),(45,I ((Hf k (n-k):Nat):Int))] (fun X=>?_)
 exact K5 46 (I (Hi.wrap ((k:Int)+((Hf k (n-k):Nat):Int)))) (I ((k+Hf k (n-k):Nat):Int)) (by simp only [e1]) Jp
 exact JM (Qh (k+Hf k (n-k),(Qz F (k*6) (F.take (Hf k (n-k)*6)))) (hI.next (Yh _ _).1 (by (try dsimp only);have q_:=Yh k (n-k);have q2_:=hI.le;omega)) (by (try dsimp only);have q_:=hI.pos;have q2_:=Yh k (n-k);omega))
 refine KX (J1 (Kd (JS (Jc (Jg [0,0] [(4,Sl (At bz 0) n n)] (Jn ?_))))))
 have hrw:=hI.row (E:=WK) (G:=G) (x:=p) (b:=bz) (by omega) h_p (by omega)
 refine Jd2 4 (Sl (At bz 0) ((Hc n p).length) n) (show (Sl (At bz 0) n n:Value)=Sl (At bz 0) ((Hc n p).length) n by simp only [Hm]) (Jk 0 ?_)
 have hf1:Hc n p=(Hc n p):=by
  rfl
 refine Jo [0] [Sl (At bz 0) ((Hc n p).length) n] (JD [[Sg bz 0 F]] (Jh _) ?_)
 rw [hf1]
 try dsimp only
 exact ⟨(At bz 0),n,([Sg bz 0 F]),rfl,hrw,rfl⟩
def JlX (s:Kx):JX:=W2 (J7 s.most s.batch s.every).1.heads
def Jck (s:Kx) (i:Nat):JI:=⟨⟨(J7 s.most s.batch s.every).1,(Z8 s (JlX s)).take i,[],⟨0,[]⟩⟩,s.reach,[],[]⟩
theorem Jg1 {s:Kx} {h:JX} {i:Nat} {n:Bb} {k:Int} (hn:s.names[i]? = some n) (hk:s.keys[i]? = some k):(Z8 s h).take i++[(Kk n k h).1]=(Z8 s h).take (i+1):=by
 have:(Z8 s h)[i]? = some (Kk n k h).1:=by
  have hz:(s.names.zip s.keys)[i]? = some (n,k):=List.getElem?_zip_eq_some.2 ⟨hn,hk⟩
  unfold Z8
  rw [List.getElem?_map,hz];rfl
 rw [Hn,this];rfl
theorem JjL {s:Kx} {bt:JI} {i:Nat} {n:Bb} {k:Int} {x:JX} (hB:bt=Jck s i) (hn:s.names[i]? = some n) (hk:s.keys[i]? = some k) (hx:(J7 s.most s.batch s.every).1.heads[0]? = some x) :
  (⟨⟨bt.town.clerk,bt.town.owners++[(Kk n k x).1],bt.town.polls,bt.town.net⟩,bt.reach,bt.fates,bt.events⟩:JI)=Jck s (i+1):=by
 subst hB
 have e:=W3 hx
 subst e
 unfold Jck
 simp only
 congr 2
 exact Jg1 hn hk
theorem Jo6 {s:Kx} {i:Nat} {n:Bb} (hN:nmE (s.names.take i) (s.names.drop i)=nmE [] s.names) (hn:s.names[i]? = some n) (h1:KS n=true) (h2:((s.names.take i).any fun x=>decide (n=x))=false):nmE (s.names.take (i+1)) (s.names.drop (i+1))=nmE [] s.names:=by
 have hl:=(Hs.1 hn)
 rw [← hN,Ht hl.1,hl.2]
 show _=if _ then _ else _
 rw [if_neg (by rw [h1,h2];simp),Hn,hn];rfl
theorem JlY {s:Kx} {i:Nat} {n:Bb} (hN:nmE (s.names.take i) (s.names.drop i)=nmE [] s.names) (hn:s.names[i]? = some n) (h:KS n=false∨((s.names.take i).any fun x=>decide (n=x))=true):nmE [] s.names=3:=by
 have hl:=(Hs.1 hn)
 rw [← hN,Ht hl.1,hl.2]
 show (if _ then _ else _)=_
 rw [if_pos h]
theorem Jio {s:Kx} (h:¬ (J7 s.most s.batch s.every).2=0):QQ s=(J7 s.most s.batch s.every).2∧¬ (J7 s.most s.batch s.every).2=0:=⟨by unfold QQ;rw [if_pos h],h⟩
theorem JjM {s:Kx} (h:(J7 s.most s.batch s.every).2=0) (h1:s.names.length > 4):QQ s=2∧¬ (2:Int)=0:=⟨by unfold QQ;rw [if_neg (by omega),if_pos h1],by decide⟩
theorem JjN {s:Kx} (h:(J7 s.most s.batch s.every).2=0) (h1:¬ s.names.length > 4) (h2:¬ s.keys.length=s.names.length):QQ s=3∧¬ (3:Int)=0:=⟨by unfold QQ;rw [if_neg (by omega),if_neg h1,if_pos h2],by decide⟩
theorem Je5 {s:Kx} (h:(J7 s.most s.batch s.every).2=0) (h1:¬ s.names.length > 4) (h2:s.keys.length=s.names.length) (h3:nmE [] s.names=3):QQ s=3∧¬ (3:Int)=0:=⟨by unfold QQ;rw [if_neg (by omega),if_neg h1,if_neg (by omega),if_pos (by omega),h3],by decide⟩
theorem Jgq {s:Kx} {i:Nat} (hN:nmE (s.names.take i) (s.names.drop i)=nmE [] s.names) (hi:s.names.length≤i):nmE [] s.names=0:=by rw [← hN,List.drop_of_length_le hi];unfold nmE;rfl
theorem JjO {s:Kx} (h:(J7 s.most s.batch s.every).2=0) (h1:¬ s.names.length > 4) (h2:s.keys.length=s.names.length) (h3:nmE [] s.names=0) (h4:¬ (KR s.least s.top s.lost).2=0):QQ s=(KR s.least s.top s.lost).2∧¬ (KR s.least s.top s.lost).2=0:=⟨by unfold QQ;rw [if_neg (by omega),if_neg h1,if_neg (by omega),if_neg (by omega),if_pos h4],h4⟩
theorem Jip {s:Kx} (h:(J7 s.most s.batch s.every).2=0) (h1:¬ s.names.length > 4) (h2:s.keys.length=s.names.length) (h3:nmE [] s.names=0) (h4:(KR s.least s.top s.lost).2=0) (h5:s.reach<1∨s.reach > 40):QQ s=4∧¬ (4:Int)=0:=⟨by unfold QQ;rw [if_neg (by omega),if_neg h1,if_neg (by omega),if_neg (by omega),if_neg (by omega),if_pos h5],by decide⟩
theorem Jm7 {s:Kx} (h:(J7 s.most s.batch s.every).2=0) (h1:¬ s.names.length > 4) (h2:s.keys.length=s.names.length) (h3:nmE [] s.names=0) (h4:(KR s.least s.top s.lost).2=0) (h5:¬ (s.reach<1∨s.reach > 40)):QQ s=0:=by unfold QQ;rw [if_neg (by omega),if_neg h1,if_neg (by omega),if_neg (by omega),if_neg (by omega),if_neg h5]
theorem Jm8 {s:Kx} {bt:JI} {i:Nat} (hB:bt=Jck s i) (hi:s.names.length≤i):QH s=(⟨⟨bt.town.clerk,bt.town.owners,Hc bt.town.owners.length (KR s.least s.top s.lost).1,bt.town.net⟩,bt.reach,bt.fates,bt.events⟩:JI):=by
 subst hB
 have hl:(Z8 s (JlX s)).length≤i:=by unfold Z8;rw [Hj,List.length_zip];omega
 unfold Jck QH JlX
 unfold JlX at hl
 simp only
 rw [Hl hl]
theorem Jiq {s:Kx} (h:(J7 s.most s.batch s.every).2=0):(J7 s.most s.batch s.every).1.heads.length=1:=(Jcf h).2.2.2.2
theorem Jdb {s:Kx} {bt:JI} {i:Nat} (hB:bt=Jck s i):bt.town.owners.length≤s.names.length:=by
 subst hB
 unfold Jck Z8
 simp only [Hk,Hj,List.length_zip];omega
theorem Jhx (a b c:Int):Jhw (KR a b c).1:=by
 by_cases h:(KR a b c).2=0
 ·
  obtain ⟨q1,q2⟩:=Jgh h
  rw [q2];exact .ok q1
 · rw [Jjy h];exact Jim
set_option maxRecDepth 20000 in
set_option maxHeartbeats 1600000 in
theorem Jm9 (G:J5) (vs_s:Bv) (s:Kx) (h_s:Jkk.R G vs_s s):VC Tryz.prog 34 #[.agg vs_s.toArray] G [] (fun u G' L'=>(¬ QQ s=0∧u=.tuple #[.pointer none,I (QQ s)]∧L'=[])∨(QQ s=0∧∃ (b:Nat) (a_1:Ba) (c_1:Nat) (a_5:Ba) (c_5:Nat) (a_6:Ba) (c_6:Nat) (a_7:Ba) (c_7:Nat) (a_8:Ba) (c_8:Nat) (a_10:Ba) (c_10:Nat) (a_12:Ba) (c_12:Nat) (a_13:Ba) (c_13:Nat) (r_7:Bg) (r_8:Bg) (r_12:Bg) (r_13:Bg),u=.tuple #[Pt b 0,I 0]∧(rI ((QH s).town.clerk.queue.most))∧(RS Q6 G' a_1 c_1 ((QH s).town.clerk.queue.wait))∧(rI ((QH s).town.clerk.batch))∧(rI ((QH s).town.clerk.every))∧(rI ((QH s).town.clerk.now))∧(RS KO G' a_5 c_5 ((QH s).town.clerk.heads))∧(RS QA G' a_6 c_6 ((QH s).town.clerk.books))∧(JR Q9 G' a_7 c_7 ((QH s).town.owners) r_7)∧(JR WK G' a_8 c_8 ((QH s).town.polls) r_8)∧(rI ((QH s).town.net.now))∧(RS Kn G' a_10 c_10 ((QH s).town.net.way))∧(rI ((QH s).reach))∧(JR VG G' a_12 c_12 ((QH s).fates) r_12)∧(JR Wn G' a_13 c_13 ((QH s).events) r_13)∧L'=[[Sg b 0 [I ((QH s).town.clerk.queue.most),Sl a_1 (((QH s).town.clerk.queue.wait).length) c_1,I ((QH s).town.clerk.batch),I ((QH s).town.clerk.every),I ((QH s).town.clerk.now),Sl a_5 (((QH s).town.clerk.heads).length) c_5,Sl a_6 (((QH s).town.clerk.books).length) c_6,Sl a_7 (((QH s).town.owners).length) c_7,Sl a_8 (((QH s).town.polls).length) c_8,I ((QH s).town.net.now),Sl a_10 (((QH s).town.net.way).length) c_10,I ((QH s).reach),Sl a_12 (((QH s).fates).length) c_12,Sl a_13 (((QH s).events).length) c_13]],r_7,r_8,r_12,r_13])):=by
 obtain ⟨a1,c1,a2,c2,rfl,hs1,hs2,w1,w2,w3,w4,w5,w6,w7⟩:=h_s
 refine JP Tryz.func34 130 [(0,(YK s a1 c1 a2 c2))] rfl (fun w0 G0=>?_)
 refine Jf (Jd (Jv 1 #[Sl a1 s.names.length c1,Sl a2 s.keys.length c2,I s.most,I s.batch,I s.every,I s.least,I s.top,I s.lost,I s.reach] 72 (fun b1=>Jb [0,0] [] (Je (Jc (Jf (Jd (Jb [0,2,0,2,0,2] [(14,I s.most),(16,I s.batch),(18,I s.every)] (JN 19 (Jig G s.most w1 s.batch w2 s.every w3) (fun v G1 L1 hl1 hp=>?_))))))))))
 obtain ⟨a3,c3,a4,c4,a5,c5,rfl,w8,hs3,w9,w10,w11,hs4,hs5,rfl⟩:=hp
 refine Jb [0,0,0] [(20,(QG (J7 s.most s.batch s.every).1 a3 c3 a4 c4 a5 c5)),(21,I ((J7 s.most s.batch s.every).2))] (Jv 4 #[I 0,Sl none 0 0,I 0,I 0,I 0,Sl none 0 0,Sl none 0 0] 60 (fun b2=>JW [3,0] [(5,I ((J7 s.most s.batch s.every).2))] [[Sg b2 0 (KW (J7 s.most s.batch s.every).1 a3 c3 a4 c4 a5 c5)],[Sg b1 0 (WI s a1 c1 a2 c2)]] (Je (Jc (Jf (Jg [0,0] [(23,Bo (!decide ((J7 s.most s.batch s.every).2=0)))] (Jl (!decide ((J7 s.most s.batch s.every).2=0)) (fun h1=>?_) (fun h1=>?_))))))))
 refine Jg [0,0,0] [(2,.pointer none),(3,I ((J7 s.most s.batch s.every).2))] (Jn (Jj ?_))
 have hf1:QQ s=(J7 s.most s.batch s.every).2∧¬ ((J7 s.most s.batch s.every).2)=0:=by
  exact Jio ‹_›
 refine Jo [0,0] [.pointer none,I ((J7 s.most s.batch s.every).2)] (JD [] hl1 ?_)
 rw [← hf1.1];exact .inl ⟨by rw [hf1.1];exact hf1.2,rfl,rfl⟩
 refine Jq (Jc (Jf (Jy (Jg [0,4,0,0,0] [(25,Bo (decide ((s.names.length:Int) > 4)))] (Jl (decide ((s.names.length:Int) > 4)) (fun h2=>?_) (fun h2=>?_))))))
 refine Jg [0,0] [(2,.pointer none),(3,I 2)] (Jn (Ju (Jj ?_)))
 have hf2:QQ s=2∧¬ (2:Int)=0:=by
  exact JjM ‹_› (by omega)
 refine Jo [0,0] [.pointer none,I 2] (JD [] hl1 ?_)
 rw [← hf2.1];exact .inl ⟨by rw [hf2.1];exact hf2.2,rfl,rfl⟩
 refine Jg [0,4,0,0,4,0,0,0] [(30,Bo (!decide ((s.keys.length:Int)=(s.names.length:Int))))] (Jl (!decide ((s.keys.length:Int)=(s.names.length:Int))) (fun h3=>?_) (fun h3=>?_))
 refine Jg [0,0] [(2,.pointer none),(3,I 3)] (Jn (Ju (Jj ?_)))
 have hf3:QQ s=3∧¬ (3:Int)=0:=by
  exact JjN ‹_› J4 (by omega)
 refine Jo [0,0] [.pointer none,I 3] (JD [] hl1 ?_)
 rw [← hf3.1];exact .inl ⟨by rw [hf3.1];exact hf3.2,rfl,rfl⟩
 refine Jq (JM (Jc (Jf (Jd (Jb [0,4,0] [(40,.agg #[I 0,Sl none 0 0,I 0,I 0,I 0,Sl none 0 0,Sl none 0 0,Sl none 0 0,Sl none 0 0,I 0,Sl none 0 0,I s.reach,Sl none 0 0,Sl none 0 0])] (Jv 41 #[I 0,Sl none 0 0,I 0,I 0,I 0,Sl none 0 0,Sl none 0 0,Sl none 0 0,Sl none 0 0,I 0,Sl none 0 0,I s.reach,Sl none 0 0,Sl none 0 0] 107 (fun b3=>Jb [0] [(6,Pt b3 0)] (Je (Jc (QF [0,4,0,0,0,3] [] [[Sg b3 0 [I (((J7 s.most s.batch s.every).1).queue.most),Sl a3 ((((J7 s.most s.batch s.every).1).queue.wait).length) c3,I (((J7 s.most s.batch s.every).1).batch),I (((J7 s.most s.batch s.every).1).every),I (((J7 s.most s.batch s.every).1).now),Sl a4 ((((J7 s.most s.batch s.every).1).heads).length) c4,Sl a5 ((((J7 s.most s.batch s.every).1).books).length) c5,Sl none 0 0,Sl none 0 0,I 0,Sl none 0 0,I s.reach,Sl none 0 0,Sl none 0 0]],[Sg b2 0 (KW (J7 s.most s.batch s.every).1 a3 c3 a4 c4 a5 c5)],[Sg b1 0 (WI s a1 c1 a2 c2)]] (Jf (Jg [0,6,0,0] [(48,Sl a1 s.names.length c1),(49,I (s.names.length:Int)),(50,I 0)] (Jy (ZA (ZA (ZA (ZA ?_)))))))))))))))))
 have hlm_hs1:s.names.length≤9223372036854775807:=Ho (hs1).le (hs1).max
 refine Qc (σ:=Nat×JI×Ba×Nat×Ba×Nat×Ba×Nat×Ba×Nat×Bg×Ba×Nat×Bg×Ba×Nat×Ba×Nat×Bg×Ba×Nat×Bg×J5) (fun q_=>(J5.le G1 q_.2.2.2.2.2.2.2.2.2.2.2.2.2.2.2.2.2.2.2.2.2.2)∧(q_.1≤s.names.length)∧(RS Q6 q_.2.2.2.2.2.2.2.2.2.2.2.2.2.2.2.2.2.2.2.2.2.2 q_.2.2.1 q_.2.2.2.1 q_.2.1.town.clerk.queue.wait)∧(RS KO q_.2.2.2.2.2.2.2.2.2.2.2.2.2.2.2.2.2.2.2.2.2.2 q_.2.2.2.2.1 q_.2.2.2.2.2.1 q_.2.1.town.clerk.heads)∧(RS QA q_.2.2.2.2.2.2.2.2.2.2.2.2.2.2.2.2.2.2.2.2.2.2 q_.2.2.2.2.2.2.1 q_.2.2.2.2.2.2.2.1 q_.2.1.town.clerk.books)∧(JR Q9 q_.2.2.2.2.2.2.2.2.2.2.2.2.2.2.2.2.2.2.2.2.2.2 q_.2.2.2.2.2.2.2.2.1 q_.2.2.2.2.2.2.2.2.2.1 q_.2.1.town.owners q_.2.2.2.2.2.2.2.2.2.2.1)∧(JR WK q_.2.2.2.2.2.2.2.2.2.2.2.2.2.2.2.2.2.2.2.2.2.2 q_.2.2.2.2.2.2.2.2.2.2.2.1 q_.2.2.2.2.2.2.2.2.2.2.2.2.1 q_.2.1.town.polls q_.2.2.2.2.2.2.2.2.2.2.2.2.2.1)∧(RS Kn q_.2.2.2.2.2.2.2.2.2.2.2.2.2.2.2.2.2.2.2.2.2.2 q_.2.2.2.2.2.2.2.2.2.2.2.2.2.2.1 q_.2.2.2.2.2.2.2.2.2.2.2.2.2.2.2.1 q_.2.1.town.net.way)∧(JR VG q_.2.2.2.2.2.2.2.2.2.2.2.2.2.2.2.2.2.2.2.2.2.2 q_.2.2.2.2.2.2.2.2.2.2.2.2.2.2.2.2.1 q_.2.2.2.2.2.2.2.2.2.2.2.2.2.2.2.2.2.1 q_.2.1.fates q_.2.2.2.2.2.2.2.2.2.2.2.2.2.2.2.2.2.2.1)∧(JR Wn q_.2.2.2.2.2.2.2.2.2.2.2.2.2.2.2.2.2.2.2.2.2.2 q_.2.2.2.2.2.2.2.2.2.2.2.2.2.2.2.2.2.2.2.1 q_.2.2.2.2.2.2.2.2.2.2.2.2.2.2.2.2.2.2.2.2.1 q_.2.1.events q_.2.2.2.2.2.2.2.2.2.2.2.2.2.2.2.2.2.2.2.2.2.1)∧(rI q_.2.1.town.clerk.queue.most)∧(rI q_.2.1.town.clerk.batch)∧(rI q_.2.1.town.clerk.every)∧(rI q_.2.1.town.clerk.now)∧(rI q_.2.1.town.net.now)∧(rI q_.2.1.reach)∧(q_.2.1=Jck s q_.1)∧(nmE (s.names.take q_.1) (s.names.drop q_.1)=nmE [] s.names)) (fun q_=>[(1,Pt b1 0),(4,Pt b2 0),(6,Pt b3 0),(48,Sl a1 s.names.length c1),(49,I (s.names.length:Int)),(50,I (q_.1:Int))]) (fun q_=>q_.2.2.2.2.2.2.2.2.2.2.2.2.2.2.2.2.2.2.2.2.2.2) (fun q_=>[q_.2.2.2.2.2.2.2.2.2.2.2.2.2.2.2.2.2.2.2.2.2.1,q_.2.2.2.2.2.2.2.2.2.2.2.2.2.2.2.2.2.2.1,q_.2.2.2.2.2.2.2.2.2.2.2.2.2.1,q_.2.2.2.2.2.2.2.2.2.2.1,[Sg b3 0 (Ke q_.2.1 q_.2.2.1 q_.2.2.2.1 q_.2.2.2.2.1 q_.2.2.2.2.2.1 q_.2.2.2.2.2.2.1 q_.2.2.2.2.2.2.2.1 q_.2.2.2.2.2.2.2.2.1 q_.2.2.2.2.2.2.2.2.2.1 q_.2.2.2.2.2.2.2.2.2.2.2.1 q_.2.2.2.2.2.2.2.2.2.2.2.2.1 q_.2.2.2.2.2.2.2.2.2.2.2.2.2.2.1 q_.2.2.2.2.2.2.2.2.2.2.2.2.2.2.2.1 q_.2.2.2.2.2.2.2.2.2.2.2.2.2.2.2.2.1 q_.2.2.2.2.2.2.2.2.2.2.2.2.2.2.2.2.2.1 q_.2.2.2.2.2.2.2.2.2.2.2.2.2.2.2.2.2.2.2.1 q_.2.2.2.2.2.2.2.2.2.2.2.2.2.2.2.2.2.2.2.2.1)],[Sg b2 0 (KW (J7 s.most s.batch s.every).1 a3 c3 a4 c4 a5 c5)],[Sg b1 0 (WI s a1 c1 a2 c2)]]) (fun q_=>s.names.length-q_.1) (0,(⟨(⟨((J7 s.most s.batch s.every).1),([]:List Qp),([]:List We),(⟨0,[]⟩:Ve)⟩:Wl),s.reach,([]:List (List Int)),([]:List Yj)⟩:JI),a3,c3,a4,c4,a5,c5,none,0,[],none,0,[],none,0,none,0,[],none,0,[],G1) ⟨(Jh _),(by (try dsimp only);exact Hr _),hs3,hs4,hs5,(JR.none Q9 _),(JR.none WK _),(J2 Kn G1),(JR.none VG _),(JR.none Wn _),w8,w9,w10,w11,(by (try dsimp only);omega),w7,(by (try dsimp only);rfl),rfl⟩ (fun q_ hs=>?_)
 obtain ⟨i,bt,abt0,cbt0,abt1,cbt1,abt2,cbt2,abt3,cbt3,rbt7,abt4,cbt4,rbt8,abt5,cbt5,abt6,cbt6,rbt12,abt7,cbt7,rbt13,g⟩:=q_
 obtain ⟨hle,hi,hbt1,hbt5,hbt6,hbt7,hbt8,hbt10,hbt12,hbt13,hbt0,hbt2,hbt3,hbt4,hbt9,hbt11,hB,hN⟩:=hs
 dsimp only at hle hi hbt1 hbt5 hbt6 hbt7 hbt8 hbt10 hbt12 hbt13 hbt0 hbt2 hbt3 hbt4 hbt9 hbt11 hB hN
 dsimp only
 refine Jg [0] [(51,Bo (decide ((i:Int)<(s.names.length:Int))))] (Jf (Jl (decide ((i:Int)<(s.names.length:Int))) (fun h4=>?_) (fun h4=>?_)))
 refine Jq (Jc (Jf (Jy (Jf (Jd (Jb [0] [(52,I (i:Int))] ?_))))))
 obtain ⟨b4,o1,rfl⟩:=RS.addr (hs1.mono (Ja hl1 hle)) (k:=i) (by omega)
 obtain ⟨x1,hx1⟩:=QS (l:=s.names) (k:=i) (by omega)
 obtain ⟨_,⟨rfl,w12⟩,hc1⟩:=RS.get (hs1.mono (Ja hl1 hle)) hx1
 refine JV (b:=b4) (off:=o1) (len:=s.names.length) (cap:=c1) (ik:=.i64) 53 9 1 i J4 (JO 54 9 (cs:=[Sr x1]) 0 (Sr x1) hc1 (Jb [0,0] [(7,I (i:Int)),(8,Sr x1)] (Je (Jc (Jf (Jf (Jd (Jb [0] [(55,Sr x1)] (Jm 56 (Bo (KS x1)) (Z4 g x1) (Jb [0,0] [(58,Bo (!(KS x1)))] (QR [58] (!(KS x1)) (fun h5=>?_) (fun h5=>?_))))))))))))
 refine Jb [1,1,1,1,1,1,0] [(65,Bo true)] (Je (Jc (J0 (Jg [0,0] [(2,.pointer none),(3,I 3)] (Jn (Jj (Ju (Jj (QV (Ju (Jj ?_)))))))))))
 have hf4:QQ s=3∧¬ (3:Int)=0:=by
  exact Je5 ‹_› J4 J4 (JlY hN ‹_› (.inl ‹_›))
 refine Jo [0,0] [.pointer none,I 3] (JD [] (Ja hl1 hle) ?_)
 rw [← hf4.1];exact .inl ⟨by rw [hf4.1];exact hf4.2,rfl,rfl⟩
 refine Jb [0,14,0] [(60,Sl (At b4 o1) s.names.length c1),(61,I (i:Int))] ?_
 obtain ⟨a6,c6,ea1,ec1,en1,eh1,hs6⟩:=RS.reslXT (hs1.mono (Ja hl1 hle)) i (by omega)
 refine Ws (a:=At b4 o1) (len:=s.names.length) (cap:=c1) 62 1 none (some (I (i:Int))) 0 i (.inl ⟨rfl,rfl⟩) (.inr ⟨_,rfl⟩) (by exact Hr _) ea1 ec1 en1 eh1 (Jb [0] [(63,Sr x1)] (Jm 64 (Bo ((s.names.take i).any (fun x=>decide (x1=x)))) (JpP g a6 c6 (s.names.take i) hs6 x1) (Jb [0] [(65,Bo ((s.names.take i).any (fun x=>decide (x1=x))))] (Je (Jc (Jl ((s.names.take i).any (fun x=>decide (x1=x))) (fun h6=>?_) (fun h6=>?_)))))))
 refine Jg [0,0] [(2,.pointer none),(3,I 3)] (Jn (Jj (Ju (Jj (QV (Ju (Jj ?_)))))))
 have hf5:QQ s=3∧¬ (3:Int)=0:=by
  exact Je5 ‹_› J4 J4 (JlY hN ‹_› (.inr ‹_›))
 refine Jo [0,0] [.pointer none,I 3] (JD [] (Ja hl1 hle) ?_)
 rw [← hf5.1];exact .inl ⟨by rw [hf5.1];exact hf5.2,rfl,rfl⟩
 refine Jq (Jc ?_)
 obtain ⟨b5,o2,rfl⟩:=RS.addr (hs2.mono (Ja hl1 hle)) (k:=i) (by omega)
 obtain ⟨x2,hx2⟩:=QS (l:=s.keys) (k:=i) (by omega)
 obtain ⟨_,⟨rfl,w13⟩,hc2⟩:=RS.get (hs2.mono (Ja hl1 hle)) hx2
 obtain ⟨b6,o3,rfl⟩:=RS.addr (hs4.mono hle) (k:=0) (by (have q_:=Jiq ‹_›;omega))
 obtain ⟨x3,hx3⟩:=QS (l:=((J7 s.most s.batch s.every).1).heads) (k:=0) (by (have q_:=Jiq ‹_›;omega))
 obtain ⟨_,⟨rfl,w14,w15,w16,w17⟩,hc3⟩:=RS.get (hs4.mono hle) hx3
 refine Ye (σ:=Nat×Ba×Nat×J5) (fun q_=>(J5.le g q_.2.2.2)∧((((Kk x1 x2 x3).1).name).length≤140737488351232)∧(rU (((Kk x1 x2 x3).1).key))∧(rI (((Kk x1 x2 x3).1).head.epoch))∧(rU (((Kk x1 x2 x3).1).head.root))∧(rU (((Kk x1 x2 x3).1).head.prev))∧(rI (((Kk x1 x2 x3).1).head.at_))∧(RS ES q_.2.2.2 q_.2.1 q_.2.2.1 (((Kk x1 x2 x3).1).wanted))∧(rI (((Kk x1 x2 x3).1).had))∧(RS Q6 q_.2.2.2 abt0 cbt0 bt.town.clerk.queue.wait)∧(rI bt.town.clerk.batch)∧(rI bt.town.clerk.every)∧(rI bt.town.clerk.now)∧(RS KO q_.2.2.2 abt1 cbt1 bt.town.clerk.heads)∧(RS QA q_.2.2.2 abt2 cbt2 bt.town.clerk.books)∧(JR Q9 q_.2.2.2 abt3 cbt3 bt.town.owners rbt7)∧(JR WK q_.2.2.2 abt4 cbt4 bt.town.polls rbt8)∧(rI bt.town.net.now)∧(RS Kn q_.2.2.2 abt5 cbt5 bt.town.net.way)∧(rI bt.reach)∧(JR VG q_.2.2.2 abt6 cbt6 bt.fates rbt12)∧(JR Wn q_.2.2.2 abt7 cbt7 bt.events rbt13)) (fun q_=>[(1,Pt b1 0),(4,Pt b2 0),(6,Pt b3 0),(9,Pt q_.1 0),(48,Sl (At b4 o1) s.names.length c1),(49,I (s.names.length:Int)),(50,I (i:Int))]) (fun q_=>q_.2.2.2) (fun q_=>[[Sg q_.1 0 (KU (Kk x1 x2 x3).1 q_.2.1 q_.2.2.1)],rbt13,rbt12,rbt8,rbt7,[Sg b3 0 (Ke bt abt0 cbt0 abt1 cbt1 abt2 cbt2 abt3 cbt3 abt4 cbt4 abt5 cbt5 abt6 cbt6 abt7 cbt7)],[Sg b2 0 (KW (J7 s.most s.batch s.every).1 a3 c3 (At b6 o3) c4 a5 c5)],[Sg b1 0 (WI s (At b4 o1) c1 (At b5 o2) c2)]]) ?_ (fun q_ hs=>?_)
 refine Kt [10,14,15] (Wm [(0,Sr x1),(1,Pt b1 1),(2,Sl (At b5 o2) s.keys.length c2),(3,I (i:Int)),(4,Pt b5 (o2+i*1)),(5,U x2),(6,Pt b2 5),(7,Sl (At b6 o3) ((((J7 s.most s.batch s.every).1).heads).length) c4),(8,Pt b6 (o3+0*4)),(9,.agg #[I x3.epoch,U x3.root,U x3.prev,I x3.at_])] (JF [] [(0,0),(1,0),(2,14),(3,0),(6,0),(7,12)] [4,5,8,9] [10,14] (Kf ?_ (Kf ?_ (Kf ?_ (Kf ?_ KY)))) (Kf ?_ (Kf ?_ KY))))
 refine Jr 4 71 (Pt b5 (o2+i*1)) [(69,Sl (At b5 o2) s.keys.length c2),(70,I (i:Int))] (fun X=>?_)
 exact JV (b:=b5) (off:=o2) (len:=s.keys.length) (cap:=c2) (ik:=.i64) 71 41 1 i J4 Jp
 refine Jr 5 72 (U x2) [(71,Pt b5 (o2+i*1))] (fun X=>?_)
 exact JO 72 41 (cs:=[U x2]) 0 (U x2) hc2 Jp
 refine Jr 8 75 (Pt b6 (o3+0*4)) [(74,Sl (At b6 o3) ((((J7 s.most s.batch s.every).1).heads).length) c4)] (fun X=>?_)
 exact JV (b:=b6) (off:=o3) (len:=(((J7 s.most s.batch s.every).1).heads).length) (cap:=c4) (ik:=.i64) 75 43 4 0 (by (have q_:=Jiq ‹_›;omega)) Jp
 refine Jr 9 76 (.agg #[I x3.epoch,U x3.root,U x3.prev,I x3.at_]) [(75,Pt b6 (o3+0*4))] (fun X=>?_)
 exact JO 76 43 (cs:=[I x3.epoch,U x3.root,U x3.prev,I x3.at_]) 0 (.agg #[I x3.epoch,U x3.root,U x3.prev,I x3.at_]) hc3 Jp
 refine Jz 10 [(67,Sr x1),(72,U x2),(76,.agg #[I x3.epoch,U x3.root,U x3.prev,I x3.at_])] (fun X=>?_)
 refine JN 77 (JdJ g x1 w12 x2 w13 [I x3.epoch,U x3.root,U x3.prev,I x3.at_] x3 (⟨rfl,w14,w15,w16,w17⟩)) (fun v G2 L1 hl2 hp=>?_)
 obtain ⟨a7,c7,rfl,w18,w19,w20,w21,w22,w23,hs7,w24,rfl⟩:=hp
 refine JA [(10,.tuple #[(KF (Kk x1 x2 x3).1 a7 c7),I ((Kk x1 x2 x3).2)]),(11,.tuple #[(KF (Kk x1 x2 x3).1 a7 c7),I ((Kk x1 x2 x3).2)]),(12,(KF (Kk x1 x2 x3).1 a7 c7)),(13,I ((Kk x1 x2 x3).2))] (JF [0,1,2,3,4,5,6,7,8,9] [(11,0),(12,0),(13,0)] [] [14] (Ha _) (Kf ?_ KY))
 refine Jz 14 [] (fun X=>?_)
 refine Jv 9 #[Sr ([]),U 0,I 0,U 0,U 0,I 0,Sl none 0 0,I 0] 76 (fun b7=>JA [(14,Pt b7 0)] (JF [0,1,2,3,4,5,6,7,8,9] [(11,0),(12,0),(13,0)] [] [15] (Ha _) (Kf ?_ KY)))
 refine Jz 15 [(9,Pt b7 0),(78,(KF (Kk x1 x2 x3).1 a7 c7))] (fun X=>?_)
 exact KC 0 [[Sg b7 0 (KU (Kk x1 x2 x3).1 a7 c7)],rbt13,rbt12,rbt8,rbt7,[Sg b3 0 (Ke bt abt0 cbt0 abt1 cbt1 abt2 cbt2 abt3 cbt3 abt4 cbt4 abt5 cbt5 abt6 cbt6 abt7 cbt7)],[Sg b2 0 (KW (J7 s.most s.batch s.every).1 a3 c3 (At b6 o3) c4 a5 c5)],[Sg b1 0 (WI s (At b4 o1) c1 (At b5 o2) c2)]] (J6 [(16,I ((Kk x1 x2 x3).2))] (Kl [0,1,2,3,4,5,6,7,8,9,11,12] [(13,0),(16,0)] [] [(1,Pt b1 0),(4,Pt b2 0),(6,Pt b3 0),(9,Pt b7 0),(48,Sl (At b4 o1) s.names.length c1),(49,I (s.names.length:Int)),(50,I (i:Int))] (Ha _) (QW (b7,a7,c7,G2) ⟨hl2,w18,w19,w20,w21,w22,w23,hs7,w24,(hbt1.mono hl2),hbt2,hbt3,hbt4,(hbt5.mono hl2),(hbt6.mono hl2),(hbt7.mono hl2),(hbt8.mono hl2),hbt9,(hbt10.mono hl2),hbt11,(hbt12.mono hl2),(hbt13.mono hl2)⟩)))
 refine Jz 14 [] (fun X=>?_)
 refine Jv 9 #[Sr ([]),U 0,I 0,U 0,U 0,I 0,Sl none 0 0,I 0] 76 (fun b8=>JA [(14,Pt b8 0)] (JF [] [(0,0),(1,0),(2,16),(3,0),(6,0),(7,14)] [4,5,8,9] [10] (Kf ?_ (Kf ?_ (Kf ?_ (Kf ?_ KY)))) (Kf ?_ KY)))
 refine Jr 4 71 (Pt b5 (o2+i*1)) [(69,Sl (At b5 o2) s.keys.length c2),(70,I (i:Int))] (fun X=>?_)
 exact JV (b:=b5) (off:=o2) (len:=s.keys.length) (cap:=c2) (ik:=.i64) 71 41 1 i J4 Jp
 refine Jr 5 72 (U x2) [(71,Pt b5 (o2+i*1))] (fun X=>?_)
 exact JO 72 41 (cs:=[U x2]) 0 (U x2) hc2 Jp
 refine Jr 8 75 (Pt b6 (o3+0*4)) [(74,Sl (At b6 o3) ((((J7 s.most s.batch s.every).1).heads).length) c4)] (fun X=>?_)
 exact JV (b:=b6) (off:=o3) (len:=(((J7 s.most s.batch s.every).1).heads).length) (cap:=c4) (ik:=.i64) 75 43 4 0 (by (have q_:=Jiq ‹_›;omega)) Jp
 refine Jr 9 76 (.agg #[I x3.epoch,U x3.root,U x3.prev,I x3.at_]) [(75,Pt b6 (o3+0*4))] (fun X=>?_)
 exact JO 76 43 (cs:=[I x3.epoch,U x3.root,U x3.prev,I x3.at_]) 0 (.agg #[I x3.epoch,U x3.root,U x3.prev,I x3.at_]) hc3 Jp
 refine Jz 10 [(67,Sr x1),(72,U x2),(76,.agg #[I x3.epoch,U x3.root,U x3.prev,I x3.at_])] (fun X=>?_)
 refine JN 77 (JdJ g x1 w12 x2 w13 [I x3.epoch,U x3.root,U x3.prev,I x3.at_] x3 (⟨rfl,w14,w15,w16,w17⟩)) (fun v G3 L1 hl3 hp=>?_)
 obtain ⟨a8,c8,rfl,w25,w26,w27,w28,w29,w30,hs8,w31,rfl⟩:=hp
 refine JA [(10,.tuple #[(KF (Kk x1 x2 x3).1 a8 c8),I ((Kk x1 x2 x3).2)]),(11,.tuple #[(KF (Kk x1 x2 x3).1 a8 c8),I ((Kk x1 x2 x3).2)]),(12,(KF (Kk x1 x2 x3).1 a8 c8)),(13,I ((Kk x1 x2 x3).2))] (JF [0,1,2,3,4,5,6,7,8,9] [(11,0),(12,0),(13,0)] [] [15] (Ha _) (Kf ?_ KY))
 refine Jz 15 [(9,Pt b8 0),(78,(KF (Kk x1 x2 x3).1 a8 c8))] (fun X=>?_)
 exact KC 0 [[Sg b8 0 (KU (Kk x1 x2 x3).1 a8 c8)],rbt13,rbt12,rbt8,rbt7,[Sg b3 0 (Ke bt abt0 cbt0 abt1 cbt1 abt2 cbt2 abt3 cbt3 abt4 cbt4 abt5 cbt5 abt6 cbt6 abt7 cbt7)],[Sg b2 0 (KW (J7 s.most s.batch s.every).1 a3 c3 (At b6 o3) c4 a5 c5)],[Sg b1 0 (WI s (At b4 o1) c1 (At b5 o2) c2)]] (J6 [(16,I ((Kk x1 x2 x3).2))] (Kl [0,1,2,3,4,5,6,7,8,9,11,12] [(13,0),(16,0)] [] [(1,Pt b1 0),(4,Pt b2 0),(6,Pt b3 0),(9,Pt b8 0),(48,Sl (At b4 o1) s.names.length c1),(49,I (s.names.length:Int)),(50,I (i:Int))] (Ha _) (QW (b8,a8,c8,G3) ⟨hl3,w25,w26,w27,w28,w29,w30,hs8,w31,(hbt1.mono hl3),hbt2,hbt3,hbt4,(hbt5.mono hl3),(hbt6.mono hl3),(hbt7.mono hl3),(hbt8.mono hl3),hbt9,(hbt10.mono hl3),hbt11,(hbt12.mono hl3),(hbt13.mono hl3)⟩)))
 obtain ⟨b7,a7,c7,G2⟩:=q_
 obtain ⟨hle1,hj1,hj2,hj3,hj4,hj5,hj6,hj7,hj8,hj9,hj10,hj11,hj12,hj13,hj14,hj15,hj16,hj17,hj18,hj19,hj20,hj21⟩:=hs
 dsimp only at hle1 hj1 hj2 hj3 hj4 hj5 hj6 hj7 hj8 hj9 hj10 hj11 hj12 hj13 hj14 hj15 hj16 hj17 hj18 hj19 hj20 hj21
 dsimp only
 refine Kt [7,8,12] (Wm [(0,Pt b3 0),(1,Pt b3 0),(2,Pt b3 0),(3,Pt b3 0),(4,Pt b3 7),(5,Sl abt3 bt.town.owners.length cbt3),(6,(KF (Kk x1 x2 x3).1 a7 c7))] (JF [] [(0,0),(1,0),(2,0),(3,0),(4,0),(5,12),(6,2)] [] [7] (Ha _) (Kf ?_ KY)))
 refine Jz 7 [(86,(KF (Kk x1 x2 x3).1 a7 c7))] (fun X=>?_)
 refine Km 87 1 #[Sr (((Kk x1 x2 x3).1).name),U (((Kk x1 x2 x3).1).key),I (((Kk x1 x2 x3).1).head.epoch),U (((Kk x1 x2 x3).1).head.root),U (((Kk x1 x2 x3).1).head.prev),I (((Kk x1 x2 x3).1).head.at_),Sl a7 ((((Kk x1 x2 x3).1).wanted).length) c7,I (((Kk x1 x2 x3).1).had)] 76 (fun b9=>JA [(7,Sl (At b9 0) 1 1)] (JF [6] [(0,0),(1,0),(2,0),(3,0),(4,0),(5,14)] [] [8] (Ha _) (Kf ?_ KY)))
 refine Jz 8 [(85,Sl abt3 bt.town.owners.length cbt3),(87,Sl (At b9 0) 1 1)] (fun X=>?_)
 refine Qd (b:=b9) (cs:=(KU (Kk x1 x2 x3).1 a7 c7)) 88 76 5 0 (E:=Q9) ((Kk x1 x2 x3).1) hj15 ⟨a7,c7,rfl,hj1,hj2,hj3,hj4,hj5,hj6,hj7,hj8⟩ (by (try simp only [Q9,He,Hd,Hg]);(have q_:=Jdb hB);omega) (by (try simp only [Q9,He,Hd,Hg]);(have q_:=Jdb hB);omega) (fun a9 c9 r1 hr1=>JA [(8,Sl a9 ((bt.town.owners++[((Kk x1 x2 x3).1)]).length) c9),(9,Pt b3 0),(10,Pt b3 0),(11,Pt b3 7)] (JF [1,2,3,4,5,6] [(0,0),(9,0),(10,0),(11,0)] [] [12] (Ha _) (Kf ?_ KY)))
 refine Jz 12 [(88,Sl a9 ((bt.town.owners++[((Kk x1 x2 x3).1)]).length) c9),(91,Pt b3 7)] (fun X=>?_)
 refine KC 6 [[Sg b9 0 (KU (Kk x1 x2 x3).1 a7 c7)],[Sg b7 0 (KU (Kk x1 x2 x3).1 a7 c7)],rbt13,rbt12,rbt8,r1,[Sg b3 0 (Ke (⟨(⟨bt.town.clerk,(bt.town.owners++[((Kk x1 x2 x3).1)]),bt.town.polls,bt.town.net⟩:Wl),bt.reach,bt.fates,bt.events⟩:JI) abt0 cbt0 abt1 cbt1 abt2 cbt2 a9 c9 abt4 cbt4 abt5 cbt5 abt6 cbt6 abt7 cbt7)],[Sg b2 0 (KW (J7 s.most s.batch s.every).1 a3 c3 (At b6 o3) c4 a5 c5)],[Sg b1 0 (WI s (At b4 o1) c1 (At b5 o2) c2)]] (J6 [] (Kl [0,1,2,3,4,5,6,9,10,11] [] [] [(1,Pt b1 0),(4,Pt b2 0),(6,Pt b3 0),(48,Sl (At b4 o1) s.names.length c1),(49,I (s.names.length:Int)),(50,I (i:Int))] (Ha _) (JM (Jc (Jd (Jb [0,0] [(50,I (Hi.wrap ((i:Int)+1)))] (Kp 50 ((i:Int)+1) J4 (Je (Jk 8 (Jk 8 (Jk 8 (Jk 8 ?_))))))))))))
 refine Jk 8 (Jk 8 (Jk 8 ?_))
 exact Qy [rbt13,rbt12,rbt8,r1,[Sg b3 0 (Ke (⟨(⟨bt.town.clerk,(bt.town.owners++[((Kk x1 x2 x3).1)]),bt.town.polls,bt.town.net⟩:Wl),bt.reach,bt.fates,bt.events⟩:JI) abt0 cbt0 abt1 cbt1 abt2 cbt2 a9 c9 abt4 cbt4 abt5 cbt5 abt6 cbt6 abt7 cbt7)],[Sg b2 0 (KW (J7 s.most s.batch s.every).1 a3 c3 (At b6 o3) c4 a5 c5)],[Sg b1 0 (WI s (At b4 o1) c1 (At b5 o2) c2)]] (Qh (i+1,(⟨(⟨bt.town.clerk,bt.town.owners++[((Kk x1 x2 x3).1)],bt.town.polls,bt.town.net⟩:Wl),bt.reach,bt.fates,bt.events⟩:JI),abt0,cbt0,abt1,cbt1,abt2,cbt2,a9,c9,r1,abt4,cbt4,rbt8,abt5,cbt5,abt6,cbt6,rbt12,abt7,cbt7,rbt13,G2) ⟨(Ja hle hle1),J4,hj9,hj13,hj14,hr1,hj16,hj18,hj20,hj21,‹_›,‹_›,‹_›,‹_›,‹_›,‹_›,(by (try dsimp only);exact JjL hB ‹_› ‹_› ‹_›),(by (try dsimp only);exact Jo6 hN ‹_› ‹_› ‹_›)⟩ (by (try dsimp only);omega))
 refine KX (J1 (Kd (JS (Jc (Jf (Jd (Jb [0,14,0,14,0,14] [(95,I s.least),(97,I s.top),(99,I s.lost)] (Jm 100 (.tuple #[(Vh (KR s.least s.top s.lost).1),I ((KR s.least s.top s.lost).2)]) (JjA g s.least w4 s.top w5 s.lost w6) (Jb [0,0,0] [(101,(Vh (KR s.least s.top s.lost).1)),(102,I ((KR s.least s.top s.lost).2))] (Jv 11 #[I 0,I 0,I 0,I 0,I 0,I 0] 143 (fun b10=>JW [3,0] [(5,I ((KR s.least s.top s.lost).2))] [[Sg b10 0 (Vd (KR s.least s.top s.lost).1)],rbt13,rbt12,rbt8,rbt7,[Sg b3 0 (Ke bt abt0 cbt0 abt1 cbt1 abt2 cbt2 abt3 cbt3 abt4 cbt4 abt5 cbt5 abt6 cbt6 abt7 cbt7)],[Sg b2 0 (KW (J7 s.most s.batch s.every).1 a3 c3 a4 c4 a5 c5)],[Sg b1 0 (WI s a1 c1 a2 c2)]] (Je (Jc (Jf (Jy (Jg [0,0,0] [(103,Bo (!decide ((KR s.least s.top s.lost).2=0)))] (Jl (!decide ((KR s.least s.top s.lost).2=0)) (fun h7=>?_) (fun h7=>?_))))))))))))))))))
 refine Jg [0,0,0] [(2,.pointer none),(3,I ((KR s.least s.top s.lost).2))] (Jn (Ju (Jj ?_)))
 have hf6:QQ s=(KR s.least s.top s.lost).2∧¬ ((KR s.least s.top s.lost).2)=0:=by
  exact JjO ‹_› J4 J4 (Jgq hN J4) ‹_›
 refine Jo [0,0] [.pointer none,I ((KR s.least s.top s.lost).2)] (JD [] (Ja hl1 hle) ?_)
 rw [← hf6.1];exact .inl ⟨by rw [hf6.1];exact hf6.2,rfl,rfl⟩
 refine Jf (Jd (Jb [0,16,0,0] [(111,Bo (decide (s.reach<1)))] (Ks (decide (s.reach<1)) [111] [1,1,1,0] [0,16,0,0] (fun bb=>[(115,Bo (bb || (decide (s.reach > 40))))]) (Jb [0] [(107,Bo ((decide (s.reach<1)) || (decide (s.reach > 40))))] (Je (Jc (Jl ((decide (s.reach<1)) || (decide (s.reach > 40))) (fun h8=>?_) (fun h8=>?_))))))))
 refine Jg [0,0] [(2,.pointer none),(3,I 4)] (Jn (Ju (Jj ?_)))
 have hf7:QQ s=4∧¬ (4:Int)=0:=by
  exact Jip ‹_› J4 J4 (Jgq hN J4) ‹_› (by omega)
 refine Jo [0,0] [.pointer none,I 4] (JD [] (Ja hl1 hle) ?_)
 rw [← hf7.1];exact .inl ⟨by rw [hf7.1];exact hf7.2,rfl,rfl⟩
 refine Jq (JM (Jc (Jf (Kt [2,9,13] (Wm [(0,Pt b3 0),(1,(Vh (KR s.least s.top s.lost).1)),(3,Pt b3 0),(4,Pt b3 0),(5,Pt b3 0),(6,Pt b3 7),(7,Sl abt3 bt.town.owners.length cbt3),(8,I (bt.town.owners.length:Int))] (JF [] [(0,0),(1,2),(3,0),(4,0),(5,0),(6,0),(7,12),(8,0)] [] [2] (Ha _) (Kf ?_ KY)))))))
 refine Jz 2 [(117,(Vh (KR s.least s.top s.lost).1))] (fun X=>?_)
 refine Km 118 1 #[I (((KR s.least s.top s.lost).1).least),I (((KR s.least s.top s.lost).1).most),I (((KR s.least s.top s.lost).1).lost),I (((KR s.least s.top s.lost).1).gap),I (((KR s.least s.top s.lost).1).next),I (((KR s.least s.top s.lost).1).asked)] 143 (fun b11=>JA [(2,Sl (At b11 0) 1 1)] (JF [1] [(0,0),(3,0),(4,0),(5,0),(6,0),(7,14),(8,0)] [] [9] (Ha _) (Kf ?_ KY)))
 refine Jz 9 [(118,Sl (At b11 0) 1 1),(124,I (bt.town.owners.length:Int))] (fun X=>?_)
 refine QI (b:=b11) (o:=0) (cs:=(Vd (KR s.least s.top s.lost).1)) 0 (fun G4 hl4 hz1=>?_)
 have hs9:RS WK G4 (At b11 0) 1 [((KR s.least s.top s.lost).1)]:=RS.lit [(Vd (KR s.least s.top s.lost).1)] [((KR s.least s.top s.lost).1)] ⟨⟨rfl,(Jhx _ _ _).least,(Jhx _ _ _).most,(Jhx _ _ _).lost,(Jhx _ _ _).gap,(Jhx _ _ _).next,(Jhx _ _ _).asked⟩,trivial⟩ hz1 (Hb rfl) (Hb rfl)
 refine JN 125 (JjK G4 (At b11 0) 1 ((KR s.least s.top s.lost).1) hs9 bt.town.owners.length (by (have q_:=Jdb hB;omega))) (fun v G5 L1 hl5 hp=>?_)
 obtain ⟨a10,c10,r2,rfl,hr2,rfl⟩:=hp
 refine JA [(9,Sl a10 ((Hc bt.town.owners.length ((KR s.least s.top s.lost).1)).length) c10),(10,Pt b3 0),(11,Pt b3 0),(12,Pt b3 8)] (JF [1,3,4,5,6,7,8] [(0,0),(10,0),(11,0),(12,0)] [] [13] (Ha _) (Kf ?_ KY))
 refine Jz 13 [(125,Sl a10 ((Hc bt.town.owners.length ((KR s.least s.top s.lost).1)).length) c10),(128,Pt b3 8)] (fun X=>?_)
 refine KC 7 [r2,[],[Sg b10 0 (Vd (KR s.least s.top s.lost).1)],rbt13,rbt12,rbt8,rbt7,[Sg b3 0 (Ke (⟨(⟨bt.town.clerk,bt.town.owners,(Hc bt.town.owners.length ((KR s.least s.top s.lost).1)),bt.town.net⟩:Wl),bt.reach,bt.fates,bt.events⟩:JI) abt0 cbt0 abt1 cbt1 abt2 cbt2 abt3 cbt3 a10 c10 abt5 cbt5 abt6 cbt6 abt7 cbt7)],[Sg b2 0 (KW (J7 s.most s.batch s.every).1 a3 c3 a4 c4 a5 c5)],[Sg b1 0 (WI s a1 c1 a2 c2)]] (J6 [] (Kl [0,1,3,4,5,6,7,8,10,11,12] [] [] [(6,Pt b3 0)] (Ha _) (Jc (Jg [0,0,0] [(2,Pt b3 0),(3,I 0)] (Jn (Jk 3 (Jk 4 (Jk 2 (Jk 6 (Jk 7 ?_))))))))))
 have hok:=Jm7 ‹_› (by omega) (by omega) (Jgq hN (by omega)) ‹_› (by omega)
 have hbt:=Jm8 hB (by omega)
 refine Jo [0,0] [Pt b3 0,I 0] (JD [[Sg b3 0 (Ke (⟨(⟨bt.town.clerk,bt.town.owners,(Hc bt.town.owners.length ((KR s.least s.top s.lost).1)),bt.town.net⟩:Wl),bt.reach,bt.fates,bt.events⟩:JI) abt0 cbt0 abt1 cbt1 abt2 cbt2 abt3 cbt3 a10 c10 abt5 cbt5 abt6 cbt6 abt7 cbt7)],rbt7,r2,rbt12,rbt13] (Ja (Ja (Ja hl1 hle) hl4) hl5) ?_)
 rw [hbt];refine .inr ⟨hok,?_⟩;try dsimp only
 exact ⟨b3,abt0,cbt0,abt1,cbt1,abt2,cbt2,abt3,cbt3,a10,c10,abt5,cbt5,abt6,cbt6,abt7,cbt7,rbt7,r2,rbt12,rbt13,rfl,hbt0,(hbt1.mono (Ja hl4 hl5)),hbt2,hbt3,hbt4,(hbt5.mono (Ja hl4 hl5)),(hbt6.mono (Ja hl4 hl5)),(hbt7.mono (Ja hl4 hl5)),hr2,hbt9,(hbt10.mono (Ja hl4 hl5)),hbt11,(hbt12.mono (Ja hl4 hl5)),(hbt13.mono (Ja hl4 hl5)),rfl⟩
structure Ext (c d:KT):Prop where
 ok:Zr c
 ok2:Zr d
 heads:∃ m,d.heads=c.heads++m
 books:∃ m,d.books=c.books++m
theorem Ext.trans {c d e:KT} (h:Ext c d) (h2:Ext d e):Ext c e:=by
 obtain ⟨m,e1⟩:=h.heads;obtain ⟨n,e2⟩:=h2.heads
 obtain ⟨p,e3⟩:=h.books;obtain ⟨q,e4⟩:=h2.books
 exact ⟨h.ok,h2.ok2,⟨m++n,by rw [e2,e1,List.append_assoc]⟩,⟨p++q,by rw [e4,e3,List.append_assoc]⟩⟩
structure Fwd (t u:JI):Prop where
 ext:Ext t.town.clerk u.town.clerk
 own:∀ (i:Nat) o,u.town.owners[i]? = some o→∃ p,t.town.owners[i]? = some p∧p.name=o.name∧p.head.epoch≤o.head.epoch
theorem Fwd.trans {t u v:JI} (h:Fwd t u) (h2:Fwd u v):Fwd t v:=by
 refine ⟨h.ext.trans h2.ext,fun i o ho=>?_⟩
 obtain ⟨p,hp,e1,l1⟩:=h2.own i o ho
 obtain ⟨q,hq,e2,l2⟩:=h.own i p hp
 exact ⟨q,hq,e2.trans e1,by omega⟩
theorem Jp5 {s:Kx} (h:QQ s=0):VV (QH s):=by
 obtain ⟨b1,b2,b3,b4⟩:=Jcg h
 obtain ⟨e1,e2,e3,e4,e5,e6,e7⟩:=Jaz h
 exact ⟨⟨s,b1⟩,b2,by rw [b3,b4],by rw [b3];exact e1,e6,e7⟩
theorem f_do (t:JI) (d:K6):(Va t d).fates.length≤t.fates.length+1:=by
 have hs:∀ (t:JI) l,(Wo t l).fates.length≤t.fates.length:=fun t l=>by simp [Wo]
 have hl:∀ (l:List JU) (t:JI),(Zh t l).fates.length≤t.fates.length:=by
  intro l
  induction l with
  | nil=>intro t;exact Hq _
  | cons x l ih =>
   intro t
   refine Ho (ih (Yg t x)) ?_
   unfold Yg
   split
   ·
    unfold Qn
    split
    · exact Hq _
    · exact hs _ _
   · exact Hq _
 have ha:∀ n (t:JI),(Jce t n).fates.length≤t.fates.length:=by
  intro n t
  induction n with
  | zero=>exact Hq _
  | succ n ih =>
   rw [← JaS]
   refine Ho ?_ ih
   have hq:∀ u k,(Ja4 u k).fates.length≤u.fates.length:=fun u k=>by unfold Ja4;exact hs _ _
   unfold Zx
   split
   · exact Hq _
   split
   · exact hq _ _
   · exact hq _ _
 have ht:(WJ t).fates.length≤t.fates.length:=by
  unfold WJ
  split
  · exact Hq _
  · exact Ho (ha _ _) (hl _ _)
 unfold Va
 split
 · unfold Wk;(repeat' split) <;> simp
 split
 · simp
 split
 · unfold Jgj;split <;> simp
 split
 · omega
 · omega
theorem Jhy {s:Kx} (h:QQ s=0) {jt:JI} {l:List K6} {i:Nat} (hJ:jt=Jbt (QH s) (l.take i)):VV jt∧jt.events.length≤64*i∧jt.fates.length≤i:=by
 subst hJ
 have key:∀ (m:List K6) (t:JI),VV t→VV (Jbt t m)∧(Jbt t m).events.length≤t.events.length+64*m.length∧(Jbt t m).fates.length≤t.fates.length+m.length:=by
  intro m
  induction m with
  | nil=>intro t h;exact ⟨h,by simp [Jbt],by simp [Jbt]⟩
  | cons d m ih =>
   intro t h
   obtain ⟨q1,q2⟩:=do_H h d
   obtain ⟨r1,r2,r3⟩:=ih (Va t d) q1
   have:=f_do t d
   refine ⟨r1,?_,?_⟩
   · show (Jbt (Va t d) m).events.length≤_;simp only [Hd];omega
   · show (Jbt (Va t d) m).fates.length≤_;simp only [Hd];omega
 obtain ⟨k1,k2,k3⟩:=key (l.take i) (QH s) (Jp5 h)
 have e1:(QH s).events.length=0:=rfl
 have e2:(QH s).fates.length=0:=rfl
 have e3:(l.take i).length≤i:=by rw [Hk];omega
 exact ⟨k1,by omega,by omega⟩
theorem JjP {s:Kx} {l:List K6} (h:¬ QQ s=0):Jt s l=(JlR,[],QQ s):=by
 have e:JbW s l=QQ s:=by unfold JbW;rw [if_pos h]
 unfold Jt;rw [e,if_pos h]
theorem Jk1 {s:Kx} {l:List K6} (h:QQ s=0) (hl:l.length > 200):Jt s l=(JlR,[],2):=by
 have e:JbW s l=2:=by unfold JbW;rw [if_neg (by omega),if_pos hl]
 unfold Jt;rw [e,if_pos (by decide)]
theorem Jo7 {s:Kx} {l:List K6} {jt:JI} {i:Nat} (h:QQ s=0) (hl:¬ l.length > 200) (hJ:jt=Jbt (QH s) (l.take i)) (hi:l.length≤i):Jt s l=(⟨jt.town.clerk,jt.town.owners,jt.town.polls,jt.town.net⟩,jt.events,0):=by
 rw [Hl hi] at hJ
 subst hJ
 have e:JbW s l=0:=by unfold JbW;rw [if_neg (by omega),if_neg hl]
 unfold Jt;rw [e,if_neg (by decide)]
set_option maxHeartbeats 1600000 in
theorem Jez (G:J5) (vs_s:Bv) (s:Kx) (h_s:Jkk.R G vs_s s) (a_l:Ba) (c_l:Nat) (l:List K6) (r_l:Bg) (h_l:JR Wh G a_l c_l l r_l) :JcH 20 #[.agg vs_s.toArray,Sl a_l l.length c_l] G [r_l] (fun u G' L'=>∃ (a1:Ba) (c2:Nat) (a3:Ba) (c4:Nat) (a5:Ba) (c6:Nat) (a7:Ba) (c8:Nat) (a9:Ba) (c10:Nat) (a11:Ba) (c12:Nat) (a13:Ba) (c14:Nat),u=.tuple #[.agg #[I (((Jt s l).1).clerk.queue.most),Sl a1 ((((Jt s l).1).clerk.queue.wait).length) c2,I (((Jt s l).1).clerk.batch),I (((Jt s l).1).clerk.every),I (((Jt s l).1).clerk.now),Sl a3 ((((Jt s l).1).clerk.heads).length) c4,Sl a5 ((((Jt s l).1).clerk.books).length) c6,Sl a7 ((((Jt s l).1).owners).length) c8,Sl a9 ((((Jt s l).1).polls).length) c10,I (((Jt s l).1).net.now),Sl a11 ((((Jt s l).1).net.way).length) c12],Sl a13 (((Jt s l).2.1).length) c14,I ((Jt s l).2.2)]∧(rI (((Jt s l).1).clerk.queue.most))∧(RS Q6 G' a1 c2 (((Jt s l).1).clerk.queue.wait))∧(rI (((Jt s l).1).clerk.batch))∧(rI (((Jt s l).1).clerk.every))∧(rI (((Jt s l).1).clerk.now))∧(RS KO G' a3 c4 (((Jt s l).1).clerk.heads))∧(RS QA G' a5 c6 (((Jt s l).1).clerk.books))∧(RS Q9 G' a7 c8 (((Jt s l).1).owners))∧(RS WK G' a9 c10 (((Jt s l).1).polls))∧(rI (((Jt s l).1).net.now))∧(RS Kn G' a11 c12 (((Jt s l).1).net.way))∧(RS Wn G' a13 c14 ((Jt s l).2.1))∧L'=[r_l]):=by
 obtain ⟨a1,c1,a2,c2,rfl,hs1,hs2,w1,w2,w3,w4,w5,w6,w7⟩:=h_s
 intro Lr
 refine JP Tryz.func20 45 [(0,(YK s a1 c1 a2 c2)),(1,Sl a_l l.length c_l)] rfl (fun w0 G0=>?_)
 show TC _ _ _ _ _ (r_l::Lr)
 refine Jf (Jd (Jv 2 #[Sl a1 s.names.length c1,Sl a2 s.keys.length c2,I s.most,I s.batch,I s.every,I s.least,I s.top,I s.lost,I s.reach] 72 (fun b1=>Jv 4 #[I 0,Sl none 0 0,I 0,I 0,I 0,Sl none 0 0,Sl none 0 0,Sl none 0 0,Sl none 0 0,I 0,Sl none 0 0] 67 (fun b2=>Jb [0,0] [] (Je (Jc (Jf (Jd (Jb [4] [(12,(YK s a1 c1 a2 c2))] (JN 13 (Jm9 G (WI s a1 c1 a2 c2) s (⟨a1,c1,a2,c2,rfl,hs1,hs2,w1,w2,w3,w4,w5,w6,w7⟩)) (fun v G1 L1 hl1 hp=>?_)))))))))))
 rcases hp with ⟨hbe,rfl,rfl⟩ | ⟨hbe,b3,a3,c3,a4,c4,a5,c5,a6,c6,a7,c7,a8,c8,a9,c9,a10,c10,r1,r2,r3,r4,rfl,w8,hs3,w9,w10,w11,hs4,hs5,hr1,hr2,w12,hs6,w13,hr3,hr4,rfl⟩
 refine Jb [0,0,0,0,0] [(7,.pointer none),(8,I (QQ s))] (Je (Jc (Jf (Jf (Jd (Jb [0,0,0] [(18,Bo (decide (QQ s=0)))] (Ks (decide (QQ s=0)) [18] [0,0,0,0] [1,1,1,0] (fun bb=>[(22,Bo (bb && (decide ((l.length:Int) > 200))))]) (Je (Jc (Jl ((decide (QQ s=0)) && (decide ((l.length:Int) > 200))) (fun h1=>?_) (fun h1=>?_)))))))))))
 refine Jd (Jb [0] [(8,I 2)] (Je (Jc (Jf (Jg [0,0] [(24,Bo true)] (J0 (Jg [0,0,3,0,0] [(5,Sl none 0 0),(6,I 2)] (Jn (Jj ?_)))))))))
 have hf1:Jt s l=((⟨(⟨(⟨0,[]⟩:Q3),0,0,0,[],[]⟩:KT),[],[],(⟨0,[]⟩:Ve)⟩:Wl),[],2):=by
  (exfalso;omega)
 refine Jo [0,0,0] [.agg #[I 0,Sl none 0 0,I 0,I 0,I 0,Sl none 0 0,Sl none 0 0,Sl none 0 0,Sl none 0 0,I 0,Sl none 0 0],Sl none 0 0,I 2] (KB (Lr:=Lr) [r_l] hl1 ?_)
 rw [hf1]
 try dsimp only
 exact ⟨none,0,none,0,none,0,none,0,none,0,none,0,none,0,rfl,J4,(J2 Q6 G1),J4,J4,J4,(J2 KO G1),(J2 QA G1),(J2 Q9 G1),(J2 WK G1),J4,(J2 Kn G1),(J2 Wn G1),rfl⟩
 refine Jq (Jc (Jf (Jg [0,0] [(24,Bo (!decide (QQ s=0)))] (Jl (!decide (QQ s=0)) (fun h2=>?_) (fun h2=>?_)))))
 refine Jg [0,0,3,0,0] [(5,Sl none 0 0),(6,I (QQ s))] (Jn (Jj ?_))
 have hf2:Jt s l=((⟨(⟨(⟨0,[]⟩:Q3),0,0,0,[],[]⟩:KT),[],[],(⟨0,[]⟩:Ve)⟩:Wl),[],QQ s):=by
  (rw [JjP ‹_›];rfl)
 refine Jo [0,0,0] [.agg #[I 0,Sl none 0 0,I 0,I 0,I 0,Sl none 0 0,Sl none 0 0,Sl none 0 0,Sl none 0 0,I 0,Sl none 0 0],Sl none 0 0,I (QQ s)] (KB (Lr:=Lr) [r_l] hl1 ?_)
 rw [hf2]
 try dsimp only
 exact ⟨none,0,none,0,none,0,none,0,none,0,none,0,none,0,rfl,J4,(J2 Q6 G1),J4,J4,J4,(J2 KO G1),(J2 QA G1),(J2 Q9 G1),(J2 WK G1),J4,(J2 Kn G1),(J2 Wn G1),rfl⟩
 refine Jq (Jc (Jf ?_))
 exfalso;omega
 refine Jb [0,0,0,0,0] [(7,Pt b3 0),(8,I 0)] (Je (Jc (Jf (Jg [0,0,0,0,0,0,0] [(22,Bo (decide ((l.length:Int) > 200)))] (Jl (decide ((l.length:Int) > 200)) (fun h3=>?_) (fun h3=>?_))))))
 refine Jd (Jb [0] [(8,I 2)] (Je (Jc (Jf (Jg [0,0] [(24,Bo true)] (J0 (Jg [0,0,13,0,0] [(5,Sl none 0 0),(6,I 2)] (Jn (Jj ?_)))))))))
 have hf3:Jt s l=((⟨(⟨(⟨0,[]⟩:Q3),0,0,0,[],[]⟩:KT),[],[],(⟨0,[]⟩:Ve)⟩:Wl),[],2):=by
  (rw [Jk1 ‹_› (by omega)];rfl)
 refine Jo [5,0,0] [.agg #[I 0,Sl none 0 0,I 0,I 0,I 0,Sl none 0 0,Sl none 0 0,Sl none 0 0,Sl none 0 0,I 0,Sl none 0 0],Sl none 0 0,I 2] (KB (Lr:=Lr) [r_l] hl1 ?_)
 rw [hf3]
 try dsimp only
 exact ⟨none,0,none,0,none,0,none,0,none,0,none,0,none,0,rfl,‹_›,(J2 Q6 G1),‹_›,‹_›,‹_›,(J2 KO G1),(J2 QA G1),(J2 Q9 G1),(J2 WK G1),‹_›,(J2 Kn G1),(J2 Wn G1),rfl⟩
 refine Jq (Jc (Jf (Jg [0,0] [(24,Bo false)] (Qr (Jq (Jc (Jf (Jg [0,0,0] [(27,Sl a_l l.length c_l),(28,I (l.length:Int)),(29,I 0)] (Jy ?_)))))))))
 refine Qc (σ:=Nat×JI×Ba×Nat×Ba×Nat×Ba×Nat×Ba×Nat×Bg×Ba×Nat×Bg×Ba×Nat×Ba×Nat×Bg×Ba×Nat×Bg×J5) (fun q_=>(J5.le G1 q_.2.2.2.2.2.2.2.2.2.2.2.2.2.2.2.2.2.2.2.2.2.2)∧(q_.1≤l.length)∧(RS Q6 q_.2.2.2.2.2.2.2.2.2.2.2.2.2.2.2.2.2.2.2.2.2.2 q_.2.2.1 q_.2.2.2.1 q_.2.1.town.clerk.queue.wait)∧(RS KO q_.2.2.2.2.2.2.2.2.2.2.2.2.2.2.2.2.2.2.2.2.2.2 q_.2.2.2.2.1 q_.2.2.2.2.2.1 q_.2.1.town.clerk.heads)∧(RS QA q_.2.2.2.2.2.2.2.2.2.2.2.2.2.2.2.2.2.2.2.2.2.2 q_.2.2.2.2.2.2.1 q_.2.2.2.2.2.2.2.1 q_.2.1.town.clerk.books)∧(JR Q9 q_.2.2.2.2.2.2.2.2.2.2.2.2.2.2.2.2.2.2.2.2.2.2 q_.2.2.2.2.2.2.2.2.1 q_.2.2.2.2.2.2.2.2.2.1 q_.2.1.town.owners q_.2.2.2.2.2.2.2.2.2.2.1)∧(JR WK q_.2.2.2.2.2.2.2.2.2.2.2.2.2.2.2.2.2.2.2.2.2.2 q_.2.2.2.2.2.2.2.2.2.2.2.1 q_.2.2.2.2.2.2.2.2.2.2.2.2.1 q_.2.1.town.polls q_.2.2.2.2.2.2.2.2.2.2.2.2.2.1)∧(RS Kn q_.2.2.2.2.2.2.2.2.2.2.2.2.2.2.2.2.2.2.2.2.2.2 q_.2.2.2.2.2.2.2.2.2.2.2.2.2.2.1 q_.2.2.2.2.2.2.2.2.2.2.2.2.2.2.2.1 q_.2.1.town.net.way)∧(JR VG q_.2.2.2.2.2.2.2.2.2.2.2.2.2.2.2.2.2.2.2.2.2.2 q_.2.2.2.2.2.2.2.2.2.2.2.2.2.2.2.2.1 q_.2.2.2.2.2.2.2.2.2.2.2.2.2.2.2.2.2.1 q_.2.1.fates q_.2.2.2.2.2.2.2.2.2.2.2.2.2.2.2.2.2.2.1)∧(JR Wn q_.2.2.2.2.2.2.2.2.2.2.2.2.2.2.2.2.2.2.2.2.2.2 q_.2.2.2.2.2.2.2.2.2.2.2.2.2.2.2.2.2.2.2.1 q_.2.2.2.2.2.2.2.2.2.2.2.2.2.2.2.2.2.2.2.2.1 q_.2.1.events q_.2.2.2.2.2.2.2.2.2.2.2.2.2.2.2.2.2.2.2.2.2.1)∧(rI q_.2.1.town.clerk.queue.most)∧(rI q_.2.1.town.clerk.batch)∧(rI q_.2.1.town.clerk.every)∧(rI q_.2.1.town.clerk.now)∧(rI q_.2.1.town.net.now)∧(rI q_.2.1.reach)∧(q_.2.1=Jbt (QH s) (l.take q_.1))) (fun q_=>[(4,Pt b2 0),(7,Pt b3 0),(27,Sl a_l l.length c_l),(28,I (l.length:Int)),(29,I (q_.1:Int))]) (fun q_=>q_.2.2.2.2.2.2.2.2.2.2.2.2.2.2.2.2.2.2.2.2.2.2) (fun q_=>([Sg b3 0 (Ke q_.2.1 q_.2.2.1 q_.2.2.2.1 q_.2.2.2.2.1 q_.2.2.2.2.2.1 q_.2.2.2.2.2.2.1 q_.2.2.2.2.2.2.2.1 q_.2.2.2.2.2.2.2.2.1 q_.2.2.2.2.2.2.2.2.2.1 q_.2.2.2.2.2.2.2.2.2.2.2.1 q_.2.2.2.2.2.2.2.2.2.2.2.2.1 q_.2.2.2.2.2.2.2.2.2.2.2.2.2.2.1 q_.2.2.2.2.2.2.2.2.2.2.2.2.2.2.2.1 q_.2.2.2.2.2.2.2.2.2.2.2.2.2.2.2.2.1 q_.2.2.2.2.2.2.2.2.2.2.2.2.2.2.2.2.2.1 q_.2.2.2.2.2.2.2.2.2.2.2.2.2.2.2.2.2.2.2.1 q_.2.2.2.2.2.2.2.2.2.2.2.2.2.2.2.2.2.2.2.2.1)]::q_.2.2.2.2.2.2.2.2.2.2.1::q_.2.2.2.2.2.2.2.2.2.2.2.2.2.1::q_.2.2.2.2.2.2.2.2.2.2.2.2.2.2.2.2.2.2.1::q_.2.2.2.2.2.2.2.2.2.2.2.2.2.2.2.2.2.2.2.2.2.1::[Sg b2 0 [I 0,Sl none 0 0,I 0,I 0,I 0,Sl none 0 0,Sl none 0 0,Sl none 0 0,Sl none 0 0,I 0,Sl none 0 0]]::[Sg b1 0 (WI s a1 c1 a2 c2)]::r_l::Lr)) (fun q_=>l.length-q_.1) (0,(QH s),a3,c3,a4,c4,a5,c5,a6,c6,r1,a7,c7,r2,a8,c8,a9,c9,r3,a10,c10,r4,G1) ⟨(Jh _),(by (try dsimp only);exact Hr _),hs3,hs4,hs5,hr1,hr2,hs6,hr3,hr4,w8,w9,w10,w11,w12,w13,(by (try dsimp only);rfl)⟩ (fun q_ hs=>?_)
 obtain ⟨i,jt,ajt0,cjt0,ajt1,cjt1,ajt2,cjt2,ajt3,cjt3,rjt7,ajt4,cjt4,rjt8,ajt5,cjt5,ajt6,cjt6,rjt12,ajt7,cjt7,rjt13,g⟩:=q_
 obtain ⟨hle,hi,hjt1,hjt5,hjt6,hjt7,hjt8,hjt10,hjt12,hjt13,hjt0,hjt2,hjt3,hjt4,hjt9,hjt11,hJ⟩:=hs
 dsimp only at hle hi hjt1 hjt5 hjt6 hjt7 hjt8 hjt10 hjt12 hjt13 hjt0 hjt2 hjt3 hjt4 hjt9 hjt11 hJ
 dsimp only
 refine Jg [0] [(30,Bo (decide ((i:Int)<(l.length:Int))))] (Jf (Jl (decide ((i:Int)<(l.length:Int))) (fun h4=>?_) (fun h4=>?_)))
 refine Jq (Jc (Jf (Jy (Jf (Jd ?_)))))
 obtain ⟨x1,hx1⟩:=QS (l:=l) (k:=i) (by omega)
 obtain ⟨b4,o1,_,_,⟨a11,c11,a12,c12,a13,c13,a14,c14,rfl,w14,w15,w16,hs7,w17,w18,w19,w20,hs8,w21,w22,w23,w24,w25,hs9,hs10⟩,ha1,hre1,hc1⟩:=JR.ix (h_l.mono (Ja hl1 hle)) hx1
 refine Qs (b:=b4) (off:=o1) (len:=l.length) (cap:=c_l) (ik:=.i64) 31 53 16 i ha1 J4 (W4 (off:=o1) (p:=i*16) (cs:=(W7 x1 a11 c11 a12 c12 a13 c13 a14 c14)) 32 53 7 0 (JfQ x1 a11 c11 a12 c12 a13 c13 a14 c14) hre1 hc1 (Jv 10 #[I 0,I 0,Sr ([]),Sl none 0 0,I 0,I 0,I 0,I 0,Sl none 0 0,I 0,U 0,U 0,I 0,Sr ([]),Sl none 0 0,Sl none 0 0] 53 (fun b5=>JW [3] [] ([Sg b5 0 (W7 x1 a11 c11 a12 c12 a13 c13 a14 c14)]::[Sg b3 0 (Ke jt ajt0 cjt0 ajt1 cjt1 ajt2 cjt2 ajt3 cjt3 ajt4 cjt4 ajt5 cjt5 ajt6 cjt6 ajt7 cjt7)]::rjt7::rjt8::rjt12::rjt13::[Sg b2 0 [I 0,Sl none 0 0,I 0,I 0,I 0,Sl none 0 0,Sl none 0 0,Sl none 0 0,Sl none 0 0,I 0,Sl none 0 0]]::[Sg b1 0 (WI s a1 c1 a2 c2)]::r_l::Lr) (Je (Jc (Jd (Jb [0,2] [(33,Pt b3 0),(34,(JfQ x1 a11 c11 a12 c12 a13 c13 a14 c14))] (Jw 5 (Jw 5 (Jw 5 (Jw 5 (Jw 5 (Qi (Ls:=[[Sg b3 0 (Ke jt ajt0 cjt0 ajt1 cjt1 ajt2 cjt2 ajt3 cjt3 ajt4 cjt4 ajt5 cjt5 ajt6 cjt6 ajt7 cjt7)],rjt7,rjt8,rjt12,rjt13]) (Lr:=([Sg b5 0 (W7 x1 a11 c11 a12 c12 a13 c13 a14 c14)]::[Sg b2 0 [I 0,Sl none 0 0,I 0,I 0,I 0,Sl none 0 0,Sl none 0 0,Sl none 0 0,Sl none 0 0,I 0,Sl none 0 0]]::[Sg b1 0 (WI s a1 c1 a2 c2)]::r_l::Lr)) 35 (Jp4 g b3 jt ajt0 cjt0 ajt1 cjt1 ajt2 cjt2 ajt3 cjt3 ajt4 cjt4 ajt5 cjt5 ajt6 cjt6 ajt7 cjt7 rjt7 rjt8 rjt12 rjt13 hjt0 hjt1 hjt2 hjt3 hjt4 hjt5 hjt6 hjt7 hjt8 hjt9 hjt10 hjt11 hjt12 hjt13 (W7 x1 a11 c11 a12 c12 a13 c13 a14 c14) x1 (⟨a11,c11,a12,c12,a13,c13,a14,c14,rfl,w14,w15,w16,hs7,w17,w18,w19,w20,hs8,w21,w22,w23,w24,w25,hs9,hs10⟩) (by exact (Jhy hbe hJ).1) (by (have q_:=(Jhy hbe hJ);omega)) (by (have q_:=(Jhy hbe hJ);omega))) (fun v G2 L1 hl2 hp=>?_))))))))))))))
 obtain ⟨a15,c15,a16,c16,a17,c17,a18,c18,a19,c19,a20,c20,a21,c21,a22,c22,r5,r6,r7,r8,rfl,_,hs11,_,_,_,hs12,hs13,hr5,hr6,_,hs14,_,hr7,hr8,rfl⟩:=hp
 refine Je (JM (Jc (Jd (Jb [0,0] [(29,I (Hi.wrap ((i:Int)+1)))] (Kp 29 ((i:Int)+1) J4 (Je (Jk 8 (Jk 8 (Jk 8 (Jk 7 (Jk 7 (Jk 7 (Jk 7 ?_)))))))))))))
 refine Jk 7 ?_
 exact Qy ([Sg b3 0 (Ke (Va jt x1) a15 c15 a16 c16 a17 c17 a18 c18 a19 c19 a20 c20 a21 c21 a22 c22)]::r5::r6::r7::r8::[Sg b2 0 [I 0,Sl none 0 0,I 0,I 0,I 0,Sl none 0 0,Sl none 0 0,Sl none 0 0,Sl none 0 0,I 0,Sl none 0 0]]::[Sg b1 0 (WI s a1 c1 a2 c2)]::r_l::Lr) (Qh (i+1,(Va jt x1),a15,c15,a16,c16,a17,c17,a18,c18,r5,a19,c19,r6,a20,c20,a21,c21,r7,a22,c22,r8,G2) ⟨(Ja hle hl2),J4,hs11,hs12,hs13,hr5,hr6,hs14,hr7,hr8,‹_›,‹_›,‹_›,‹_›,‹_›,‹_›,(by (try dsimp only);rw [← Jm3 hx1,← hJ])⟩ (by (try dsimp only);omega))
 refine KX (J1 (Kd (JS (Jc (Jf (Kt [8] (Wm [(0,Pt b3 0),(1,Pt b3 0),(2,Pt b3 0),(3,(VT jt.town ajt0 cjt0 ajt1 cjt1 ajt2 cjt2 ajt3 cjt3 ajt4 cjt4 ajt5 cjt5)),(4,Pt b3 0),(5,Pt b3 0),(6,Pt b3 13),(7,Sl ajt7 jt.events.length cjt7)] (JF [] [(0,0),(1,0),(2,0),(3,2),(4,0),(5,0),(6,0),(7,2)] [] [8] (Ha _) (Kf ?_ KY)))))))))
 refine Jz 8 [(4,Pt b2 0),(40,(VT jt.town ajt0 cjt0 ajt1 cjt1 ajt2 cjt2 ajt3 cjt3 ajt4 cjt4 ajt5 cjt5))] (fun X=>?_)
 refine KC 5 ([Sg b3 0 (Ke jt ajt0 cjt0 ajt1 cjt1 ajt2 cjt2 ajt3 cjt3 ajt4 cjt4 ajt5 cjt5 ajt6 cjt6 ajt7 cjt7)]::rjt7::rjt8::rjt12::rjt13::[Sg b2 0 (ZU jt.town ajt0 cjt0 ajt1 cjt1 ajt2 cjt2 ajt3 cjt3 ajt4 cjt4 ajt5 cjt5)]::[Sg b1 0 (WI s a1 c1 a2 c2)]::r_l::Lr) (J6 [(9,Sl ajt7 jt.events.length cjt7),(10,I 0)] (Kl [0,1,2,3] [(4,0),(5,0),(6,0),(7,2),(9,0),(10,0)] [] [(4,Pt b2 0),(5,Sl ajt7 jt.events.length cjt7),(6,I 0)] (Ha _) (Jc (Jn (Wy (E:=Q9) 1 hjt7 (by have q_:=(Jhy hbe hJ);have q1_:=q_.1.len;have q2_:=q_.1.polls;simp only [Q9,WK,Wn];omega) (fun G3 hl3 hs15=>Wy (E:=WK) 2 (hjt8.mono hl3) (by have q_:=(Jhy hbe hJ);have q1_:=q_.1.len;have q2_:=q_.1.polls;simp only [Q9,WK,Wn];omega) (fun G4 hl4 hs16=>Wy (E:=Wn) 4 (hjt13.mono (Ja hl3 hl4)) (by have q_:=(Jhy hbe hJ);have q1_:=q_.1.len;have q2_:=q_.1.polls;simp only [Q9,WK,Wn];omega) (fun G5 hl5 hs17=>?_))))))))
 have hf4:Jt s l=(jt.town,jt.events,0):=by
  (rw [Jo7 ‹_› (by omega) hJ (by omega)];done)
 refine Jo [5,0,0] [(VT jt.town ajt0 cjt0 ajt1 cjt1 ajt2 cjt2 ajt3 cjt3 ajt4 cjt4 ajt5 cjt5),Sl ajt7 jt.events.length cjt7,I 0] (KB (Lr:=Lr) [r_l] (Ja (Ja (Ja (Ja hl1 hle) hl3) hl4) hl5) ?_)
 rw [hf4]
 try dsimp only
 exact ⟨ajt0,cjt0,ajt1,cjt1,ajt2,cjt2,ajt3,cjt3,ajt4,cjt4,ajt5,cjt5,ajt7,cjt7,rfl,hjt0,(hjt1.mono (Ja (Ja hl3 hl4) hl5)),hjt2,hjt3,hjt4,(hjt5.mono (Ja (Ja hl3 hl4) hl5)),(hjt6.mono (Ja (Ja hl3 hl4) hl5)),(hs15.mono (Ja hl4 hl5)),(hs16.mono hl5),hjt9,(hjt10.mono (Ja (Ja hl3 hl4) hl5)),hs17,rfl⟩
def Kb (s:Bb):Int×Int:=match Jbn s with
 | some v=>if (v<0∨s.length > 9)∨¬ Lib.itoa v=s then (0,3) else (v,0)
 | none=>(0,3)
theorem Jna {s:Bb} (h:Jbn s=none):(Kb s).2=3:=by unfold Kb;rw [h]
theorem JjQ {s:Bb} {v:Int} (h:Jbn s=some v) (hb:(v<0∨s.length > 9)∨¬ Lib.itoa v=s):(Kb s).2=3:=by unfold Kb;rw [h];simp only;rw [if_pos hb]
theorem Jp6 {s:Bb} {v:Int} (h:Jbn s=some v) (h1:0≤v) (h2:s.length≤9) (h3:Lib.itoa v=s):(Kb s).2=0∧(Kb s).1=v:=by
 unfold Kb;rw [h];simp only;rw [if_neg (by rintro ((q | q) | q);omega;omega;exact q h3)];exact ⟨rfl,rfl⟩
theorem YF (s:Bb):0≤(Kb s).1∧(Kb s).1<9223372036854775808:=by
 unfold Kb
 split
 ·
  rename_i v hv
  have:=Jhj hv
  split
  · simp
  · rename_i h;simp only;omega
 · simp
theorem JjR (s:Bb):(Kb s).2=0∨(Kb s).2=3:=by
 unfold Kb
 split
 · split <;> simp
 · simp
def KK (l:Bs):List Int×Int:=if ∃ s∈l,¬ (Kb s).2=0 then ([],3) else (l.map fun s=>(Kb s).1,0)
theorem Jnb {l:Bs} {s:Bb} {i:Nat} (h:l[i]? = some s) (hs:¬ (Kb s).2=0):(KK l).2=(Kb s).2:=by
 unfold KK
 rw [if_pos ⟨s,Hh h,hs⟩]
 rcases JjR s with h | h
 · exact (hs h).elim
 · exact h.symm
theorem Jo8 {l:Bs} (h:∀ s∈l,(Kb s).2=0):(KK l).2=0∧(KK l).1=l.map fun s=>(Kb s).1:=by
 unfold KK
 rw [if_neg (fun ⟨s,h1,h2⟩=>h2 (h s h1))]
 exact ⟨rfl,rfl⟩
theorem Jnc {l:Bs} (h:(KK l).2=0):(KK l).1=l.map (fun s=>(Kb s).1)∧∀ s∈l,(Kb s).2=0:=by
 unfold KK at h ⊢
 split at h
 · cases h
 ·
  rename_i hn
  rw [if_neg hn]
  exact ⟨rfl,fun s hs=>Hu.1 fun hc=>hn ⟨s,hs,hc⟩⟩
theorem Jnd {l:Bs} {i:Nat} {x:Bb} (hx:l[i]? = some x):(l.take i).map (fun s=>(Kb s).1)++[(Kb x).1]=(l.take (i+1)).map (fun s=>(Kb s).1):=by
 rw [Hn,hx];simp
theorem Jo9 {l:Bs} {i:Nat} {x:Bb} (hx:l[i]? = some x) (h:∀ s∈l.take i,(Kb s).2=0) (h2:(Kb x).2=0):∀ s∈l.take (i+1),(Kb s).2=0:=by
 intro s hs
 rw [Hn,hx] at hs
 rcases List.mem_append.1 hs with hs | hs
 · exact h s hs
 · simp at hs;rw [hs];exact h2
theorem Jcw (n:Int) (h:-9223372036854775808≤n∧n<9223372036854775808:=by omega):(Lib.itoa n).length≤21:=Lib.itoa_length_le n h.1 (by omega)
theorem Jne {l:List Int} {i:Nat} {x:Int} (hx:l[i]? = some x):(l.take i).map Lib.itoa++[Lib.itoa x]=(l.take (i+1)).map Lib.itoa:=by
 rw [Hn,hx];simp
abbrev Y5 (e:Int):Value:=.iface 122 (.agg #[I e])
theorem ZN (G:J5)  (e:Int) :V4 Tryz.prog 49 #[I e] G [] (fun u G' L'=>(e=0)∧u=.tuple #[]∧L'=[]) (fun u _ L'=>(¬ e=0)∧u=Y5 e∧L'=[]):=by
 refine W0 Tryz.func49 7 [(0,I e)] rfl (fun w0 G0 hT=>Jg [0,0] [(3,Bo (!decide (e=0)))] (Jl (!decide (e=0)) (fun h1=>?_) (fun h1=>?_)))
 refine Jd (Jb [0,0,0] [(6,.iface 122 (.agg #[I e]))] (Jke 122 (.agg #[I e]) ?_))
 have hp1:e=e:=by
  rfl
 refine Wt (Jcp [] (Jh _) ?_)
 rw [hp1];exact ⟨h1,rfl,rfl⟩
 refine Jq ?_
 have hf1:e=0:=by
  assumption
 exact ZW [] [] (V5 (JD [] (Jh _) (⟨hf1,rfl,rfl⟩)))
theorem Yt (G:J5)  (s:Bb) (hs:s.length≤140737488351232):V4 Tryz.prog 136 #[Sr s] G [] (fun u G' L'=>((Kb s).2=0)∧u=I ((Kb s).1)∧L'=[]) (fun u _ L'=>(¬ (Kb s).2=0)∧u=Y5 ((Kb s).2)∧L'=[]):=by
 refine W0 Tryz.func136 29 [(0,Sr s)] rfl (fun w0 G0 hT=>Jg [0] [] (Jf (Jd (Jb [0] [(6,Sr s)] (ZQ (Ls:=[]) (Lr:=[]) 7 hT ((Jn3 G s J4).frame) (fun v G1 L1 hl1 hp=>?_))))))
 rcases hp with ⟨⟨v1,ha1,rfl⟩ | ⟨ha1,v2,b1,rfl⟩,rfl⟩
 refine Jb [0,0,0,0,0] [(3,I v1),(4,.nilIface)] (Je (Jc (Jf (Jf (Jd (Jb [0,0,0,0,0,0,0] [(16,Bo (decide (v1<0)))] (Ks (decide (v1<0)) [16] [1,1,1,0] [0,0,0,0] (fun bb=>[(20,Bo (bb || (decide (((s).length:Int) > 9))))]) (Jb [0] [(21,Bo ((decide (v1<0)) || (decide (((s).length:Int) > 9))))] (QR [21] ((decide (v1<0)) || (decide (((s).length:Int) > 9))) (fun h1=>?_) (fun h1=>?_))))))))))
 refine Jb [1,1,1,1,0] [(26,Bo true)] (Je (Jc (J0 (Jd (KG (Ls:=[]) (Lr:=[]) 27 hT ((ZN G1 3).frame) (fun v G2 L1 hl2 hp=>?_) (fun v G2 L1 hl2 hp=>?_))))))
 obtain ⟨hne1,rfl,rfl⟩:=hp
 refine J8 ?_
 have hp1:(Kb s).2=3:=by
  exact JjQ ‹_› (.inl J4)
 refine Wt (Jcp [] (Ja hl1 hl2) ?_)
 rw [hp1];exact ⟨hne1,rfl,rfl⟩
 obtain ⟨he1,rfl,rfl⟩:=hp
 exact absurd he1 (by decide)
 refine Jb [0] [(22,I v1)] (JaY 23 (Sr (Lib.itoa v1)) hT (JfT G1 v1 (Jhj ha1)) (Jb [0,0,0] [(26,Bo (!((B (Lib.itoa v1)).toList == (B s).toList)))] (Kv 26 (Bo (!(Lib.itoa v1 == s))) (show (Bo (!((B (Lib.itoa v1)).toList == (B s).toList)):Value)=Bo (!(Lib.itoa v1 == s)) by simp only [Qx]) (Je (Jc (Jl (!(Lib.itoa v1 == s)) (fun h2=>?_) (fun h2=>?_)))))))
 refine Jd (KG (Ls:=[]) (Lr:=[]) 27 hT ((ZN G1 3).frame) (fun v G3 L1 hl3 hp=>?_) (fun v G3 L1 hl3 hp=>?_))
 obtain ⟨hne2,rfl,rfl⟩:=hp
 refine J8 ?_
 have hp3:(Kb s).2=3:=by
  exact JjQ ‹_› (.inr ‹_›)
 refine Wt (Jcp [] (Ja hl1 hl3) ?_)
 rw [hp3];exact ⟨hne2,rfl,rfl⟩
 obtain ⟨he2,rfl,rfl⟩:=hp
 exact absurd he2 (by decide)
 refine Jq (Jc (Jg [0,0] [(2,I v1)] (Jn ?_)))
 have hf1:(Kb s).2=0∧(Kb s).1=v1:=by
  exact Jp6 ‹_› J4 J4 (by simp_all)
 refine Jo [0] [I v1] (V5 (JD [] hl1 ?_))
 rw [hf1.2]
 try dsimp only
 exact ⟨hf1.1,rfl,rfl⟩
 refine Jb [0,0,0,0,0] [(3,I v2),(4,.iface (Je9.t 168) (Pt b1 0))] (Je (Jc (Jf (Jg [0,0,0,1,1,0,0,1,1,1,0,0,1,1,1,1,0] [(26,Bo true)] (J0 (Jd (KG (Ls:=[]) (Lr:=[]) 27 hT ((ZN G1 3).frame) (fun v G4 L1 hl4 hp=>?_) (fun v G4 L1 hl4 hp=>?_))))))))
 obtain ⟨hne3,rfl,rfl⟩:=hp
 refine J8 ?_
 have hp5:(Kb s).2=3:=by
  exact Jna ‹_›
 refine Wt (Jcp [] (Ja hl1 hl4) ?_)
 rw [hp5];exact ⟨hne3,rfl,rfl⟩
 obtain ⟨he3,rfl,rfl⟩:=hp
 exact absurd he3 (by decide)
theorem VN (G:J5)  (a_w:Ba) (c_w:Nat) (w:Bs) (h_w:RS ES G a_w c_w w) (hw:w.length≤1048577) (hs:∀ s∈w,s.length≤1048576):V4 Tryz.prog 134 #[Sl a_w w.length c_w] G [] (fun u G' L'=>((KK w).2=0)∧∃ (az1:Ba) (cz2:Nat) (rz3:Bg),u=Sl az1 (((KK w).1).length) cz2∧(JR EI G' az1 cz2 ((KK w).1) rz3)∧L'=[rz3]) (fun u _ L'=>(¬ (KK w).2=0)∧u=Y5 ((KK w).2)∧L'=[]):=by
 refine W0 Tryz.func134 19 [(0,Sl a_w w.length c_w)] rfl (fun w0 G0 hT=>Jg [0] [] (Jg [0] [(3,Sl none 0 0)] (Jf (Jg [0,0,0] [(6,Sl a_w w.length c_w),(7,I (w.length:Int)),(8,I 0)] (Jy (ZA ?_))))))
 have hlm_h_w:w.length≤9223372036854775807:=Ho (h_w).le (h_w).max
 refine Qc (σ:=Nat×Ba×Nat×Bg×List Int×J5) (fun q_=>(J5.le G q_.2.2.2.2.2)∧(q_.1≤w.length)∧(JR EI q_.2.2.2.2.2 q_.2.1 q_.2.2.1 q_.2.2.2.2.1 q_.2.2.2.1)∧(q_.2.2.2.2.1=(w.take q_.1).map (fun s=>(Kb s).1))∧(∀ s∈w.take q_.1,(Kb s).2=0)) (fun q_=>[(3,Sl q_.2.1 q_.2.2.2.2.1.length q_.2.2.1),(6,Sl a_w w.length c_w),(7,I (w.length:Int)),(8,I (q_.1:Int))]) (fun q_=>q_.2.2.2.2.2) (fun q_=>[q_.2.2.2.1]) (fun q_=>w.length-q_.1) (0,none,0,[],[],G) ⟨(Jh _),(by (try dsimp only);exact Hr _),(JR.none EI _),rfl,(by (try dsimp only);simp)⟩ (fun q_ hs=>?_)
 obtain ⟨i,ax,cx,rx,xx,g⟩:=q_
 obtain ⟨hle,hi,hrx,hxx,hA⟩:=hs
 dsimp only at hle hi hrx hxx hA
 dsimp only
 refine Jg [0] [(9,Bo (decide ((i:Int)<(w.length:Int))))] (Jf (Jl (decide ((i:Int)<(w.length:Int))) (fun h1=>?_) (fun h1=>?_)))
 refine Jq (Jc (Jf (Jy (Jf (Jd ?_)))))
 obtain ⟨b1,o1,rfl⟩:=RS.addr (h_w.mono hle) (k:=i) (by omega)
 obtain ⟨x1,hx1⟩:=QS (l:=w) (k:=i) (by omega)
 obtain ⟨_,⟨rfl,_⟩,hc1⟩:=RS.get (h_w.mono hle) hx1
 refine JV (b:=b1) (off:=o1) (len:=w.length) (cap:=c_w) (ik:=.i64) 10 9 1 i J4 (JO 11 9 (cs:=[Sr x1]) 0 (Sr x1) hc1 (Jb [0] [(5,Sr x1)] (Je (Jc (Jd (Jb [0,0] [(12,Sl ax xx.length cx),(13,Sr x1)] (KG (Ls:=[]) (Lr:=[rx]) 14 hT ((Yt g x1 (by have q_:=hs _ (Hh hx1);omega)).frame) (fun v G1 L1 hl1 hp=>?_) (fun v G1 L1 hl1 hp=>?_))))))))
 obtain ⟨hne1,rfl,rfl⟩:=hp
 refine Jdq (J8 (Jkf (Jdq (J8 ?_))))
 have hp1:(KK w).2=(Kb x1).2:=by
  exact Jnb hx1 ‹_›
 refine Wt (Jcp [] (Ja hle hl1) ?_)
 rw [hp1];exact ⟨hne1,rfl,rfl⟩
 obtain ⟨he1,rfl,rfl⟩:=hp
 exact Km 15 1 #[I ((Kb x1).1)] 3 (fun b2=>Qd (b:=b2) (cs:=[I ((Kb x1).1)]) 16 3 1 0 (E:=EI) ((Kb x1).1) (hrx.mono hl1) ⟨rfl,(by have q_:=YF x1;omega)⟩ (by have q_:=congrArg Hv hxx;simp only [Hj,Hk] at q_;(try simp only [EI]);omega) (by have q_:=congrArg Hv hxx;simp only [Hj,Hk] at q_;(try simp only [EI]);omega) (fun a1 c1 r1 hr1=>Jb [0] [(3,Sl a1 ((xx++[(Kb x1).1]).length) c1)] (Je (JM (Jc (Jd (Jb [0,0] [(8,I (Hi.wrap ((i:Int)+1)))] (Kp 8 ((i:Int)+1) J4 (Je (Qy [r1] (Qh (i+1,a1,c1,r1,xx++[(Kb x1).1],G1) ⟨(Ja hle hl1),J4,hr1,(by (try dsimp only);rw [hxx,Jnd hx1]),(Jo9 hx1 hA he1)⟩ (by (try dsimp only);omega))))))))))))
 refine KX (J1 (Kd (JS (Jc (Jg [0,0] [(2,Sl ax xx.length cx)] (Jn ?_))))))
 have hf1:(KK w).2=0∧(KK w).1=xx:=by
  have q_:=Hl (i:=i) (l:=w) (by omega);rw [q_] at hA hxx;have q2_:=Jo8 hA;exact ⟨q2_.1,by rw [q2_.2,hxx]⟩
 refine Jo [0] [Sl ax xx.length cx] (V5 (JD [rx] hle ?_))
 rw [hf1.2]
 try dsimp only
 exact ⟨hf1.1,ax,cx,rx,rfl,hrx,rfl⟩
theorem Jgr (G:J5)  (a_l:Ba) (c_l:Nat) (l:List Int) (h_l:RS EI G a_l c_l l) (hl:l.length≤20):V4 Tryz.prog 140 #[Sl a_l l.length c_l] G [] (fun u G' L'=>((0:Int)=0)∧∃ (az1:Ba) (cz2:Nat) (rz3:Bg),u=Sl az1 ((l.map Lib.itoa).length) cz2∧(JR ES G' az1 cz2 (l.map Lib.itoa) rz3)∧L'=[rz3]) (fun _ _ _=>False):=by
 refine W0 Tryz.func140 19 [(0,Sl a_l l.length c_l)] rfl (fun w0 G0 hT=>Jg [0] [] (Jg [0] [(3,Sl none 0 0)] (Jf (Jg [0,0,0] [(6,Sl a_l l.length c_l),(7,I (l.length:Int)),(8,I 0)] (Jy (ZA ?_))))))
 have hlm_h_l:l.length≤9223372036854775807:=Ho (h_l).le (h_l).max
 refine Qc (σ:=Nat×Ba×Nat×Bg×Bs×J5) (fun q_=>(J5.le G q_.2.2.2.2.2)∧(q_.1≤l.length)∧(JR ES q_.2.2.2.2.2 q_.2.1 q_.2.2.1 q_.2.2.2.2.1 q_.2.2.2.1)∧(q_.2.2.2.2.1=(l.take q_.1).map Lib.itoa)) (fun q_=>[(3,Sl q_.2.1 q_.2.2.2.2.1.length q_.2.2.1),(6,Sl a_l l.length c_l),(7,I (l.length:Int)),(8,I (q_.1:Int))]) (fun q_=>q_.2.2.2.2.2) (fun q_=>[q_.2.2.2.1]) (fun q_=>l.length-q_.1) (0,none,0,[],[],G) ⟨(Jh _),(by (try dsimp only);exact Hr _),(JR.none ES _),rfl⟩ (fun q_ hs=>?_)
 obtain ⟨i,ax,cx,rx,xx,g⟩:=q_
 obtain ⟨hle,hi,hrx,hxx⟩:=hs
 dsimp only at hle hi hrx hxx
 dsimp only
 refine Jg [0] [(9,Bo (decide ((i:Int)<(l.length:Int))))] (Jf (Jl (decide ((i:Int)<(l.length:Int))) (fun h1=>?_) (fun h1=>?_)))
 refine Jq (Jc (Jf (Jy (Jf (Jd ?_)))))
 obtain ⟨b1,o1,rfl⟩:=RS.addr (h_l.mono hle) (k:=i) (by omega)
 obtain ⟨x1,hx1⟩:=QS (l:=l) (k:=i) (by omega)
 obtain ⟨_,⟨rfl,w1⟩,hc1⟩:=RS.get (h_l.mono hle) hx1
 refine JV (b:=b1) (off:=o1) (len:=l.length) (cap:=c_l) (ik:=.i64) 10 3 1 i J4 (JO 11 3 (cs:=[I x1]) 0 (I x1) hc1 (Jb [0] [(5,I x1)] (Je (Jc (Jd (Jb [0,0] [(12,Sl ax xx.length cx),(13,I x1)] (JaY 14 (Sr (Lib.itoa x1)) hT (JfT g x1 w1) (Km 15 1 #[Sr (Lib.itoa x1)] 9 (fun b2=>Qd (b:=b2) (cs:=[Sr (Lib.itoa x1)]) 16 9 1 0 (E:=ES) (Lib.itoa x1) hrx ⟨rfl,(by have q_:=Jcw x1;omega)⟩ (by have q_:=congrArg Hv hxx;simp only [Hj,Hk] at q_;(try simp only [EI]);omega) (by have q_:=congrArg Hv hxx;simp only [Hj,Hk] at q_;(try simp only [ES]);omega) (fun a1 c1 r1 hr1=>Jb [0] [(3,Sl a1 ((xx++[Lib.itoa x1]).length) c1)] (Je (JM (Jc (Jd (Jb [0,0] [(8,I (Hi.wrap ((i:Int)+1)))] (Kp 8 ((i:Int)+1) J4 (Je ?_)))))))))))))))))
 exact Qy [r1] (Qh (i+1,a1,c1,r1,xx++[Lib.itoa x1],g) ⟨(Ja hle (Jh _)),J4,hr1,(by (try dsimp only);rw [hxx,Jne hx1])⟩ (by (try dsimp only);omega))
 refine KX (J1 (Kd (JS (Jc (Jg [0,0] [(2,Sl ax xx.length cx)] (Jn ?_))))))
 have hf1:(0:Int)=0∧l.map Lib.itoa=xx:=by
  have q_:=Hl (i:=i) (l:=l) (by omega);rw [q_] at hxx;exact ⟨rfl,hxx.symm⟩
 refine Jo [0] [Sl ax xx.length cx] (V5 (JD [rx] hle ?_))
 rw [hf1.2]
 try dsimp only
 exact ⟨hf1.1,ax,cx,rx,rfl,hrx,rfl⟩
theorem JjS (G:J5) (a_l:Ba) (c_l:Nat) (p:K6) (h_l:RS Wh G a_l c_l [p]) (n:Nat) (hn:n≤1000):VC Tryz.prog 19 #[Sl a_l 1 c_l,I (n:Int)] G [] (fun u G' L'=>∃ a' c' r,u=Sl a' (Hc n p).length c'∧JR Wh G' a' c' (Hc n p) r∧L'=[r]):=by
 obtain ⟨bx,ox,rfl⟩:=RS.addr h_l (k:=0) (by simp)
 obtain ⟨csx,h_p,hcx⟩:=RS.get h_l (k:=0) (x:=p) rfl
 have h1x:=Wh.one h_p
 obtain ⟨a1,c1,a2,c2,a3,c3,a4,c4,rfl,_,_,_,_,_,_,_,_,_,_,_,_,_,_,_,_⟩:=id h_p
 rw [Nat.zero_mul,Nat.add_zero] at hcx
 refine JP Tryz.func19 48 [(0,Sl (At bx ox) 1 c_l),(1,I (n:Int))] rfl (fun w0 G0=>?_)
 refine Jg [0] [] (Jf (Jg [0,0] [(10,Bo (decide ((n:Int)<0)))] (Jl (decide ((n:Int)<0)) (fun h1=>?_) (fun h1=>?_))))
 exfalso;omega
 refine Jq (Jc (Jf (Jd (Jb [0,0,0,0,0] [(15,U (Hp.wrap (1:Int))),(17,U (Hp.wrap (n:Int)))] (Jbi 17 (n:Int) J4 (Jm 18 (.tuple #[U 0,U (n:Int)]) (JjJ (n:Int) J4 G) (Jb [0,0,0,0,0] [(5,U 0),(6,U (n:Int))] (Je (Jc (Jf (Jg [0,0,0,0,0,0] [(26,Bo (decide ((n:Int) > 9223372036854775807)))] (Jl (decide ((n:Int) > 9223372036854775807)) (fun h2=>?_) (fun h2=>?_)))))))))))))
 exfalso;omega
 refine Jq (Jc (Jf (Jd (Jb [0,0] [(29,I (Hi.wrap (n:Int)))] (Kp 29 (n:Int) J4 (Jgo (z:=(.agg #[I 0,I 0,Sr ([]),Sl none 0 0,I 0,I 0,I 0,I 0,Sl none 0 0,I 0,U 0,U 0,I 0,Sr ([]),Sl none 0 0,Sl none 0 0])) (bytes:=208) 30 38 53 n 16 J4 J4 (by kernel_rfl) (fun bz Fz hFz=>Jb [0] [(7,Sl (At bz 0) n n)] (Je (Jc (Jf (Jd (Jb [0,0] [(31,Sl (At bz 0) n n),(32,Sl (At bx ox) 1 c_l)] (YB (b:=bz) (off:=0) (p:=0) (nd:=n) (cd:=n) (bs:=bx) (os:=ox) (ns:=1) (cs:=c_l) (F:=Fz) 33 0 16 (Jgp (W7 p a1 c1 a2 c2 a3 c3 a4 c4) n) (Jcj _ _) (by rw [Jcj,hFz,Nat.zero_add];exact Nat.mul_le_mul_right _ (Nat.min_le_right 1 n)) (fun u hu=>h1x u (JjI hu)) (JlV hcx) (Jb [0] [(8,I ((Hf 1 n:Nat):Int))] (Je (Jc (Jf (Jy ?_))))))))))))))))))
 refine Qc (σ:=Nat×Bv) (fun q_=>(Jda (W7 p a1 c1 a2 c2 a3 c3 a4 c4) n q_.1 q_.2)) (fun q_=>[(7,Sl (At bz 0) n n),(8,I (q_.1:Int))]) (fun q_=>G) (fun q_=>[[Sg bz 0 q_.2]]) (fun q_=>n-q_.1) ((Hf 1 n),(Qz Fz 0 (Jgp (W7 p a1 c1 a2 c2 a3 c3 a4 c4) n))) (.start hFz) (fun q_ hs=>?_)
 obtain ⟨k,F⟩:=q_
 have hI:=hs
 dsimp only at hI
 dsimp only
 refine Jf (Jg [0,0,0,0] [(37,Bo (decide ((k:Int)<(n:Int))))] (Jl (decide ((k:Int)<(n:Int))) (fun h3=>?_) (fun h3=>?_)))
 refine Jq (Jc (Jy (Kt [7] (Wm [(0,I (k:Int)),(1,Sl (At bz 0) n n),(2,I (k:Int)),(3,Sl (At bz (0+k*16)) (n-k) (n-k)),(4,Sl (At bz 0) n n),(5,I (k:Int)),(6,Sl (At bz 0) k n)] (JF [] [(0,0),(1,0),(2,0),(4,0),(5,0)] [3,6] [7] (Kf ?_ (Kf ?_ KY)) (Kf ?_ KY))))))
 refine Jr 3 41 (Sl (At bz (0+k*16)) (n-k) (n-k)) [(39,Sl (At bz 0) n n),(40,I (k:Int))] (fun X=>?_)
 exact ZC (b:=bz) (off:=0) (len:=n) (cap:=n) 41 16 (some (I (k:Int))) none k n (.inr ⟨_,rfl⟩) (.inl ⟨rfl,rfl⟩) J4 J4 J4 Jp
 refine Jr 6 44 (Sl (At bz 0) k n) [(42,Sl (At bz 0) n n),(43,I (k:Int))] (fun X=>?_)
 exact Jaw (b:=bz) (off:=0) (len:=n) (cap:=n) 44 16 (some (I (k:Int))) k (.inr ⟨_,rfl⟩) J4 Jp
 refine Jz 7 [(41,Sl (At bz (0+k*16)) (n-k) (n-k)),(44,Sl (At bz 0) k n)] (fun X=>?_)
 refine YB (b:=bz) (off:=0) (p:=k*16) (nd:=n-k) (cd:=n-k) (bs:=bz) (os:=0) (ns:=k) (cs:=n) (F:=F) 45 0 16 (F.take (Hf k (n-k)*16)) (hI.xlen (Yh _ _).1) (by have q_:(F.take (Hf k (n-k)*16)).length=Hf k (n-k)*16:=hI.xlen (Yh _ _).1;have q1_:F.length=n*16:=hI.len;have q2_:=Yh k (n-k);omega) (hI.one (Yh _ _).1 h1x) (JlW 0 rfl) ?_
 have e1:Hi.wrap ((k:Int)+((Hf k (n-k):Nat):Int))=((k+Hf k (n-k):Nat):Int):=(Hw _ (by (have q_:=Yh k (n-k);have q2_:=hI.le;omega))).trans (show (k:Int)+((Hf k (n-k):Nat):Int)=((k+Hf k (n-k):Nat):Int) from (Int.natCast_add _ _).symm)
 refine JA [(7,I ((Hf k (n-k):Nat):Int)),(8,I ((k+Hf k (n-k):Nat):Int)),(9,I ((k+Hf k (n-k):Nat):Int))] (Kl [1,2,3,4,5,6] [(0,0),(9,0)] [8] [(7,Sl (At bz 0) n n),(8,I ((k+Hf k (n-k):Nat):Int))] (Kf ?_ KY) ?_)
 refine Jr 8 46 (I ((k+Hf k (n-k):Nat):Int)) [(38,I (k:Int)),(45,I ((Hf k (n-k):Nat):Int))] (fun X=>?_)
 exact K5 46 (I (Hi.wrap ((k:Int)+((Hf k (n-k):Nat):Int)))) (I ((k+Hf k (n-k):Nat):Int)) (by simp only [e1]) Jp
 exact JM (Qh (k+Hf k (n-k),(Qz F (k*16) (F.take (Hf k (n-k)*16)))) (hI.next (Yh _ _).1 (by (try dsimp only);have q_:=Yh k (n-k);have q2_:=hI.le;omega)) (by (try dsimp only);have q_:=hI.pos;have q2_:=Yh k (n-k);omega))
 refine KX (J1 (Kd (JS (Jc (Jg [0,0] [(4,Sl (At bz 0) n n)] (Jn ?_))))))
 have hrw:=hI.row (E:=Wh) (G:=G) (x:=p) (b:=bz) (by omega) h_p (by omega)
 refine Jd2 4 (Sl (At bz 0) ((Hc n p).length) n) (show (Sl (At bz 0) n n:Value)=Sl (At bz 0) ((Hc n p).length) n by simp only [Hm]) (Jk 0 ?_)
 have hf1:Hc n p=(Hc n p):=by
  rfl
 refine Jo [0] [Sl (At bz 0) ((Hc n p).length) n] (JD [[Sg bz 0 F]] (Jh _) ?_)
 rw [hf1]
 try dsimp only
 exact ⟨(At bz 0),n,([Sg bz 0 F]),rfl,hrw,rfl⟩
structure KD where
 setup:Kx
 deeds:List K6
abbrev J3 (x:KD) (a0:Ba) (c0:Nat) (a1:Ba) (c1:Nat) (a2:Ba) (c2:Nat):Bv:=[Sl a0 x.setup.names.length c0,Sl a1 x.setup.keys.length c1,I x.setup.most,I x.setup.batch,I x.setup.every,I x.setup.least,I x.setup.top,I x.setup.lost,I x.setup.reach,Sl a2 x.deeds.length c2]
abbrev vDesk (x:KD) (a0:Ba) (c0:Nat) (a1:Ba) (c1:Nat) (a2:Ba) (c2:Nat):Value:=.agg #[Sl a0 x.setup.names.length c0,Sl a1 x.setup.keys.length c1,I x.setup.most,I x.setup.batch,I x.setup.every,I x.setup.least,I x.setup.top,I x.setup.lost,I x.setup.reach,Sl a2 x.deeds.length c2]
def W8 (t:KD) (s:Kx):KD×Int:=if t.deeds.length > 0 then (t,9) else if ¬ (Jt s []).2.2=0 then (t,(Jt s []).2.2) else (⟨s,t.deeds⟩,0)
theorem Jnf {t:KD} {s:Kx} (h:t.deeds.length > 0):(W8 t s).2=9:=by unfold W8;rw [if_pos h]
theorem Jpa {t:KD} {s:Kx} (h:¬ t.deeds.length > 0) (h2:¬ (Jt s []).2.2=0):(W8 t s).2=(Jt s []).2.2:=by unfold W8;rw [if_neg h,if_pos h2]
theorem JlZ {t:KD} {s:Kx} (h:¬ t.deeds.length > 0) (h2:(Jt s []).2.2=0):(W8 t s).2=0∧(W8 t s).1=⟨s,t.deeds⟩:=by unfold W8;rw [if_neg h,if_neg (by rw [Hu];exact h2)];exact ⟨rfl,rfl⟩
def ZO (t:KD) (l:List K6):KD×Int:=if (l.length:Int) > 200-t.deeds.length then (t,2) else (⟨t.setup,t.deeds++l⟩,0)
theorem Jpb {t:KD} {l:List K6} (h:(l.length:Int) > 200-t.deeds.length):(ZO t l).2=2:=by unfold ZO;rw [if_pos h]
theorem Jl0 {t:KD} {l:List K6} (h:¬ (l.length:Int) > 200-t.deeds.length):(ZO t l).2=0∧(ZO t l).1=⟨t.setup,t.deeds++l⟩:=by unfold ZO;rw [if_neg h];exact ⟨rfl,rfl⟩
def cmdT:Bs:=[[99,108,101,114,107],[112,111,108,108,115],[114,101,97,99,104],[111,119,110,101,114],[119,97,110,116],[102,97,116,101],[116,105,99,107],[110,111,119],[108,111,111,107],[101,118,101,110,116,115],[115,101,101,110],[109,97,114,107]]
def KN (w:Bb):Nat:=cmdT.findIdx (fun x=>decide (w=x))
def Yp (c:Nat):Int:=[3,3,1,2,2,-1,1,0,2,0,1,0][c]?.getD 0
def Jad (c:Nat):FuncId:=[78,79,80,81,82,83,84,85,86,87,88,89][c]?.getD 0
theorem Jpc (G:J5) (w:Bb):V4 Tryz.prog 48 #[Sr w] G [] (fun u _ L'=>(KN w<12)∧u=.agg #[I (Yp (KN w)),Fv (Jad (KN w)) #[]]∧L'=[]) (fun u _ L'=>(KN w=12)∧u=Y5 1∧L'=[]):=by
 refine W0 Tryz.func48 42 [(0,Sr w)] rfl (fun w0 G0 hT=>Jf (Jd (Jv 2 #[I 0,.nilFunc] 127 (fun b1=>Je (Jc (Jf (Jg [0] [(3,Sr w)] (Jy (Jg [0,0] [(4,Bo ((B w).toList == (B ([99,108,101,114,107])).toList))] (QU 4 (Bo (w == [99,108,101,114,107])) (show (Bo ((B w).toList == (B ([99,108,101,114,107])).toList):Value)=Bo (w == [99,108,101,114,107]) by simp only [Qx]) (Jl (w == [99,108,101,114,107]) (fun h1=>?_) (fun h1=>?_))))))))))))
 refine QF [0,3] [] [[Sg b1 0 [I 3,Fv 78 #[]]]] (Jn (Ju (Jj (Jo [0] [.agg #[I 3,Fv 78 #[]]] (V5 (JD [] (Jh _) ?_))))))
 subst h1;exact ⟨by decide,rfl,rfl⟩
 refine Jg [0,0] [(7,Bo ((B w).toList == (B ([112,111,108,108,115])).toList))] (QU 7 (Bo (w == [112,111,108,108,115])) (show (Bo ((B w).toList == (B ([112,111,108,108,115])).toList):Value)=Bo (w == [112,111,108,108,115]) by simp only [Qx]) (Jl (w == [112,111,108,108,115]) (fun h2=>?_) (fun h2=>?_)))
 refine QF [0,3] [] [[Sg b1 0 [I 3,Fv 79 #[]]]] (Jn (Ju (Jj (Jo [0] [.agg #[I 3,Fv 79 #[]]] (V5 (JD [] (Jh _) ?_))))))
 subst h2;exact ⟨by decide,rfl,rfl⟩
 refine Jg [0,0] [(10,Bo ((B w).toList == (B ([114,101,97,99,104])).toList))] (QU 10 (Bo (w == [114,101,97,99,104])) (show (Bo ((B w).toList == (B ([114,101,97,99,104])).toList):Value)=Bo (w == [114,101,97,99,104]) by simp only [Qx]) (Jl (w == [114,101,97,99,104]) (fun h3=>?_) (fun h3=>?_)))
 refine QF [0,3] [] [[Sg b1 0 [I 1,Fv 80 #[]]]] (Jn (Ju (Jj (Jo [0] [.agg #[I 1,Fv 80 #[]]] (V5 (JD [] (Jh _) ?_))))))
 subst h3;exact ⟨by decide,rfl,rfl⟩
 refine Jg [0,0] [(13,Bo ((B w).toList == (B ([111,119,110,101,114])).toList))] (QU 13 (Bo (w == [111,119,110,101,114])) (show (Bo ((B w).toList == (B ([111,119,110,101,114])).toList):Value)=Bo (w == [111,119,110,101,114]) by simp only [Qx]) (Jl (w == [111,119,110,101,114]) (fun h4=>?_) (fun h4=>?_)))
 refine QF [0,3] [] [[Sg b1 0 [I 2,Fv 81 #[]]]] (Jn (Ju (Jj (Jo [0] [.agg #[I 2,Fv 81 #[]]] (V5 (JD [] (Jh _) ?_))))))
 subst h4;exact ⟨by decide,rfl,rfl⟩
 refine Jg [0,0] [(16,Bo ((B w).toList == (B ([119,97,110,116])).toList))] (QU 16 (Bo (w == [119,97,110,116])) (show (Bo ((B w).toList == (B ([119,97,110,116])).toList):Value)=Bo (w == [119,97,110,116]) by simp only [Qx]) (Jl (w == [119,97,110,116]) (fun h5=>?_) (fun h5=>?_)))
 refine QF [0,3] [] [[Sg b1 0 [I 2,Fv 82 #[]]]] (Jn (Ju (Jj (Jo [0] [.agg #[I 2,Fv 82 #[]]] (V5 (JD [] (Jh _) ?_))))))
 subst h5;exact ⟨by decide,rfl,rfl⟩
 refine Jg [0,0] [(19,Bo ((B w).toList == (B ([102,97,116,101])).toList))] (QU 19 (Bo (w == [102,97,116,101])) (show (Bo ((B w).toList == (B ([102,97,116,101])).toList):Value)=Bo (w == [102,97,116,101]) by simp only [Qx]) (Jl (w == [102,97,116,101]) (fun h6=>?_) (fun h6=>?_)))
 refine QF [0,3] [] [[Sg b1 0 [I (-1),Fv 83 #[]]]] (Jn (Ju (Jj (Jo [0] [.agg #[I (-1),Fv 83 #[]]] (V5 (JD [] (Jh _) ?_))))))
 subst h6;exact ⟨by decide,rfl,rfl⟩
 refine Jg [0,0] [(22,Bo ((B w).toList == (B ([116,105,99,107])).toList))] (QU 22 (Bo (w == [116,105,99,107])) (show (Bo ((B w).toList == (B ([116,105,99,107])).toList):Value)=Bo (w == [116,105,99,107]) by simp only [Qx]) (Jl (w == [116,105,99,107]) (fun h7=>?_) (fun h7=>?_)))
 refine QF [0,3] [] [[Sg b1 0 [I 1,Fv 84 #[]]]] (Jn (Ju (Jj (Jo [0] [.agg #[I 1,Fv 84 #[]]] (V5 (JD [] (Jh _) ?_))))))
 subst h7;exact ⟨by decide,rfl,rfl⟩
 refine Jg [0,0] [(25,Bo ((B w).toList == (B ([110,111,119])).toList))] (QU 25 (Bo (w == [110,111,119])) (show (Bo ((B w).toList == (B ([110,111,119])).toList):Value)=Bo (w == [110,111,119]) by simp only [Qx]) (Jl (w == [110,111,119]) (fun h8=>?_) (fun h8=>?_)))
 refine QF [0,3] [] [[Sg b1 0 [I 0,Fv 85 #[]]]] (Jn (Ju (Jj (Jo [0] [.agg #[I 0,Fv 85 #[]]] (V5 (JD [] (Jh _) ?_))))))
 subst h8;exact ⟨by decide,rfl,rfl⟩
 refine Jg [0,0] [(28,Bo ((B w).toList == (B ([108,111,111,107])).toList))] (QU 28 (Bo (w == [108,111,111,107])) (show (Bo ((B w).toList == (B ([108,111,111,107])).toList):Value)=Bo (w == [108,111,111,107]) by simp only [Qx]) (Jl (w == [108,111,111,107]) (fun h9=>?_) (fun h9=>?_)))
 refine QF [0,3] [] [[Sg b1 0 [I 2,Fv 86 #[]]]] (Jn (Ju (Jj (Jo [0] [.agg #[I 2,Fv 86 #[]]] (V5 (JD [] (Jh _) ?_))))))
 subst h9;exact ⟨by decide,rfl,rfl⟩
 refine Jg [0,0] [(31,Bo ((B w).toList == (B ([101,118,101,110,116,115])).toList))] (QU 31 (Bo (w == [101,118,101,110,116,115])) (show (Bo ((B w).toList == (B ([101,118,101,110,116,115])).toList):Value)=Bo (w == [101,118,101,110,116,115]) by simp only [Qx]) (Jl (w == [101,118,101,110,116,115]) (fun h10=>?_) (fun h10=>?_)))
 refine QF [0,3] [] [[Sg b1 0 [I 0,Fv 87 #[]]]] (Jn (Ju (Jj (Jo [0] [.agg #[I 0,Fv 87 #[]]] (V5 (JD [] (Jh _) ?_))))))
 subst h10;exact ⟨by decide,rfl,rfl⟩
 refine Jg [0,0] [(34,Bo ((B w).toList == (B ([115,101,101,110])).toList))] (QU 34 (Bo (w == [115,101,101,110])) (show (Bo ((B w).toList == (B ([115,101,101,110])).toList):Value)=Bo (w == [115,101,101,110]) by simp only [Qx]) (Jl (w == [115,101,101,110]) (fun h11=>?_) (fun h11=>?_)))
 refine QF [0,3] [] [[Sg b1 0 [I 1,Fv 88 #[]]]] (Jn (Ju (Jj (Jo [0] [.agg #[I 1,Fv 88 #[]]] (V5 (JD [] (Jh _) ?_))))))
 subst h11;exact ⟨by decide,rfl,rfl⟩
 refine Jg [0,0] [(37,Bo ((B w).toList == (B ([109,97,114,107])).toList))] (QU 37 (Bo (w == [109,97,114,107])) (show (Bo ((B w).toList == (B ([109,97,114,107])).toList):Value)=Bo (w == [109,97,114,107]) by simp only [Qx]) (Jl (w == [109,97,114,107]) (fun h12=>?_) (fun h12=>?_)))
 refine QF [0,3] [] [[Sg b1 0 [I 0,Fv 89 #[]]]] (Jn (Ju (Jj (Jo [0] [.agg #[I 0,Fv 89 #[]]] (V5 (JD [] (Jh _) ?_))))))
 subst h12;exact ⟨by decide,rfl,rfl⟩
 refine Jq (JM (Jc (Jf (Jd (KG (Ls:=[]) (Lr:=[[Sg b1 0 [I 0,.nilFunc]]]) 40 hT ((ZN G 1).frame) (fun v G1 L1 hl1 hp=>?_) (fun v G1 L1 hl1 hp=>?_))))))
 obtain ⟨_,rfl,rfl⟩:=hp
 exact J8 (Wt (Jcp [] hl1 (⟨by unfold KN cmdT;simp only [List.findIdx_cons];simp_all,rfl,rfl⟩)))
 obtain ⟨he1,rfl,rfl⟩:=hp
 exact absurd he1 (by decide)
abbrev Jbd (s:Kx):=Jt s ([]:List K6)
theorem Jcl (G:J5) (b:Nat) (t:KD) (a_0:Ba) (c_0:Nat) (a_1:Ba) (c_1:Nat) (a_9:Ba) (c_9:Nat) (r_9:Bg) (h_0:RS ES G a_0 c_0 t.setup.names) (h_1:RS EU G a_1 c_1 t.setup.keys) (h_2:rI t.setup.most) (h_3:rI t.setup.batch) (h_4:rI t.setup.every) (h_5:rI t.setup.least) (h_6:rI t.setup.top) (h_7:rI t.setup.lost) (h_8:rI t.setup.reach) (h_9:JR Wh G a_9 c_9 t.deeds r_9) (vs_s:Bv) (s:Kx) (h_s:Jkk.R G vs_s s) (ht:t.deeds.length≤200):Zg Tryz.prog 135 #[Pt b 0,.agg vs_s.toArray] G [[Sg b 0 [Sl a_0 t.setup.names.length c_0,Sl a_1 t.setup.keys.length c_1,I t.setup.most,I t.setup.batch,I t.setup.every,I t.setup.least,I t.setup.top,I t.setup.lost,I t.setup.reach,Sl a_9 t.deeds.length c_9]],r_9] (fun u G' L'=>((W8 t s).2=0)∧∃ (az1:Ba) (cz2:Nat) (az3:Ba) (cz4:Nat) (az5:Ba) (cz6:Nat) (az7:Ba) (cz8:Nat) (rz9:Bg),u=Sl az1 (([]:Bs).length) cz2∧(RS ES G' az1 cz2 ([]:Bs))∧(RS ES G' az3 cz4 (((W8 t s).1).setup.names))∧(RS EU G' az5 cz6 (((W8 t s).1).setup.keys))∧(rI (((W8 t s).1).setup.most))∧(rI (((W8 t s).1).setup.batch))∧(rI (((W8 t s).1).setup.every))∧(rI (((W8 t s).1).setup.least))∧(rI (((W8 t s).1).setup.top))∧(rI (((W8 t s).1).setup.lost))∧(rI (((W8 t s).1).setup.reach))∧(JR Wh G' az7 cz8 (((W8 t s).1).deeds) rz9)∧L'=[[Sg b 0 [Sl az3 ((((W8 t s).1).setup.names).length) cz4,Sl az5 ((((W8 t s).1).setup.keys).length) cz6,I (((W8 t s).1).setup.most),I (((W8 t s).1).setup.batch),I (((W8 t s).1).setup.every),I (((W8 t s).1).setup.least),I (((W8 t s).1).setup.top),I (((W8 t s).1).setup.lost),I (((W8 t s).1).setup.reach),Sl az7 ((((W8 t s).1).deeds).length) cz8]],rz9]) (fun u _ L'=>(¬ (W8 t s).2=0)∧u=Y5 ((W8 t s).2)∧L'=[[Sg b 0 [Sl a_0 t.setup.names.length c_0,Sl a_1 t.setup.keys.length c_1,I t.setup.most,I t.setup.batch,I t.setup.every,I t.setup.least,I t.setup.top,I t.setup.lost,I t.setup.reach,Sl a_9 t.deeds.length c_9]],r_9]):=by
 obtain ⟨a1,c1,a2,c2,rfl,hs1,hs2,w1,w2,w3,w4,w5,w6,w7⟩:=h_s
 intro Lr
 refine W0 Tryz.func135 27 [(0,Pt b 0),(1,(YK s a1 c1 a2 c2))] rfl (fun w0 G0 hT=>?_)
 show TC _ _ _ _ _ ([Sg b 0 (J3 t a_0 c_0 a_1 c_1 a_9 c_9)]::r_9::Lr)
 refine Jf (Jd (Jv 3 #[Sl a1 s.names.length c1,Sl a2 s.keys.length c2,I s.most,I s.batch,I s.every,I s.least,I s.top,I s.lost,I s.reach] 72 (fun b1=>Jb [0] [] (Je (Jc (Jf (Jg [0,0,0,4,0,0] [(13,Bo (decide ((t.deeds.length:Int) > 0)))] (Jl (decide ((t.deeds.length:Int) > 0)) (fun h1=>?_) (fun h1=>?_)))))))))
 refine Jd (KG (Ls:=[]) (Lr:=([Sg b1 0 (WI s a1 c1 a2 c2)]::[Sg b 0 (J3 t a_0 c_0 a_1 c_1 a_9 c_9)]::r_9::Lr)) 14 hT ((ZN G 9).frame) (fun v G1 L1 hl1 hp=>?_) (fun v G1 L1 hl1 hp=>?_))
 obtain ⟨hne1,rfl,rfl⟩:=hp
 refine J8 ?_
 have hp1:(W8 t s).2=9:=by
  exact Jnf (by omega)
 refine Wt (QO (Lr:=Lr) [[Sg b 0 (J3 t a_0 c_0 a_1 c_1 a_9 c_9)],r_9] hl1 ?_)
 rw [hp1];exact ⟨hne1,rfl,rfl⟩
 obtain ⟨he1,rfl,rfl⟩:=hp
 exact absurd he1 (by decide)
 refine Jq (Jc (Jf (Jd (Jb [2] [(16,(YK s a1 c1 a2 c2))] (Jj9 (Jw 0 (Qi (Ls:=[[]]) (Lr:=([Sg b1 0 (WI s a1 c1 a2 c2)]::[Sg b 0 (J3 t a_0 c_0 a_1 c_1 a_9 c_9)]::r_9::Lr)) 17 (Jez G (WI s a1 c1 a2 c2) s (⟨a1,c1,a2,c2,rfl,hs1,hs2,w1,w2,w3,w4,w5,w6,w7⟩) none 0 ([]:List K6) ([]) (JR.none Wh _)) (fun v G2 L1 hl2 hp=>?_))))))))
 obtain ⟨a3,c3,a4,c4,a5,c5,a6,c6,a7,c7,a8,c8,a9,c9,rfl,_,_,_,_,_,_,_,_,_,_,_,_,rfl⟩:=hp
 refine Jb [0,0,0,0] [(18,(VT (Jbd s).1 a3 c3 a4 c4 a5 c5 a6 c6 a7 c7 a8 c8)),(19,Sl a9 (((Jbd s).2.1).length) c9),(20,I ((Jbd s).2.2))] (Jv 5 #[I 0,Sl none 0 0,I 0,I 0,I 0,Sl none 0 0,Sl none 0 0,Sl none 0 0,Sl none 0 0,I 0,Sl none 0 0] 67 (fun b2=>JW [3,0,0] [(7,I ((Jbd s).2.2))] ([Sg b2 0 (ZU (Jbd s).1 a3 c3 a4 c4 a5 c5 a6 c6 a7 c7 a8 c8)]::[]::[Sg b1 0 (WI s a1 c1 a2 c2)]::[Sg b 0 (J3 t a_0 c_0 a_1 c_1 a_9 c_9)]::r_9::Lr) (Je (Jc (Jf (Jd (Jb [0] [(21,I ((Jbd s).2.2))] (KG (Ls:=[]) (Lr:=([Sg b2 0 (ZU (Jbd s).1 a3 c3 a4 c4 a5 c5 a6 c6 a7 c7 a8 c8)]::[]::[Sg b1 0 (WI s a1 c1 a2 c2)]::[Sg b 0 (J3 t a_0 c_0 a_1 c_1 a_9 c_9)]::r_9::Lr)) 22 hT ((ZN G2 ((Jbd s).2.2)).frame) (fun v G3 L1 hl3 hp=>?_) (fun v G3 L1 hl3 hp=>?_)))))))))
 obtain ⟨hne2,rfl,rfl⟩:=hp
 refine J8 ?_
 have hp3:(W8 t s).2=(Jbd s).2.2:=by
  exact Jpa J4 ‹_›
 refine Wt (QO (Lr:=Lr) [[Sg b 0 (J3 t a_0 c_0 a_1 c_1 a_9 c_9)],r_9] (Ja hl2 hl3) ?_)
 rw [hp3];exact ⟨hne2,rfl,rfl⟩
 obtain ⟨_,rfl,rfl⟩:=hp
 refine Je (Jc (QF [0,6,0,0,9] [] ([Sg b2 0 (ZU (Jbd s).1 a3 c3 a4 c4 a5 c5 a6 c6 a7 c7 a8 c8)]::[]::[Sg b1 0 (WI s a1 c1 a2 c2)]::[Sg b 0 (J3 (⟨s,t.deeds⟩:KD) a1 c1 a2 c2 a_9 c_9)]::r_9::Lr) (Jg [0] [(4,Sl none 0 0)] (Jn (Jk 4 (Jk 4 ?_))))))
 have hf1:(W8 t s).2=0∧([]:Bs)=[]∧(W8 t s).1=(⟨s,t.deeds⟩:KD):=by
  exact ⟨(JlZ J4 ‹_›).1,rfl,(JlZ J4 ‹_›).2⟩
 refine Jo [0] [Sl none 0 0] (V5 (KB (Lr:=Lr) [[Sg b 0 (J3 (⟨s,t.deeds⟩:KD) a1 c1 a2 c2 a_9 c_9)],r_9] (Ja hl2 hl3) ?_))
 rw [hf1.2.1,hf1.2.2]
 try dsimp only
 exact ⟨hf1.1,none,0,a1,c1,a2,c2,a_9,c_9,r_9,rfl,(J2 ES G3),(hs1.mono (Ja hl2 hl3)),(hs2.mono (Ja hl2 hl3)),w1,w2,w3,w4,w5,w6,w7,(h_9.mono (Ja hl2 hl3)),rfl⟩
theorem Jgs (G:J5) (b:Nat) (t:KD) (a_0:Ba) (c_0:Nat) (a_1:Ba) (c_1:Nat) (a_9:Ba) (c_9:Nat) (r_9:Bg) (h_0:RS ES G a_0 c_0 t.setup.names) (h_1:RS EU G a_1 c_1 t.setup.keys) (h_2:rI t.setup.most) (h_3:rI t.setup.batch) (h_4:rI t.setup.every) (h_5:rI t.setup.least) (h_6:rI t.setup.top) (h_7:rI t.setup.lost) (h_8:rI t.setup.reach) (h_9:JR Wh G a_9 c_9 t.deeds r_9) (a_l:Ba) (c_l:Nat) (l:List K6) (h_l:RS Wh G a_l c_l l) (ht:t.deeds.length≤200) (hl:l.length≤1048577):Zg Tryz.prog 138 #[Pt b 0,Sl a_l l.length c_l] G [[Sg b 0 [Sl a_0 t.setup.names.length c_0,Sl a_1 t.setup.keys.length c_1,I t.setup.most,I t.setup.batch,I t.setup.every,I t.setup.least,I t.setup.top,I t.setup.lost,I t.setup.reach,Sl a_9 t.deeds.length c_9]],r_9] (fun u G' L'=>((ZO t l).2=0)∧∃ (az1:Ba) (cz2:Nat) (az3:Ba) (cz4:Nat) (az5:Ba) (cz6:Nat) (az7:Ba) (cz8:Nat) (rz9:Bg),u=Sl az1 (([]:Bs).length) cz2∧(RS ES G' az1 cz2 ([]:Bs))∧(RS ES G' az3 cz4 (((ZO t l).1).setup.names))∧(RS EU G' az5 cz6 (((ZO t l).1).setup.keys))∧(rI (((ZO t l).1).setup.most))∧(rI (((ZO t l).1).setup.batch))∧(rI (((ZO t l).1).setup.every))∧(rI (((ZO t l).1).setup.least))∧(rI (((ZO t l).1).setup.top))∧(rI (((ZO t l).1).setup.lost))∧(rI (((ZO t l).1).setup.reach))∧(JR Wh G' az7 cz8 (((ZO t l).1).deeds) rz9)∧L'=[[Sg b 0 [Sl az3 ((((ZO t l).1).setup.names).length) cz4,Sl az5 ((((ZO t l).1).setup.keys).length) cz6,I (((ZO t l).1).setup.most),I (((ZO t l).1).setup.batch),I (((ZO t l).1).setup.every),I (((ZO t l).1).setup.least),I (((ZO t l).1).setup.top),I (((ZO t l).1).setup.lost),I (((ZO t l).1).setup.reach),Sl az7 ((((ZO t l).1).deeds).length) cz8]],rz9]) (fun u _ L'=>(¬ (ZO t l).2=0)∧u=Y5 ((ZO t l).2)∧L'=[[Sg b 0 [Sl a_0 t.setup.names.length c_0,Sl a_1 t.setup.keys.length c_1,I t.setup.most,I t.setup.batch,I t.setup.every,I t.setup.least,I t.setup.top,I t.setup.lost,I t.setup.reach,Sl a_9 t.deeds.length c_9]],r_9]):=by
 intro Lr
 refine W0 Tryz.func138 24 [(0,Pt b 0),(1,Sl a_l l.length c_l)] rfl (fun w0 G0 hT=>?_)
 show TC _ _ _ _ _ ([Sg b 0 (J3 t a_0 c_0 a_1 c_1 a_9 c_9)]::r_9::Lr)
 refine Jg [0] [] (Jf (Jg [0,0,0,0,0,2,0,0,0] [(13,Bo (decide ((l.length:Int) > Hi.wrap (200-(t.deeds.length:Int)))))] ?_))
 have e1:Hi.wrap (200-(t.deeds.length:Int))=200-(t.deeds.length:Int):=Hw _ (by omega)
 refine QU 13 (Bo (decide ((l.length:Int) > 200-(t.deeds.length:Int)))) (show (Bo (decide ((l.length:Int) > Hi.wrap (200-(t.deeds.length:Int)))):Value)=Bo (decide ((l.length:Int) > 200-(t.deeds.length:Int))) by simp only [e1]) ?_
 clear e1
 refine Jl (decide ((l.length:Int) > 200-(t.deeds.length:Int))) (fun h1=>?_) (fun h1=>?_)
 refine Jd (KG (Ls:=[]) (Lr:=([Sg b 0 (J3 t a_0 c_0 a_1 c_1 a_9 c_9)]::r_9::Lr)) 14 hT ((ZN G 2).frame) (fun v G1 L1 hl1 hp=>?_) (fun v G1 L1 hl1 hp=>?_))
 obtain ⟨hne1,rfl,rfl⟩:=hp
 refine J8 ?_
 have hp1:(ZO t l).2=2:=by
  exact Jpb (by omega)
 refine Wt (QO (Lr:=Lr) [[Sg b 0 (J3 t a_0 c_0 a_1 c_1 a_9 c_9)],r_9] hl1 ?_)
 rw [hp1];exact ⟨hne1,rfl,rfl⟩
 obtain ⟨he1,rfl,rfl⟩:=hp
 exact absurd he1 (by decide)
 refine Jq (Jc (Jf (Jd (Jb [0,0,0,0,2,0] [(15,Pt b 0),(19,Sl a_9 t.deeds.length c_9),(20,Sl a_l l.length c_l)] (Jbm 21 53 1 (E:=Wh) h_9 h_l J4 (by simp only [Wh];omega) (fun a1 c1 r1 hr1=>JW [0,0,3] [] ([Sg b 0 (J3 (⟨t.setup,(t.deeds++l)⟩:KD) a_0 c_0 a_1 c_1 a1 c1)]::r1::Lr) (Je (Jc (Jg [0] [(4,Sl none 0 0)] (Jn (Jk 1 (Jk 1 ?_))))))))))))
 have hf1:(ZO t l).2=0∧([]:Bs)=[]∧(ZO t l).1=(⟨t.setup,t.deeds++l⟩:KD):=by
  exact ⟨(Jl0 J4).1,rfl,(Jl0 J4).2⟩
 refine Jo [0] [Sl none 0 0] (V5 (KB (Lr:=Lr) [[Sg b 0 (J3 (⟨t.setup,(t.deeds++l)⟩:KD) a_0 c_0 a_1 c_1 a1 c1)],r1] (Jh _) ?_))
 rw [hf1.2.1,hf1.2.2]
 try dsimp only
 exact ⟨hf1.1,none,0,a_0,c_0,a_1,c_1,a1,c1,r1,rfl,(J2 ES G),h_0,h_1,‹_›,‹_›,‹_›,‹_›,‹_›,‹_›,‹_›,hr1,rfl⟩
def nth (l:List Int) (i:Nat):Int:=l[i]?.getD 0
theorem Jcx {l:List Int} {i:Nat} {x:Int} (h:l[i]? = some x):x=nth l i:=by unfold nth;rw [h];rfl
def V3 (l:Bs) (i:Nat):Bb:=l[i]?.getD []
theorem Q2 {l:Bs} {i:Nat} {x:Bb} (h:l[i]? = some x):x=V3 l i:=by unfold V3;rw [h];rfl
theorem Jgt (l:Bs):(KK l).1.length≤l.length:=by
 unfold KK;split <;> simp
theorem W5 {l:Bs} (h:(KK l).2=0):(KK l).1.length=l.length:=by rw [(Jnc h).1,Hj]
def Je6 (t:KD) (w:Bs) (f:List Int→Kx):KD×Int:=if ¬ (KK w).2=0 then (t,(KK w).2) else W8 t (f (KK w).1)
theorem Jcy {t:KD} {w:Bs} {f:List Int→Kx} (h:¬ (KK w).2=0):(Je6 t w f).2=(KK w).2:=by unfold Je6;rw [if_pos h]
theorem JjT {t:KD} {w:Bs} {f:List Int→Kx} (h:(KK w).2=0):Je6 t w f=W8 t (f (KK w).1):=by unfold Je6;rw [if_neg (by rw [Hu];exact h)]
def Jpd (s:Kx) (n:List Int):Kx:=⟨s.names,s.keys,nth n 0,nth n 1,nth n 2,s.least,s.top,s.lost,s.reach⟩
def Jpe (s:Kx) (n:List Int):Kx:=⟨s.names,s.keys,s.most,s.batch,s.every,nth n 0,nth n 1,nth n 2,s.reach⟩
def Jpf (s:Kx) (n:Int):Kx:=⟨s.names,s.keys,s.most,s.batch,s.every,s.least,s.top,s.lost,n⟩
def WY (t:KD) (w:Bs):KD×Int:=Je6 t w (Jpd t.setup)
def WZ (t:KD) (w:Bs):KD×Int:=Je6 t w (Jpe t.setup)
theorem Jhz {t:KD} {w:Bs} {x y z:Int} (he:(KK w).2=0) (h0:(KK w).1[0]? = some x) (h1:(KK w).1[1]? = some y) (h2:(KK w).1[2]? = some z):WY t w=W8 t ⟨t.setup.names,t.setup.keys,x,y,z,t.setup.least,t.setup.top,t.setup.lost,t.setup.reach⟩:=by
 unfold WY;rw [JjT he,Jpd,← Jcx h0,← Jcx h1,← Jcx h2]
theorem JhA {t:KD} {w:Bs} {x y z:Int} (he:(KK w).2=0) (h0:(KK w).1[0]? = some x) (h1:(KK w).1[1]? = some y) (h2:(KK w).1[2]? = some z):WZ t w=W8 t ⟨t.setup.names,t.setup.keys,t.setup.most,t.setup.batch,t.setup.every,x,y,z,t.setup.reach⟩:=by
 unfold WZ;rw [JjT he,Jpe,← Jcx h0,← Jcx h1,← Jcx h2]
def WQ (t:KD) (w:Bs):KD×Int:=if ¬ (Kb (V3 w 0)).2=0 then (t,(Kb (V3 w 0)).2) else W8 t (Jpf t.setup (Kb (V3 w 0)).1)
abbrev letZ:JU:=⟨0,0,0,0,[],⟨⟨0,0,0,0⟩,⟨[],[],[]⟩⟩⟩
def Wx (t:KD) (w:Bs):KD×Int:=if ¬ (Kb (V3 w 1)).2=0 then (t,(Kb (V3 w 1)).2) else W8 t ⟨t.setup.names++[V3 w 0],t.setup.keys++[(Kb (V3 w 1)).1],t.setup.most,t.setup.batch,t.setup.every,t.setup.least,t.setup.top,t.setup.lost,t.setup.reach⟩
def Zu (t:KD) (w:Bs):KD×Int:=if ¬ (Kb (V3 w 0)).2=0 then (t,(Kb (V3 w 0)).2) else ZO t [⟨1,(Kb (V3 w 0)).1,V3 w 1,[],letZ⟩]
def Zv (t:KD) (w:Bs):KD×Int:=if ¬ (KK w).2=0 then (t,(KK w).2) else ZO t [⟨2,0,[],(KK w).1,letZ⟩]
def Zw (t:KD) (w:Bs):KD×Int:=if ¬ (Kb (V3 w 0)).2=0 then (t,(Kb (V3 w 0)).2) else ZO t (Hc (if 201<(Kb (V3 w 0)).1 then 201 else (Kb (V3 w 0)).1).toNat ⟨4,0,[],[],letZ⟩)
theorem Jgu {t:KD} {w:Bs} {y:Bb} (h:w[1]? = some y) (he:¬ (Kb y).2=0):(Wx t w).2=(Kb y).2:=by unfold Wx;rw [← Q2 h,if_pos he]
theorem Jcz {t:KD} {w:Bs} {x y:Bb} (h:w[1]? = some y) (h0:w[0]? = some x) (he:(Kb y).2=0):Wx t w=W8 t ⟨t.setup.names++[x],t.setup.keys++[(Kb y).1],t.setup.most,t.setup.batch,t.setup.every,t.setup.least,t.setup.top,t.setup.lost,t.setup.reach⟩:=by unfold Wx;rw [← Q2 h,← Q2 h0,if_neg (by omega)]
theorem Jng {t:KD} {w:Bs} {y:Bb} (h:w[0]? = some y) (he:¬ (Kb y).2=0):(Zu t w).2=(Kb y).2:=by unfold Zu;rw [← Q2 h,if_pos he]
theorem JjU {t:KD} {w:Bs} {x y:Bb} (h:w[0]? = some y) (h0:w[1]? = some x) (he:(Kb y).2=0):Zu t w=ZO t [⟨1,(Kb y).1,x,[],letZ⟩]:=by unfold Zu;rw [← Q2 h,← Q2 h0,if_neg (by omega)]
theorem Jnh {t:KD} {w:Bs} {y:Bb} (h:w[0]? = some y) (he:¬ (Kb y).2=0):(Zw t w).2=(Kb y).2:=by unfold Zw;rw [← Q2 h,if_pos he]
theorem JjV {t:KD} {w:Bs} {y:Bb} {k:Nat} (h:w[0]? = some y) (he:(Kb y).2=0) (hk:(if 201<(Kb y).1 then 201 else (Kb y).1)=(k:Int)):Zw t w=ZO t (Hc k ⟨4,0,[],[],letZ⟩):=by unfold Zw;rw [← Q2 h,if_neg (by omega),hk];rfl
theorem Jni {t:KD} {w:Bs} (he:¬ (KK w).2=0):(Zv t w).2=(KK w).2:=by unfold Zv;rw [if_pos he]
theorem JjW {t:KD} {w:Bs} (he:(KK w).2=0):Zv t w=ZO t [⟨2,0,[],(KK w).1,letZ⟩]:=by unfold Zv;rw [if_neg (by omega)]
set_option maxRecDepth 20000 in
theorem Jk2 (G:J5) (b:Nat) (t:KD) (a_0:Ba) (c_0:Nat) (a_1:Ba) (c_1:Nat) (a_9:Ba) (c_9:Nat) (r_9:Bg) (h_0:RS ES G a_0 c_0 t.setup.names) (h_1:RS EU G a_1 c_1 t.setup.keys) (h_2:rI t.setup.most) (h_3:rI t.setup.batch) (h_4:rI t.setup.every) (h_5:rI t.setup.least) (h_6:rI t.setup.top) (h_7:rI t.setup.lost) (h_8:rI t.setup.reach) (h_9:JR Wh G a_9 c_9 t.deeds r_9) (a_w:Ba) (c_w:Nat) (w:Bs) (h_w:RS ES G a_w c_w w) (hw:w.length=3) (hs:∀ s∈w,s.length≤1048576) (ht:t.deeds.length≤200) (hn:t.setup.names.length≤1000) (hk:t.setup.keys.length≤1000):Zg Tryz.prog 78 #[Pt b 0,Sl a_w w.length c_w] G [[Sg b 0 [Sl a_0 t.setup.names.length c_0,Sl a_1 t.setup.keys.length c_1,I t.setup.most,I t.setup.batch,I t.setup.every,I t.setup.least,I t.setup.top,I t.setup.lost,I t.setup.reach,Sl a_9 t.deeds.length c_9]],r_9] (fun u G' L'=>((WY t w).2=0)∧∃ (az1:Ba) (cz2:Nat) (az3:Ba) (cz4:Nat) (az5:Ba) (cz6:Nat) (az7:Ba) (cz8:Nat) (rz9:Bg),u=Sl az1 (([]:Bs).length) cz2∧(RS ES G' az1 cz2 ([]:Bs))∧(RS ES G' az3 cz4 (((WY t w).1).setup.names))∧(RS EU G' az5 cz6 (((WY t w).1).setup.keys))∧(rI (((WY t w).1).setup.most))∧(rI (((WY t w).1).setup.batch))∧(rI (((WY t w).1).setup.every))∧(rI (((WY t w).1).setup.least))∧(rI (((WY t w).1).setup.top))∧(rI (((WY t w).1).setup.lost))∧(rI (((WY t w).1).setup.reach))∧(JR Wh G' az7 cz8 (((WY t w).1).deeds) rz9)∧L'=[[Sg b 0 [Sl az3 ((((WY t w).1).setup.names).length) cz4,Sl az5 ((((WY t w).1).setup.keys).length) cz6,I (((WY t w).1).setup.most),I (((WY t w).1).setup.batch),I (((WY t w).1).setup.every),I (((WY t w).1).setup.least),I (((WY t w).1).setup.top),I (((WY t w).1).setup.lost),I (((WY t w).1).setup.reach),Sl az7 ((((WY t w).1).deeds).length) cz8]],rz9]) (fun u _ L'=>(¬ (WY t w).2=0)∧u=Y5 ((WY t w).2)∧L'=[[Sg b 0 [Sl a_0 t.setup.names.length c_0,Sl a_1 t.setup.keys.length c_1,I t.setup.most,I t.setup.batch,I t.setup.every,I t.setup.least,I t.setup.top,I t.setup.lost,I t.setup.reach,Sl a_9 t.deeds.length c_9]],r_9]):=by
 intro Lr
 refine W0 Tryz.func78 28 [(0,Pt b 0),(1,Sl a_w w.length c_w)] rfl (fun w0 G0 hT=>?_)
 show TC _ _ _ _ _ ([Sg b 0 (J3 t a_0 c_0 a_1 c_1 a_9 c_9)]::r_9::Lr)
 refine Jg [0] [] ?_
 refine Ye (σ:=Ba×Nat×Nat×Bg×J5) (fun q_=>(J5.le G q_.2.2.2.2)∧(JR EI q_.2.2.2.2 q_.1 q_.2.1 ((KK w).1) q_.2.2.2.1)∧((KK w).2=0)) (fun q_=>[(0,Pt b 0),(5,Sl q_.1 (((KK w).1).length) q_.2.1),(6,Pt q_.2.2.1 0)]) (fun q_=>q_.2.2.2.2) (fun q_=>([Sg q_.2.2.1 0 (WI t.setup a_0 c_0 a_1 c_1)]::q_.2.2.2.1::[Sg b 0 (J3 t a_0 c_0 a_1 c_1 a_9 c_9)]::r_9::Lr)) ?_ (fun q_ hs=>?_)
 refine Kt [1,6,8] (Wm [(0,Sl a_w w.length c_w),(2,Pt b 0),(3,Pt b 0),(4,Pt b 0),(5,(YK t.setup a_0 c_0 a_1 c_1))] (JF [] [(0,0),(2,0),(3,0),(4,0),(5,2)] [] [1,6] (Ha _) (Kf ?_ (Kf ?_ KY))))
 refine Jz 1 [(7,Sl a_w w.length c_w)] (fun X=>?_)
 refine KG (Ls:=[]) (Lr:=([Sg b 0 (J3 t a_0 c_0 a_1 c_1 a_9 c_9)]::r_9::Lr)) 8 hT ((VN G a_w c_w w h_w J4 ‹_›).frame) (fun v G1 L1 hl1 hp=>?_) (fun v G1 L1 hl1 hp=>?_)
 obtain ⟨hne1,rfl,rfl⟩:=hp
 refine J8 (J8 ?_)
 have hp1:(WY t w).2=(KK w).2:=by
  exact Jcy ‹_›
 refine Wt (QO (Lr:=Lr) [[Sg b 0 (J3 t a_0 c_0 a_1 c_1 a_9 c_9)],r_9] hl1 ?_)
 rw [hp1];exact ⟨hne1,rfl,rfl⟩
 obtain ⟨he2,a1,c1,r1,rfl,hr1,rfl⟩:=hp
 refine JA [(1,Sl a1 (((KK w).1).length) c1)] (JF [0] [(2,0),(3,0),(4,0),(5,4)] [] [6] (Ha _) (Kf ?_ KY))
 refine Jz 6 [] (fun X=>?_)
 refine Jv 6 #[Sl none 0 0,Sl none 0 0,I 0,I 0,I 0,I 0,I 0,I 0,I 0] 72 (fun b1=>JA [(6,Pt b1 0),(7,Sl a1 (((KK w).1).length) c1)] (JF [0] [(2,0),(3,0),(4,0),(5,6),(7,0)] [] [8] (Ha _) (Kf ?_ KY)))
 refine Jz 8 [(6,Pt b1 0),(12,(YK t.setup a_0 c_0 a_1 c_1))] (fun X=>?_)
 exact KC 0 ([Sg b1 0 (WI t.setup a_0 c_0 a_1 c_1)]::r1::[Sg b 0 (J3 t a_0 c_0 a_1 c_1 a_9 c_9)]::r_9::Lr) (J6 [] (Kl [0,2,3,4,5,7] [] [] [(0,Pt b 0),(5,Sl a1 (((KK w).1).length) c1),(6,Pt b1 0)] (Ha _) (QW (a1,c1,b1,r1,G1) ⟨hl1,hr1,he2⟩)))
 refine Jz 6 [] (fun X=>?_)
 refine Jv 6 #[Sl none 0 0,Sl none 0 0,I 0,I 0,I 0,I 0,I 0,I 0,I 0] 72 (fun b2=>JA [(6,Pt b2 0)] (JF [] [(0,0),(2,0),(3,0),(4,0),(5,4)] [] [1] (Ha _) (Kf ?_ KY)))
 refine Jz 1 [(7,Sl a_w w.length c_w)] (fun X=>?_)
 refine KG (Ls:=[]) (Lr:=([Sg b2 0 [Sl none 0 0,Sl none 0 0,I 0,I 0,I 0,I 0,I 0,I 0,I 0]]::[Sg b 0 (J3 t a_0 c_0 a_1 c_1 a_9 c_9)]::r_9::Lr)) 8 hT ((VN G a_w c_w w h_w J4 ‹_›).frame) (fun v G2 L1 hl2 hp=>?_) (fun v G2 L1 hl2 hp=>?_)
 obtain ⟨hne2,rfl,rfl⟩:=hp
 refine J8 (J8 ?_)
 have hp3:(WY t w).2=(KK w).2:=by
  exact Jcy ‹_›
 refine Wt (QO (Lr:=Lr) [[Sg b 0 (J3 t a_0 c_0 a_1 c_1 a_9 c_9)],r_9] hl2 ?_)
 rw [hp3];exact ⟨hne2,rfl,rfl⟩
 obtain ⟨he3,a2,c2,r2,rfl,hr2,rfl⟩:=hp
 refine JA [(1,Sl a2 (((KK w).1).length) c2),(7,Sl a2 (((KK w).1).length) c2)] (JF [0] [(2,0),(3,0),(4,0),(5,6),(7,0)] [] [8] (Ha _) (Kf ?_ KY))
 refine Jz 8 [(6,Pt b2 0),(12,(YK t.setup a_0 c_0 a_1 c_1))] (fun X=>?_)
 exact KC 1 (r2::[Sg b2 0 (WI t.setup a_0 c_0 a_1 c_1)]::[Sg b 0 (J3 t a_0 c_0 a_1 c_1 a_9 c_9)]::r_9::Lr) (J6 [] (Kl [0,2,3,4,5,7] [] [] [(0,Pt b 0),(5,Sl a2 (((KK w).1).length) c2),(6,Pt b2 0)] (Ha _) (Jk 3 (Jk 3 (Jk 2 (Jk 3 (QW (a2,c2,b2,r2,G2) ⟨hl2,hr2,he3⟩)))))))
 obtain ⟨a1,c1,b1,r1,G1⟩:=q_
 obtain ⟨hle1,hj1,he1⟩:=hs
 dsimp only at hle1 hj1 he1
 dsimp only
 refine JhN (E:=EI) 1 hj1 (by have q_:=Jgt w;simp only [EI];omega) (fun G3 hl3 hs1=>Jf ?_)
 obtain ⟨b3,o1,rfl⟩:=RS.addr hs1 (k:=0) (by (have q_:=W5 ‹_›;omega))
 obtain ⟨x1,hx1⟩:=QS (l:=(KK w).1) (k:=0) (by (have q_:=W5 ‹_›;omega))
 obtain ⟨_,⟨rfl,w1⟩,hc1⟩:=RS.get hs1 hx1
 obtain ⟨x2,hx2⟩:=QS (l:=(KK w).1) (k:=1) (by (have q_:=W5 ‹_›;omega))
 obtain ⟨_,⟨rfl,w2⟩,hc2⟩:=RS.get hs1 hx2
 obtain ⟨x3,hx3⟩:=QS (l:=(KK w).1) (k:=2) (by (have q_:=W5 ‹_›;omega))
 obtain ⟨_,⟨rfl,w3⟩,hc3⟩:=RS.get hs1 hx3
 refine Kt [10,12,14] (Wm [(0,Sl (At b3 o1) (((KK w).1).length) c1),(1,Pt b3 (o1+0*1)),(2,I x1),(3,Sl (At b3 o1) (((KK w).1).length) c1),(4,Pt b3 (o1+1*1)),(5,I x2),(6,Sl (At b3 o1) (((KK w).1).length) c1),(7,Pt b3 (o1+2*1)),(8,I x3),(9,Pt b1 2)] (JF [] [(0,0),(3,0),(6,0),(9,0)] [1,2,4,5,7,8] [10] (Kf ?_ (Kf ?_ (Kf ?_ (Kf ?_ (Kf ?_ (Kf ?_ KY)))))) (Kf ?_ KY)))
 refine Jr 1 14 (Pt b3 (o1+0*1)) [(13,Sl (At b3 o1) (((KK w).1).length) c1)] (fun X=>?_)
 exact JV (b:=b3) (off:=o1) (len:=((KK w).1).length) (cap:=c1) (ik:=.i64) 14 3 1 0 (by (have q_:=W5 ‹_›;omega)) Jp
 refine Jr 2 15 (I x1) [(14,Pt b3 (o1+0*1))] (fun X=>?_)
 exact JO 15 3 (cs:=[I x1]) 0 (I x1) hc1 Jp
 refine Jr 4 17 (Pt b3 (o1+1*1)) [(16,Sl (At b3 o1) (((KK w).1).length) c1)] (fun X=>?_)
 exact JV (b:=b3) (off:=o1) (len:=((KK w).1).length) (cap:=c1) (ik:=.i64) 17 3 1 1 (by (have q_:=W5 ‹_›;omega)) Jp
 refine Jr 5 18 (I x2) [(17,Pt b3 (o1+1*1))] (fun X=>?_)
 exact JO 18 3 (cs:=[I x2]) 0 (I x2) hc2 Jp
 refine Jr 7 20 (Pt b3 (o1+2*1)) [(19,Sl (At b3 o1) (((KK w).1).length) c1)] (fun X=>?_)
 exact JV (b:=b3) (off:=o1) (len:=((KK w).1).length) (cap:=c1) (ik:=.i64) 20 3 1 2 (by (have q_:=W5 ‹_›;omega)) Jp
 refine Jr 8 21 (I x3) [(20,Pt b3 (o1+2*1))] (fun X=>?_)
 exact JO 21 3 (cs:=[I x3]) 0 (I x3) hc3 Jp
 refine Jz 10 [(15,I x1),(22,Pt b1 2)] (fun X=>?_)
 refine KC 0 ([Sg b1 0 [Sl a_0 t.setup.names.length c_0,Sl a_1 t.setup.keys.length c_1,I x1,I t.setup.batch,I t.setup.every,I t.setup.least,I t.setup.top,I t.setup.lost,I t.setup.reach]]::[]::[Sg b 0 (J3 t a_0 c_0 a_1 c_1 a_9 c_9)]::r_9::Lr) (J6 [(11,Pt b1 3)] (JF [0,1,2,9] [(3,0),(6,0),(11,0)] [4,5,7,8] [12] (Kf ?_ (Kf ?_ (Kf ?_ (Kf ?_ KY)))) (Kf ?_ KY)))
 refine Jr 4 17 (Pt b3 (o1+1*1)) [(16,Sl (At b3 o1) (((KK w).1).length) c1)] (fun X=>?_)
 exact JV (b:=b3) (off:=o1) (len:=((KK w).1).length) (cap:=c1) (ik:=.i64) 17 3 1 1 (by (have q_:=W5 ‹_›;omega)) Jp
 refine Jr 5 18 (I x2) [(17,Pt b3 (o1+1*1))] (fun X=>?_)
 exact JO 18 3 (cs:=[I x2]) 0 (I x2) hc2 Jp
 refine Jr 7 20 (Pt b3 (o1+2*1)) [(19,Sl (At b3 o1) (((KK w).1).length) c1)] (fun X=>?_)
 exact JV (b:=b3) (off:=o1) (len:=((KK w).1).length) (cap:=c1) (ik:=.i64) 20 3 1 2 (by (have q_:=W5 ‹_›;omega)) Jp
 refine Jr 8 21 (I x3) [(20,Pt b3 (o1+2*1))] (fun X=>?_)
 exact JO 21 3 (cs:=[I x3]) 0 (I x3) hc3 Jp
 refine Jz 12 [(18,I x2),(23,Pt b1 3)] (fun X=>?_)
 refine KC 0 ([Sg b1 0 [Sl a_0 t.setup.names.length c_0,Sl a_1 t.setup.keys.length c_1,I x1,I x2,I t.setup.every,I t.setup.least,I t.setup.top,I t.setup.lost,I t.setup.reach]]::[]::[Sg b 0 (J3 t a_0 c_0 a_1 c_1 a_9 c_9)]::r_9::Lr) (J6 [(13,Pt b1 4)] (JF [0,1,2,3,4,5,9,11] [(6,0),(13,0)] [7,8] [14] (Kf ?_ (Kf ?_ KY)) (Kf ?_ KY)))
 refine Jr 7 20 (Pt b3 (o1+2*1)) [(19,Sl (At b3 o1) (((KK w).1).length) c1)] (fun X=>?_)
 exact JV (b:=b3) (off:=o1) (len:=((KK w).1).length) (cap:=c1) (ik:=.i64) 20 3 1 2 (by (have q_:=W5 ‹_›;omega)) Jp
 refine Jr 8 21 (I x3) [(20,Pt b3 (o1+2*1))] (fun X=>?_)
 exact JO 21 3 (cs:=[I x3]) 0 (I x3) hc3 Jp
 refine Jz 14 [(21,I x3),(24,Pt b1 4)] (fun X=>?_)
 refine KC 0 ([Sg b1 0 [Sl a_0 t.setup.names.length c_0,Sl a_1 t.setup.keys.length c_1,I x1,I x2,I x3,I t.setup.least,I t.setup.top,I t.setup.lost,I t.setup.reach]]::[]::[Sg b 0 (J3 t a_0 c_0 a_1 c_1 a_9 c_9)]::r_9::Lr) (J6 [] (Kl [0,1,2,3,4,5,6,7,8,9,11,13] [] [] [(0,Pt b 0),(6,Pt b1 0)] (Ha _) (Jc (Jf (Jd (Jb [0,2] [(25,Pt b 0),(26,.agg #[Sl a_0 t.setup.names.length c_0,Sl a_1 t.setup.keys.length c_1,I x1,I x2,I x3,I t.setup.least,I t.setup.top,I t.setup.lost,I t.setup.reach])] (Jw 3 (Jw 3 (KG (Ls:=[[Sg b 0 (J3 t a_0 c_0 a_1 c_1 a_9 c_9)],r_9]) (Lr:=([Sg b1 0 [Sl a_0 t.setup.names.length c_0,Sl a_1 t.setup.keys.length c_1,I x1,I x2,I x3,I t.setup.least,I t.setup.top,I t.setup.lost,I t.setup.reach]]::[]::Lr)) 27 hT (Jcl G3 b t a_0 c_0 a_1 c_1 a_9 c_9 r_9 (h_0.mono (Ja hle1 hl3)) (h_1.mono (Ja hle1 hl3)) h_2 h_3 h_4 h_5 h_6 h_7 h_8 (h_9.mono (Ja hle1 hl3)) [Sl a_0 t.setup.names.length c_0,Sl a_1 t.setup.keys.length c_1,I x1,I x2,I x3,I t.setup.least,I t.setup.top,I t.setup.lost,I t.setup.reach] (⟨t.setup.names,t.setup.keys,x1,x2,x3,t.setup.least,t.setup.top,t.setup.lost,t.setup.reach⟩:Kx) (⟨a_0,c_0,a_1,c_1,rfl,(h_0.mono (Ja hle1 hl3)),(h_1.mono (Ja hle1 hl3)),w1,w2,w3,h_5,h_6,h_7,h_8⟩) ‹_›) (fun v G4 L1 hl4 hp=>?_) (fun v G4 L1 hl4 hp=>?_))))))))))
 obtain ⟨hne3,rfl,rfl⟩:=hp
 refine J8 ?_
 have hp5:(WY t w).2=(W8 t (⟨t.setup.names,t.setup.keys,x1,x2,x3,t.setup.least,t.setup.top,t.setup.lost,t.setup.reach⟩:Kx)).2:=by
  rw [Jhz ‹_› hx1 hx2 hx3]
 refine Wt (QO (Lr:=Lr) [[Sg b 0 (J3 t a_0 c_0 a_1 c_1 a_9 c_9)],r_9] (Ja (Ja hle1 hl3) hl4) ?_)
 rw [hp5];exact ⟨hne3,rfl,rfl⟩
 obtain ⟨_,a3,c3,a4,c4,a5,c5,a6,c6,r3,rfl,hs2,hs3,hs4,w4,w5,w6,w7,w8,w9,w10,hr3,rfl⟩:=hp
 refine Jb [0] [(4,Sl a3 (([]:Bs).length) c3)] (Je (Jc (Jn (Jk 1 (Jk 1 ?_)))))
 have hf1:(WY t w).2=0∧([]:Bs)=([]:Bs)∧(WY t w).1=((W8 t (⟨t.setup.names,t.setup.keys,x1,x2,x3,t.setup.least,t.setup.top,t.setup.lost,t.setup.reach⟩:Kx)).1):=by
  rw [Jhz ‹_› hx1 hx2 hx3];exact ⟨by assumption,rfl,rfl⟩
 refine Jo [0] [Sl a3 (([]:Bs).length) c3] (V5 (KB (Lr:=Lr) [[Sg b 0 (J3 (W8 t (⟨t.setup.names,t.setup.keys,x1,x2,x3,t.setup.least,t.setup.top,t.setup.lost,t.setup.reach⟩:Kx)).1 a4 c4 a5 c5 a6 c6)],r3] (Ja (Ja hle1 hl3) hl4) ?_))
 rw [hf1.2.1,hf1.2.2]
 try dsimp only
 exact ⟨hf1.1,a3,c3,a4,c4,a5,c5,a6,c6,r3,rfl,hs2,hs3,hs4,w4,w5,w6,w7,w8,w9,w10,hr3,rfl⟩
set_option maxRecDepth 20000 in
theorem Jk3 (G:J5) (b:Nat) (t:KD) (a_0:Ba) (c_0:Nat) (a_1:Ba) (c_1:Nat) (a_9:Ba) (c_9:Nat) (r_9:Bg) (h_0:RS ES G a_0 c_0 t.setup.names) (h_1:RS EU G a_1 c_1 t.setup.keys) (h_2:rI t.setup.most) (h_3:rI t.setup.batch) (h_4:rI t.setup.every) (h_5:rI t.setup.least) (h_6:rI t.setup.top) (h_7:rI t.setup.lost) (h_8:rI t.setup.reach) (h_9:JR Wh G a_9 c_9 t.deeds r_9) (a_w:Ba) (c_w:Nat) (w:Bs) (h_w:RS ES G a_w c_w w) (hw:w.length=3) (hs:∀ s∈w,s.length≤1048576) (ht:t.deeds.length≤200) (hn:t.setup.names.length≤1000) (hk:t.setup.keys.length≤1000):Zg Tryz.prog 79 #[Pt b 0,Sl a_w w.length c_w] G [[Sg b 0 [Sl a_0 t.setup.names.length c_0,Sl a_1 t.setup.keys.length c_1,I t.setup.most,I t.setup.batch,I t.setup.every,I t.setup.least,I t.setup.top,I t.setup.lost,I t.setup.reach,Sl a_9 t.deeds.length c_9]],r_9] (fun u G' L'=>((WZ t w).2=0)∧∃ (az1:Ba) (cz2:Nat) (az3:Ba) (cz4:Nat) (az5:Ba) (cz6:Nat) (az7:Ba) (cz8:Nat) (rz9:Bg),u=Sl az1 (([]:Bs).length) cz2∧(RS ES G' az1 cz2 ([]:Bs))∧(RS ES G' az3 cz4 (((WZ t w).1).setup.names))∧(RS EU G' az5 cz6 (((WZ t w).1).setup.keys))∧(rI (((WZ t w).1).setup.most))∧(rI (((WZ t w).1).setup.batch))∧(rI (((WZ t w).1).setup.every))∧(rI (((WZ t w).1).setup.least))∧(rI (((WZ t w).1).setup.top))∧(rI (((WZ t w).1).setup.lost))∧(rI (((WZ t w).1).setup.reach))∧(JR Wh G' az7 cz8 (((WZ t w).1).deeds) rz9)∧L'=[[Sg b 0 [Sl az3 ((((WZ t w).1).setup.names).length) cz4,Sl az5 ((((WZ t w).1).setup.keys).length) cz6,I (((WZ t w).1).setup.most),I (((WZ t w).1).setup.batch),I (((WZ t w).1).setup.every),I (((WZ t w).1).setup.least),I (((WZ t w).1).setup.top),I (((WZ t w).1).setup.lost),I (((WZ t w).1).setup.reach),Sl az7 ((((WZ t w).1).deeds).length) cz8]],rz9]) (fun u _ L'=>(¬ (WZ t w).2=0)∧u=Y5 ((WZ t w).2)∧L'=[[Sg b 0 [Sl a_0 t.setup.names.length c_0,Sl a_1 t.setup.keys.length c_1,I t.setup.most,I t.setup.batch,I t.setup.every,I t.setup.least,I t.setup.top,I t.setup.lost,I t.setup.reach,Sl a_9 t.deeds.length c_9]],r_9]):=by
 intro Lr
 refine W0 Tryz.func79 28 [(0,Pt b 0),(1,Sl a_w w.length c_w)] rfl (fun w0 G0 hT=>?_)
 show TC _ _ _ _ _ ([Sg b 0 (J3 t a_0 c_0 a_1 c_1 a_9 c_9)]::r_9::Lr)
 refine Jg [0] [] ?_
 refine Ye (σ:=Ba×Nat×Nat×Bg×J5) (fun q_=>(J5.le G q_.2.2.2.2)∧(JR EI q_.2.2.2.2 q_.1 q_.2.1 ((KK w).1) q_.2.2.2.1)∧((KK w).2=0)) (fun q_=>[(0,Pt b 0),(5,Sl q_.1 (((KK w).1).length) q_.2.1),(6,Pt q_.2.2.1 0)]) (fun q_=>q_.2.2.2.2) (fun q_=>([Sg q_.2.2.1 0 (WI t.setup a_0 c_0 a_1 c_1)]::q_.2.2.2.1::[Sg b 0 (J3 t a_0 c_0 a_1 c_1 a_9 c_9)]::r_9::Lr)) ?_ (fun q_ hs=>?_)
 refine Kt [1,6,8] (Wm [(0,Sl a_w w.length c_w),(2,Pt b 0),(3,Pt b 0),(4,Pt b 0),(5,(YK t.setup a_0 c_0 a_1 c_1))] (JF [] [(0,0),(2,0),(3,0),(4,0),(5,2)] [] [1,6] (Ha _) (Kf ?_ (Kf ?_ KY))))
 refine Jz 1 [(7,Sl a_w w.length c_w)] (fun X=>?_)
 refine KG (Ls:=[]) (Lr:=([Sg b 0 (J3 t a_0 c_0 a_1 c_1 a_9 c_9)]::r_9::Lr)) 8 hT ((VN G a_w c_w w h_w J4 ‹_›).frame) (fun v G1 L1 hl1 hp=>?_) (fun v G1 L1 hl1 hp=>?_)
 obtain ⟨hne1,rfl,rfl⟩:=hp
 refine J8 (J8 ?_)
 have hp1:(WZ t w).2=(KK w).2:=by
  exact Jcy ‹_›
 refine Wt (QO (Lr:=Lr) [[Sg b 0 (J3 t a_0 c_0 a_1 c_1 a_9 c_9)],r_9] hl1 ?_)
 rw [hp1];exact ⟨hne1,rfl,rfl⟩
 obtain ⟨he2,a1,c1,r1,rfl,hr1,rfl⟩:=hp
 refine JA [(1,Sl a1 (((KK w).1).length) c1)] (JF [0] [(2,0),(3,0),(4,0),(5,4)] [] [6] (Ha _) (Kf ?_ KY))
 refine Jz 6 [] (fun X=>?_)
 refine Jv 6 #[Sl none 0 0,Sl none 0 0,I 0,I 0,I 0,I 0,I 0,I 0,I 0] 72 (fun b1=>JA [(6,Pt b1 0),(7,Sl a1 (((KK w).1).length) c1)] (JF [0] [(2,0),(3,0),(4,0),(5,6),(7,0)] [] [8] (Ha _) (Kf ?_ KY)))
 refine Jz 8 [(6,Pt b1 0),(12,(YK t.setup a_0 c_0 a_1 c_1))] (fun X=>?_)
 exact KC 0 ([Sg b1 0 (WI t.setup a_0 c_0 a_1 c_1)]::r1::[Sg b 0 (J3 t a_0 c_0 a_1 c_1 a_9 c_9)]::r_9::Lr) (J6 [] (Kl [0,2,3,4,5,7] [] [] [(0,Pt b 0),(5,Sl a1 (((KK w).1).length) c1),(6,Pt b1 0)] (Ha _) (QW (a1,c1,b1,r1,G1) ⟨hl1,hr1,he2⟩)))
 refine Jz 6 [] (fun X=>?_)
 refine Jv 6 #[Sl none 0 0,Sl none 0 0,I 0,I 0,I 0,I 0,I 0,I 0,I 0] 72 (fun b2=>JA [(6,Pt b2 0)] (JF [] [(0,0),(2,0),(3,0),(4,0),(5,4)] [] [1] (Ha _) (Kf ?_ KY)))
 refine Jz 1 [(7,Sl a_w w.length c_w)] (fun X=>?_)
 refine KG (Ls:=[]) (Lr:=([Sg b2 0 [Sl none 0 0,Sl none 0 0,I 0,I 0,I 0,I 0,I 0,I 0,I 0]]::[Sg b 0 (J3 t a_0 c_0 a_1 c_1 a_9 c_9)]::r_9::Lr)) 8 hT ((VN G a_w c_w w h_w J4 ‹_›).frame) (fun v G2 L1 hl2 hp=>?_) (fun v G2 L1 hl2 hp=>?_)
 obtain ⟨hne2,rfl,rfl⟩:=hp
 refine J8 (J8 ?_)
 have hp3:(WZ t w).2=(KK w).2:=by
  exact Jcy ‹_›
 refine Wt (QO (Lr:=Lr) [[Sg b 0 (J3 t a_0 c_0 a_1 c_1 a_9 c_9)],r_9] hl2 ?_)
 rw [hp3];exact ⟨hne2,rfl,rfl⟩
 obtain ⟨he3,a2,c2,r2,rfl,hr2,rfl⟩:=hp
 refine JA [(1,Sl a2 (((KK w).1).length) c2),(7,Sl a2 (((KK w).1).length) c2)] (JF [0] [(2,0),(3,0),(4,0),(5,6),(7,0)] [] [8] (Ha _) (Kf ?_ KY))
 refine Jz 8 [(6,Pt b2 0),(12,(YK t.setup a_0 c_0 a_1 c_1))] (fun X=>?_)
 exact KC 1 (r2::[Sg b2 0 (WI t.setup a_0 c_0 a_1 c_1)]::[Sg b 0 (J3 t a_0 c_0 a_1 c_1 a_9 c_9)]::r_9::Lr) (J6 [] (Kl [0,2,3,4,5,7] [] [] [(0,Pt b 0),(5,Sl a2 (((KK w).1).length) c2),(6,Pt b2 0)] (Ha _) (Jk 3 (Jk 3 (Jk 2 (Jk 3 (QW (a2,c2,b2,r2,G2) ⟨hl2,hr2,he3⟩)))))))
 obtain ⟨a1,c1,b1,r1,G1⟩:=q_
 obtain ⟨hle1,hj1,he1⟩:=hs
 dsimp only at hle1 hj1 he1
 dsimp only
 refine JhN (E:=EI) 1 hj1 (by have q_:=Jgt w;simp only [EI];omega) (fun G3 hl3 hs1=>Jf ?_)
 obtain ⟨b3,o1,rfl⟩:=RS.addr hs1 (k:=0) (by (have q_:=W5 ‹_›;omega))
 obtain ⟨x1,hx1⟩:=QS (l:=(KK w).1) (k:=0) (by (have q_:=W5 ‹_›;omega))
 obtain ⟨_,⟨rfl,w1⟩,hc1⟩:=RS.get hs1 hx1
 obtain ⟨x2,hx2⟩:=QS (l:=(KK w).1) (k:=1) (by (have q_:=W5 ‹_›;omega))
 obtain ⟨_,⟨rfl,w2⟩,hc2⟩:=RS.get hs1 hx2
 obtain ⟨x3,hx3⟩:=QS (l:=(KK w).1) (k:=2) (by (have q_:=W5 ‹_›;omega))
 obtain ⟨_,⟨rfl,w3⟩,hc3⟩:=RS.get hs1 hx3
 refine Kt [10,12,14] (Wm [(0,Sl (At b3 o1) (((KK w).1).length) c1),(1,Pt b3 (o1+0*1)),(2,I x1),(3,Sl (At b3 o1) (((KK w).1).length) c1),(4,Pt b3 (o1+1*1)),(5,I x2),(6,Sl (At b3 o1) (((KK w).1).length) c1),(7,Pt b3 (o1+2*1)),(8,I x3),(9,Pt b1 5)] (JF [] [(0,0),(3,0),(6,0),(9,0)] [1,2,4,5,7,8] [10] (Kf ?_ (Kf ?_ (Kf ?_ (Kf ?_ (Kf ?_ (Kf ?_ KY)))))) (Kf ?_ KY)))
 refine Jr 1 14 (Pt b3 (o1+0*1)) [(13,Sl (At b3 o1) (((KK w).1).length) c1)] (fun X=>?_)
 exact JV (b:=b3) (off:=o1) (len:=((KK w).1).length) (cap:=c1) (ik:=.i64) 14 3 1 0 (by (have q_:=W5 ‹_›;omega)) Jp
 refine Jr 2 15 (I x1) [(14,Pt b3 (o1+0*1))] (fun X=>?_)
 exact JO 15 3 (cs:=[I x1]) 0 (I x1) hc1 Jp
 refine Jr 4 17 (Pt b3 (o1+1*1)) [(16,Sl (At b3 o1) (((KK w).1).length) c1)] (fun X=>?_)
 exact JV (b:=b3) (off:=o1) (len:=((KK w).1).length) (cap:=c1) (ik:=.i64) 17 3 1 1 (by (have q_:=W5 ‹_›;omega)) Jp
 refine Jr 5 18 (I x2) [(17,Pt b3 (o1+1*1))] (fun X=>?_)
 exact JO 18 3 (cs:=[I x2]) 0 (I x2) hc2 Jp
 refine Jr 7 20 (Pt b3 (o1+2*1)) [(19,Sl (At b3 o1) (((KK w).1).length) c1)] (fun X=>?_)
 exact JV (b:=b3) (off:=o1) (len:=((KK w).1).length) (cap:=c1) (ik:=.i64) 20 3 1 2 (by (have q_:=W5 ‹_›;omega)) Jp
 refine Jr 8 21 (I x3) [(20,Pt b3 (o1+2*1))] (fun X=>?_)
 exact JO 21 3 (cs:=[I x3]) 0 (I x3) hc3 Jp
 refine Jz 10 [(15,I x1),(22,Pt b1 5)] (fun X=>?_)
 refine KC 0 ([Sg b1 0 [Sl a_0 t.setup.names.length c_0,Sl a_1 t.setup.keys.length c_1,I t.setup.most,I t.setup.batch,I t.setup.every,I x1,I t.setup.top,I t.setup.lost,I t.setup.reach]]::[]::[Sg b 0 (J3 t a_0 c_0 a_1 c_1 a_9 c_9)]::r_9::Lr) (J6 [(11,Pt b1 6)] (JF [0,1,2,9] [(3,0),(6,0),(11,0)] [4,5,7,8] [12] (Kf ?_ (Kf ?_ (Kf ?_ (Kf ?_ KY)))) (Kf ?_ KY)))
 refine Jr 4 17 (Pt b3 (o1+1*1)) [(16,Sl (At b3 o1) (((KK w).1).length) c1)] (fun X=>?_)
 exact JV (b:=b3) (off:=o1) (len:=((KK w).1).length) (cap:=c1) (ik:=.i64) 17 3 1 1 (by (have q_:=W5 ‹_›;omega)) Jp
 refine Jr 5 18 (I x2) [(17,Pt b3 (o1+1*1))] (fun X=>?_)
 exact JO 18 3 (cs:=[I x2]) 0 (I x2) hc2 Jp
 refine Jr 7 20 (Pt b3 (o1+2*1)) [(19,Sl (At b3 o1) (((KK w).1).length) c1)] (fun X=>?_)
 exact JV (b:=b3) (off:=o1) (len:=((KK w).1).length) (cap:=c1) (ik:=.i64) 20 3 1 2 (by (have q_:=W5 ‹_›;omega)) Jp
 refine Jr 8 21 (I x3) [(20,Pt b3 (o1+2*1))] (fun X=>?_)
 exact JO 21 3 (cs:=[I x3]) 0 (I x3) hc3 Jp
 refine Jz 12 [(18,I x2),(23,Pt b1 6)] (fun X=>?_)
 refine KC 0 ([Sg b1 0 [Sl a_0 t.setup.names.length c_0,Sl a_1 t.setup.keys.length c_1,I t.setup.most,I t.setup.batch,I t.setup.every,I x1,I x2,I t.setup.lost,I t.setup.reach]]::[]::[Sg b 0 (J3 t a_0 c_0 a_1 c_1 a_9 c_9)]::r_9::Lr) (J6 [(13,Pt b1 7)] (JF [0,1,2,3,4,5,9,11] [(6,0),(13,0)] [7,8] [14] (Kf ?_ (Kf ?_ KY)) (Kf ?_ KY)))
 refine Jr 7 20 (Pt b3 (o1+2*1)) [(19,Sl (At b3 o1) (((KK w).1).length) c1)] (fun X=>?_)
 exact JV (b:=b3) (off:=o1) (len:=((KK w).1).length) (cap:=c1) (ik:=.i64) 20 3 1 2 (by (have q_:=W5 ‹_›;omega)) Jp
 refine Jr 8 21 (I x3) [(20,Pt b3 (o1+2*1))] (fun X=>?_)
 exact JO 21 3 (cs:=[I x3]) 0 (I x3) hc3 Jp
 refine Jz 14 [(21,I x3),(24,Pt b1 7)] (fun X=>?_)
 refine KC 0 ([Sg b1 0 [Sl a_0 t.setup.names.length c_0,Sl a_1 t.setup.keys.length c_1,I t.setup.most,I t.setup.batch,I t.setup.every,I x1,I x2,I x3,I t.setup.reach]]::[]::[Sg b 0 (J3 t a_0 c_0 a_1 c_1 a_9 c_9)]::r_9::Lr) (J6 [] (Kl [0,1,2,3,4,5,6,7,8,9,11,13] [] [] [(0,Pt b 0),(6,Pt b1 0)] (Ha _) (Jc (Jf (Jd (Jb [0,2] [(25,Pt b 0),(26,.agg #[Sl a_0 t.setup.names.length c_0,Sl a_1 t.setup.keys.length c_1,I t.setup.most,I t.setup.batch,I t.setup.every,I x1,I x2,I x3,I t.setup.reach])] (Jw 3 (Jw 3 (KG (Ls:=[[Sg b 0 (J3 t a_0 c_0 a_1 c_1 a_9 c_9)],r_9]) (Lr:=([Sg b1 0 [Sl a_0 t.setup.names.length c_0,Sl a_1 t.setup.keys.length c_1,I t.setup.most,I t.setup.batch,I t.setup.every,I x1,I x2,I x3,I t.setup.reach]]::[]::Lr)) 27 hT (Jcl G3 b t a_0 c_0 a_1 c_1 a_9 c_9 r_9 (h_0.mono (Ja hle1 hl3)) (h_1.mono (Ja hle1 hl3)) h_2 h_3 h_4 h_5 h_6 h_7 h_8 (h_9.mono (Ja hle1 hl3)) [Sl a_0 t.setup.names.length c_0,Sl a_1 t.setup.keys.length c_1,I t.setup.most,I t.setup.batch,I t.setup.every,I x1,I x2,I x3,I t.setup.reach] (⟨t.setup.names,t.setup.keys,t.setup.most,t.setup.batch,t.setup.every,x1,x2,x3,t.setup.reach⟩:Kx) (⟨a_0,c_0,a_1,c_1,rfl,(h_0.mono (Ja hle1 hl3)),(h_1.mono (Ja hle1 hl3)),h_2,h_3,h_4,w1,w2,w3,h_8⟩) ‹_›) (fun v G4 L1 hl4 hp=>?_) (fun v G4 L1 hl4 hp=>?_))))))))))
 obtain ⟨hne3,rfl,rfl⟩:=hp
 refine J8 ?_
 have hp5:(WZ t w).2=(W8 t (⟨t.setup.names,t.setup.keys,t.setup.most,t.setup.batch,t.setup.every,x1,x2,x3,t.setup.reach⟩:Kx)).2:=by
  rw [JhA ‹_› hx1 hx2 hx3]
 refine Wt (QO (Lr:=Lr) [[Sg b 0 (J3 t a_0 c_0 a_1 c_1 a_9 c_9)],r_9] (Ja (Ja hle1 hl3) hl4) ?_)
 rw [hp5];exact ⟨hne3,rfl,rfl⟩
 obtain ⟨_,a3,c3,a4,c4,a5,c5,a6,c6,r3,rfl,hs2,hs3,hs4,w4,w5,w6,w7,w8,w9,w10,hr3,rfl⟩:=hp
 refine Jb [0] [(4,Sl a3 (([]:Bs).length) c3)] (Je (Jc (Jn (Jk 1 (Jk 1 ?_)))))
 have hf1:(WZ t w).2=0∧([]:Bs)=([]:Bs)∧(WZ t w).1=((W8 t (⟨t.setup.names,t.setup.keys,t.setup.most,t.setup.batch,t.setup.every,x1,x2,x3,t.setup.reach⟩:Kx)).1):=by
  rw [JhA ‹_› hx1 hx2 hx3];exact ⟨by assumption,rfl,rfl⟩
 refine Jo [0] [Sl a3 (([]:Bs).length) c3] (V5 (KB (Lr:=Lr) [[Sg b 0 (J3 (W8 t (⟨t.setup.names,t.setup.keys,t.setup.most,t.setup.batch,t.setup.every,x1,x2,x3,t.setup.reach⟩:Kx)).1 a4 c4 a5 c5 a6 c6)],r3] (Ja (Ja hle1 hl3) hl4) ?_))
 rw [hf1.2.1,hf1.2.2]
 try dsimp only
 exact ⟨hf1.1,a3,c3,a4,c4,a5,c5,a6,c6,r3,rfl,hs2,hs3,hs4,w4,w5,w6,w7,w8,w9,w10,hr3,rfl⟩
theorem Jk4 (G:J5) (b:Nat) (t:KD) (a_0:Ba) (c_0:Nat) (a_1:Ba) (c_1:Nat) (a_9:Ba) (c_9:Nat) (r_9:Bg) (h_0:RS ES G a_0 c_0 t.setup.names) (h_1:RS EU G a_1 c_1 t.setup.keys) (h_2:rI t.setup.most) (h_3:rI t.setup.batch) (h_4:rI t.setup.every) (h_5:rI t.setup.least) (h_6:rI t.setup.top) (h_7:rI t.setup.lost) (h_8:rI t.setup.reach) (h_9:JR Wh G a_9 c_9 t.deeds r_9) (a_w:Ba) (c_w:Nat) (w:Bs) (h_w:RS ES G a_w c_w w) (hw:w.length=1) (hs:∀ s∈w,s.length≤1048576) (ht:t.deeds.length≤200) (hn:t.setup.names.length≤1000) (hk:t.setup.keys.length≤1000):Zg Tryz.prog 80 #[Pt b 0,Sl a_w w.length c_w] G [[Sg b 0 [Sl a_0 t.setup.names.length c_0,Sl a_1 t.setup.keys.length c_1,I t.setup.most,I t.setup.batch,I t.setup.every,I t.setup.least,I t.setup.top,I t.setup.lost,I t.setup.reach,Sl a_9 t.deeds.length c_9]],r_9] (fun u G' L'=>((WQ t w).2=0)∧∃ (az1:Ba) (cz2:Nat) (az3:Ba) (cz4:Nat) (az5:Ba) (cz6:Nat) (az7:Ba) (cz8:Nat) (rz9:Bg),u=Sl az1 (([]:Bs).length) cz2∧(RS ES G' az1 cz2 ([]:Bs))∧(RS ES G' az3 cz4 (((WQ t w).1).setup.names))∧(RS EU G' az5 cz6 (((WQ t w).1).setup.keys))∧(rI (((WQ t w).1).setup.most))∧(rI (((WQ t w).1).setup.batch))∧(rI (((WQ t w).1).setup.every))∧(rI (((WQ t w).1).setup.least))∧(rI (((WQ t w).1).setup.top))∧(rI (((WQ t w).1).setup.lost))∧(rI (((WQ t w).1).setup.reach))∧(JR Wh G' az7 cz8 (((WQ t w).1).deeds) rz9)∧L'=[[Sg b 0 [Sl az3 ((((WQ t w).1).setup.names).length) cz4,Sl az5 ((((WQ t w).1).setup.keys).length) cz6,I (((WQ t w).1).setup.most),I (((WQ t w).1).setup.batch),I (((WQ t w).1).setup.every),I (((WQ t w).1).setup.least),I (((WQ t w).1).setup.top),I (((WQ t w).1).setup.lost),I (((WQ t w).1).setup.reach),Sl az7 ((((WQ t w).1).deeds).length) cz8]],rz9]) (fun u _ L'=>(¬ (WQ t w).2=0)∧u=Y5 ((WQ t w).2)∧L'=[[Sg b 0 [Sl a_0 t.setup.names.length c_0,Sl a_1 t.setup.keys.length c_1,I t.setup.most,I t.setup.batch,I t.setup.every,I t.setup.least,I t.setup.top,I t.setup.lost,I t.setup.reach,Sl a_9 t.deeds.length c_9]],r_9]):=by
 intro Lr
 refine W0 Tryz.func80 18 [(0,Pt b 0),(1,Sl a_w w.length c_w)] rfl (fun w0 G0 hT=>?_)
 show TC _ _ _ _ _ ([Sg b 0 (J3 t a_0 c_0 a_1 c_1 a_9 c_9)]::r_9::Lr)
 refine Jg [0] [] (Jf (Jd (Jb [0,0,0,2] [(9,(YK t.setup a_0 c_0 a_1 c_1))] (Jv 5 #[Sl none 0 0,Sl none 0 0,I 0,I 0,I 0,I 0,I 0,I 0,I 0] 72 (fun b1=>JW [3] [] ([Sg b1 0 (WI t.setup a_0 c_0 a_1 c_1)]::[Sg b 0 (J3 t a_0 c_0 a_1 c_1 a_9 c_9)]::r_9::Lr) (Je (Jc (Jf (Jd (Jb [0] [(10,Sl a_w w.length c_w)] ?_))))))))))
 obtain ⟨b2,o1,rfl⟩:=RS.addr h_w (k:=0) (by omega)
 obtain ⟨x1,hx1⟩:=QS (l:=w) (k:=0) (by omega)
 obtain ⟨_,⟨rfl,_⟩,hc1⟩:=RS.get h_w hx1
 refine JV (b:=b2) (off:=o1) (len:=w.length) (cap:=c_w) (ik:=.i64) 11 9 1 0 J4 (JO 12 9 (cs:=[Sr x1]) 0 (Sr x1) hc1 (KG (Ls:=[]) (Lr:=([Sg b1 0 (WI t.setup a_0 c_0 a_1 c_1)]::[Sg b 0 (J3 t a_0 c_0 a_1 c_1 a_9 c_9)]::r_9::Lr)) 13 hT ((Yt G x1 (by have q_:=hs _ (Hh hx1);omega)).frame) (fun v G1 L1 hl1 hp=>?_) (fun v G1 L1 hl1 hp=>?_)))
 obtain ⟨hne1,rfl,rfl⟩:=hp
 refine J8 ?_
 have hp1:(WQ t w).2=(Kb x1).2:=by
  (unfold WQ;rw [← Q2 hx1,if_pos ‹_›];done)
 refine Wt (QO (Lr:=Lr) [[Sg b 0 (J3 t a_0 c_0 a_1 c_1 a_9 c_9)],r_9] hl1 ?_)
 rw [hp1];exact ⟨hne1,rfl,rfl⟩
 obtain ⟨_,rfl,rfl⟩:=hp
 refine JW [0,3] [] ([Sg b1 0 [Sl a_0 t.setup.names.length c_0,Sl a_1 t.setup.keys.length c_1,I t.setup.most,I t.setup.batch,I t.setup.every,I t.setup.least,I t.setup.top,I t.setup.lost,I ((Kb x1).1)]]::[Sg b 0 (J3 t a_0 c_0 a_1 c_1 a_9 c_9)]::r_9::Lr) (Je (Jc (Jf (Jd (Jb [0,2] [(15,Pt b 0),(16,.agg #[Sl a_0 t.setup.names.length c_0,Sl a_1 t.setup.keys.length c_1,I t.setup.most,I t.setup.batch,I t.setup.every,I t.setup.least,I t.setup.top,I t.setup.lost,I ((Kb x1).1)])] (Jw 2 (Jw 2 (KG (Ls:=[[Sg b 0 (J3 t a_0 c_0 a_1 c_1 a_9 c_9)],r_9]) (Lr:=([Sg b1 0 [Sl a_0 t.setup.names.length c_0,Sl a_1 t.setup.keys.length c_1,I t.setup.most,I t.setup.batch,I t.setup.every,I t.setup.least,I t.setup.top,I t.setup.lost,I ((Kb x1).1)]]::Lr)) 17 hT (Jcl G1 b t a_0 c_0 a_1 c_1 a_9 c_9 r_9 (h_0.mono hl1) (h_1.mono hl1) h_2 h_3 h_4 h_5 h_6 h_7 h_8 (h_9.mono hl1) [Sl a_0 t.setup.names.length c_0,Sl a_1 t.setup.keys.length c_1,I t.setup.most,I t.setup.batch,I t.setup.every,I t.setup.least,I t.setup.top,I t.setup.lost,I ((Kb x1).1)] (⟨t.setup.names,t.setup.keys,t.setup.most,t.setup.batch,t.setup.every,t.setup.least,t.setup.top,t.setup.lost,(Kb x1).1⟩:Kx) (⟨a_0,c_0,a_1,c_1,rfl,(h_0.mono hl1),(h_1.mono hl1),h_2,h_3,h_4,h_5,h_6,h_7,(by have q_:=YF x1;(dsimp only;omega))⟩) ‹_›) (fun v G2 L1 hl2 hp=>?_) (fun v G2 L1 hl2 hp=>?_)))))))))
 obtain ⟨hne2,rfl,rfl⟩:=hp
 refine J8 ?_
 have hp3:(WQ t w).2=(W8 t (⟨t.setup.names,t.setup.keys,t.setup.most,t.setup.batch,t.setup.every,t.setup.least,t.setup.top,t.setup.lost,(Kb x1).1⟩:Kx)).2:=by
  (unfold WQ;rw [← Q2 hx1,if_neg (by omega)];rfl)
 refine Wt (QO (Lr:=Lr) [[Sg b 0 (J3 t a_0 c_0 a_1 c_1 a_9 c_9)],r_9] (Ja hl1 hl2) ?_)
 rw [hp3];exact ⟨hne2,rfl,rfl⟩
 obtain ⟨_,a1,c1,a2,c2,a3,c3,a4,c4,r1,rfl,hs1,hs2,hs3,w2,w3,w4,w5,w6,w7,w8,hr1,rfl⟩:=hp
 refine Jb [0] [(4,Sl a1 (([]:Bs).length) c1)] (Je (Jc (Jn (Jk 1 (Jk 1 ?_)))))
 have hf1:(WQ t w).2=0∧([]:Bs)=([]:Bs)∧(WQ t w).1=((W8 t (⟨t.setup.names,t.setup.keys,t.setup.most,t.setup.batch,t.setup.every,t.setup.least,t.setup.top,t.setup.lost,(Kb x1).1⟩:Kx)).1):=by
  unfold WQ;rw [← Q2 hx1,if_neg (by omega)];exact ⟨by assumption,rfl,rfl⟩
 refine Jo [0] [Sl a1 (([]:Bs).length) c1] (V5 (KB (Lr:=Lr) [[Sg b 0 (J3 (W8 t (⟨t.setup.names,t.setup.keys,t.setup.most,t.setup.batch,t.setup.every,t.setup.least,t.setup.top,t.setup.lost,(Kb x1).1⟩:Kx)).1 a2 c2 a3 c3 a4 c4)],r1] (Ja hl1 hl2) ?_))
 rw [hf1.2.1,hf1.2.2]
 try dsimp only
 exact ⟨hf1.1,a1,c1,a2,c2,a3,c3,a4,c4,r1,rfl,hs1,hs2,hs3,w2,w3,w4,w5,w6,w7,w8,hr1,rfl⟩
set_option maxRecDepth 20000 in
theorem Jk5 (G:J5) (b:Nat) (t:KD) (a_0:Ba) (c_0:Nat) (a_1:Ba) (c_1:Nat) (a_9:Ba) (c_9:Nat) (r_9:Bg) (h_0:RS ES G a_0 c_0 t.setup.names) (h_1:RS EU G a_1 c_1 t.setup.keys) (h_2:rI t.setup.most) (h_3:rI t.setup.batch) (h_4:rI t.setup.every) (h_5:rI t.setup.least) (h_6:rI t.setup.top) (h_7:rI t.setup.lost) (h_8:rI t.setup.reach) (h_9:JR Wh G a_9 c_9 t.deeds r_9) (a_w:Ba) (c_w:Nat) (w:Bs) (h_w:RS ES G a_w c_w w) (hw:w.length=2) (hs:∀ s∈w,s.length≤1048576) (ht:t.deeds.length≤200) (hn:t.setup.names.length≤1000) (hk:t.setup.keys.length≤1000):Zg Tryz.prog 81 #[Pt b 0,Sl a_w w.length c_w] G [[Sg b 0 [Sl a_0 t.setup.names.length c_0,Sl a_1 t.setup.keys.length c_1,I t.setup.most,I t.setup.batch,I t.setup.every,I t.setup.least,I t.setup.top,I t.setup.lost,I t.setup.reach,Sl a_9 t.deeds.length c_9]],r_9] (fun u G' L'=>((Wx t w).2=0)∧∃ (az1:Ba) (cz2:Nat) (az3:Ba) (cz4:Nat) (az5:Ba) (cz6:Nat) (az7:Ba) (cz8:Nat) (rz9:Bg),u=Sl az1 (([]:Bs).length) cz2∧(RS ES G' az1 cz2 ([]:Bs))∧(RS ES G' az3 cz4 (((Wx t w).1).setup.names))∧(RS EU G' az5 cz6 (((Wx t w).1).setup.keys))∧(rI (((Wx t w).1).setup.most))∧(rI (((Wx t w).1).setup.batch))∧(rI (((Wx t w).1).setup.every))∧(rI (((Wx t w).1).setup.least))∧(rI (((Wx t w).1).setup.top))∧(rI (((Wx t w).1).setup.lost))∧(rI (((Wx t w).1).setup.reach))∧(JR Wh G' az7 cz8 (((Wx t w).1).deeds) rz9)∧L'=[[Sg b 0 [Sl az3 ((((Wx t w).1).setup.names).length) cz4,Sl az5 ((((Wx t w).1).setup.keys).length) cz6,I (((Wx t w).1).setup.most),I (((Wx t w).1).setup.batch),I (((Wx t w).1).setup.every),I (((Wx t w).1).setup.least),I (((Wx t w).1).setup.top),I (((Wx t w).1).setup.lost),I (((Wx t w).1).setup.reach),Sl az7 ((((Wx t w).1).deeds).length) cz8]],rz9]) (fun u _ L'=>(¬ (Wx t w).2=0)∧u=Y5 ((Wx t w).2)∧L'=[[Sg b 0 [Sl a_0 t.setup.names.length c_0,Sl a_1 t.setup.keys.length c_1,I t.setup.most,I t.setup.batch,I t.setup.every,I t.setup.least,I t.setup.top,I t.setup.lost,I t.setup.reach,Sl a_9 t.deeds.length c_9]],r_9]):=by
 intro Lr
 refine W0 Tryz.func81 35 [(0,Pt b 0),(1,Sl a_w w.length c_w)] rfl (fun w0 G0 hT=>?_)
 show TC _ _ _ _ _ ([Sg b 0 (J3 t a_0 c_0 a_1 c_1 a_9 c_9)]::r_9::Lr)
 refine Jg [0] [] ?_
 obtain ⟨b1,o1,rfl⟩:=RS.addr h_w (k:=1) (by omega)
 obtain ⟨x1,hx1⟩:=QS (l:=w) (k:=1) (by omega)
 obtain ⟨_,⟨rfl,_⟩,hc1⟩:=RS.get h_w hx1
 refine Ye (σ:=Nat×J5) (fun q_=>(J5.le G q_.2)∧((Kb x1).2=0)) (fun q_=>[(0,Pt b 0),(1,Sl (At b1 o1) w.length c_w),(5,I ((Kb x1).1)),(6,Pt q_.1 0)]) (fun q_=>q_.2) (fun q_=>([Sg q_.1 0 (WI t.setup a_0 c_0 a_1 c_1)]::[Sg b 0 (J3 t a_0 c_0 a_1 c_1 a_9 c_9)]::r_9::Lr)) ?_ (fun q_ hs=>?_)
 refine Kt [3,8,10] (Wm [(0,Sl (At b1 o1) w.length c_w),(1,Pt b1 (o1+1*1)),(2,Sr x1),(4,Pt b 0),(5,Pt b 0),(6,Pt b 0),(7,(YK t.setup a_0 c_0 a_1 c_1))] (JF [] [(0,0),(4,0),(5,0),(6,0),(7,2)] [1,2] [3,8] (Kf ?_ (Kf ?_ KY)) (Kf ?_ (Kf ?_ KY))))
 refine Jr 1 8 (Pt b1 (o1+1*1)) [(7,Sl (At b1 o1) w.length c_w)] (fun X=>?_)
 exact JV (b:=b1) (off:=o1) (len:=w.length) (cap:=c_w) (ik:=.i64) 8 9 1 1 J4 Jp
 refine Jr 2 9 (Sr x1) [(8,Pt b1 (o1+1*1))] (fun X=>?_)
 exact JO 9 9 (cs:=[Sr x1]) 0 (Sr x1) hc1 Jp
 refine Jz 3 [(9,Sr x1)] (fun X=>?_)
 refine KG (Ls:=[]) (Lr:=([Sg b 0 (J3 t a_0 c_0 a_1 c_1 a_9 c_9)]::r_9::Lr)) 10 hT ((Yt G x1 (by have q_:=hs _ (Hh hx1);omega)).frame) (fun v G1 L1 hl1 hp=>?_) (fun v G1 L1 hl1 hp=>?_)
 obtain ⟨hne1,rfl,rfl⟩:=hp
 refine J8 (J8 ?_)
 have hp1:(Wx t w).2=(Kb x1).2:=by
  exact Jgu ‹_› ‹_›
 refine Wt (QO (Lr:=Lr) [[Sg b 0 (J3 t a_0 c_0 a_1 c_1 a_9 c_9)],r_9] hl1 ?_)
 rw [hp1];exact ⟨hne1,rfl,rfl⟩
 obtain ⟨he2,rfl,rfl⟩:=hp
 refine JA [(3,I ((Kb x1).1))] (JF [0,1,2] [(4,0),(5,0),(6,0),(7,2)] [] [8] (Ha _) (Kf ?_ KY))
 refine Jz 8 [] (fun X=>?_)
 refine Jv 6 #[Sl none 0 0,Sl none 0 0,I 0,I 0,I 0,I 0,I 0,I 0,I 0] 72 (fun b2=>JA [(8,Pt b2 0),(9,I ((Kb x1).1))] (JF [0,1,2] [(4,0),(5,0),(6,0),(7,4),(9,0)] [] [10] (Ha _) (Kf ?_ KY)))
 refine Jz 10 [(6,Pt b2 0),(14,(YK t.setup a_0 c_0 a_1 c_1))] (fun X=>?_)
 exact KC 0 ([Sg b2 0 (WI t.setup a_0 c_0 a_1 c_1)]::[Sg b 0 (J3 t a_0 c_0 a_1 c_1 a_9 c_9)]::r_9::Lr) (J6 [] (Kl [0,1,2,4,5,6,7,9] [] [] [(0,Pt b 0),(1,Sl (At b1 o1) w.length c_w),(5,I ((Kb x1).1)),(6,Pt b2 0)] (Ha _) (QW (b2,G1) ⟨hl1,he2⟩)))
 refine Jz 8 [] (fun X=>?_)
 refine Jv 6 #[Sl none 0 0,Sl none 0 0,I 0,I 0,I 0,I 0,I 0,I 0,I 0] 72 (fun b3=>JA [(8,Pt b3 0)] (JF [] [(0,0),(4,0),(5,0),(6,0),(7,4)] [1,2] [3] (Kf ?_ (Kf ?_ KY)) (Kf ?_ KY)))
 refine Jr 1 8 (Pt b1 (o1+1*1)) [(7,Sl (At b1 o1) w.length c_w)] (fun X=>?_)
 exact JV (b:=b1) (off:=o1) (len:=w.length) (cap:=c_w) (ik:=.i64) 8 9 1 1 J4 Jp
 refine Jr 2 9 (Sr x1) [(8,Pt b1 (o1+1*1))] (fun X=>?_)
 exact JO 9 9 (cs:=[Sr x1]) 0 (Sr x1) hc1 Jp
 refine Jz 3 [(9,Sr x1)] (fun X=>?_)
 refine KG (Ls:=[]) (Lr:=([Sg b3 0 [Sl none 0 0,Sl none 0 0,I 0,I 0,I 0,I 0,I 0,I 0,I 0]]::[Sg b 0 (J3 t a_0 c_0 a_1 c_1 a_9 c_9)]::r_9::Lr)) 10 hT ((Yt G x1 (by have q_:=hs _ (Hh hx1);omega)).frame) (fun v G2 L1 hl2 hp=>?_) (fun v G2 L1 hl2 hp=>?_)
 obtain ⟨hne2,rfl,rfl⟩:=hp
 refine J8 (J8 ?_)
 have hp3:(Wx t w).2=(Kb x1).2:=by
  exact Jgu ‹_› ‹_›
 refine Wt (QO (Lr:=Lr) [[Sg b 0 (J3 t a_0 c_0 a_1 c_1 a_9 c_9)],r_9] hl2 ?_)
 rw [hp3];exact ⟨hne2,rfl,rfl⟩
 obtain ⟨he3,rfl,rfl⟩:=hp
 refine JA [(3,I ((Kb x1).1)),(9,I ((Kb x1).1))] (JF [0,1,2] [(4,0),(5,0),(6,0),(7,4),(9,0)] [] [10] (Ha _) (Kf ?_ KY))
 refine Jz 10 [(6,Pt b3 0),(14,(YK t.setup a_0 c_0 a_1 c_1))] (fun X=>?_)
 exact KC 0 ([Sg b3 0 (WI t.setup a_0 c_0 a_1 c_1)]::[Sg b 0 (J3 t a_0 c_0 a_1 c_1 a_9 c_9)]::r_9::Lr) (J6 [] (Kl [0,1,2,4,5,6,7,9] [] [] [(0,Pt b 0),(1,Sl (At b1 o1) w.length c_w),(5,I ((Kb x1).1)),(6,Pt b3 0)] (Ha _) (QW (b3,G2) ⟨hl2,he3⟩)))
 obtain ⟨b2,G1⟩:=q_
 obtain ⟨hle1,he1⟩:=hs
 dsimp only at hle1 he1
 dsimp only
 refine Jf ?_
 obtain ⟨x2,hx2⟩:=QS (l:=w) (k:=0) (by omega)
 obtain ⟨_,⟨rfl,w2⟩,hc2⟩:=RS.get (h_w.mono hle1) hx2
 refine Kt [2,6,7,9] (Wm [(0,Pt b2 0),(1,Sl a_0 t.setup.names.length c_0),(3,Sl (At b1 o1) w.length c_w),(4,Pt b1 (o1+0*1)),(5,Sr x2)] (JF [] [(0,0),(1,2),(3,0)] [4,5] [2,6] (Kf ?_ (Kf ?_ KY)) (Kf ?_ (Kf ?_ KY))))
 refine Jr 4 19 (Pt b1 (o1+0*1)) [(18,Sl (At b1 o1) w.length c_w)] (fun X=>?_)
 exact JV (b:=b1) (off:=o1) (len:=w.length) (cap:=c_w) (ik:=.i64) 19 9 1 0 J4 Jp
 refine Jr 5 20 (Sr x2) [(19,Pt b1 (o1+0*1))] (fun X=>?_)
 exact JO 20 9 (cs:=[Sr x2]) 0 (Sr x2) hc2 Jp
 refine Jz 2 [(16,Sl a_0 t.setup.names.length c_0)] (fun X=>?_)
 refine JN 17 (Jbo G1 a_0 c_0 t.setup.names (h_0.mono hle1)) (fun v G3 L1 hl3 hp=>?_)
 obtain ⟨a1,c1,_,rfl,hr1,rfl⟩:=hp
 refine JA [(2,Sl a1 t.setup.names.length c1)] (JF [0,1] [(3,0)] [4,5] [6] (Kf ?_ (Kf ?_ KY)) (Kf ?_ KY))
 refine Jr 4 19 (Pt b1 (o1+0*1)) [(18,Sl (At b1 o1) w.length c_w)] (fun X=>?_)
 exact JV (b:=b1) (off:=o1) (len:=w.length) (cap:=c_w) (ik:=.i64) 19 9 1 0 J4 Jp
 refine Jr 5 20 (Sr x2) [(19,Pt b1 (o1+0*1))] (fun X=>?_)
 exact JO 20 9 (cs:=[Sr x2]) 0 (Sr x2) (fun j v hv=>hl3 _ _ _ (hc2 j v hv)) Jp
 refine Jz 6 [(20,Sr x2)] (fun X=>?_)
 refine Km 21 1 #[Sr x2] 9 (fun b4=>JA [(6,Sl (At b4 0) 1 1)] (JF [0,1,3,4,5] [] [] [7] (Ha _) (Kf ?_ KY)))
 refine Jz 7 [(17,Sl a1 t.setup.names.length c1),(21,Sl (At b4 0) 1 1)] (fun X=>?_)
 refine Qd (b:=b4) (cs:=[Sr x2]) 22 9 1 0 (E:=ES) x2 hr1 ⟨rfl,w2⟩ (by (try simp only [He,Hd,Hg]);omega) (by (try simp only [ES,He,Hd,Hg]);omega) (fun a2 c2 r2 hr2=>JA [(7,Sl a2 ((t.setup.names++[x2]).length) c2),(8,Pt b2 0)] (JF [0,1,3,4,5] [(8,0)] [] [9] (Ha _) (Kf ?_ KY)))
 refine Jz 9 [(22,Sl a2 ((t.setup.names++[x2]).length) c2),(23,Pt b2 0)] (fun X=>?_)
 refine KC 2 ([Sg b4 0 [Sr x2]]::r2::[Sg b2 0 [Sl a2 ((t.setup.names++[x2]).length) c2,Sl a_1 t.setup.keys.length c_1,I t.setup.most,I t.setup.batch,I t.setup.every,I t.setup.least,I t.setup.top,I t.setup.lost,I t.setup.reach]]::[Sg b 0 (J3 t a_0 c_0 a_1 c_1 a_9 c_9)]::r_9::Lr) (J6 [] (Kl [0,1,3,4,5,8] [] [] [(0,Pt b 0),(5,I ((Kb x1).1)),(6,Pt b2 0)] (Ha _) (Jc (Jf (Jd (Jb [0,6] [(25,Sl a_1 t.setup.keys.length c_1)] (JN 26 (Jeg G3 a_1 c_1 t.setup.keys (h_1.mono (Ja hle1 hl3))) (fun v G4 L1 hl4 hp=>?_))))))))
 obtain ⟨_,_,_,rfl,hr3,rfl⟩:=hp
 refine Jb [0,0] [(28,U (Hp.wrap ((Kb x1).1)))] (Jbi 28 ((Kb x1).1) (by have q_:=YF x1;omega) (Km 29 1 #[U ((Kb x1).1)] 41 (fun b5=>Qd (b:=b5) (cs:=[U ((Kb x1).1)]) 30 41 1 0 (E:=EU) ((Kb x1).1) hr3 ⟨rfl,(by have q_:=YF x1;omega)⟩ (by (try simp only [He,Hd,Hg]);omega) (by (try simp only [EU,He,Hd,Hg]);omega) (fun a4 c4 r4 hr4=>JW [0,11] [] ([Sg b5 0 [U ((Kb x1).1)]]::r4::[Sg b4 0 [Sr x2]]::r2::[Sg b2 0 [Sl a2 ((t.setup.names++[x2]).length) c2,Sl a4 ((t.setup.keys++[(Kb x1).1]).length) c4,I t.setup.most,I t.setup.batch,I t.setup.every,I t.setup.least,I t.setup.top,I t.setup.lost,I t.setup.reach]]::[Sg b 0 (J3 t a_0 c_0 a_1 c_1 a_9 c_9)]::r_9::Lr) (Je (Jc (Jf (Jd (Jb [0,10] [(32,Pt b 0),(33,.agg #[Sl a2 ((t.setup.names++[x2]).length) c2,Sl a4 ((t.setup.keys++[(Kb x1).1]).length) c4,I t.setup.most,I t.setup.batch,I t.setup.every,I t.setup.least,I t.setup.top,I t.setup.lost,I t.setup.reach])] (Wg (E:=ES) 3 (hr2.mono hl4) (by (try simp only [ES,EU,Wh,EI,He,Hd,Hg]);omega) (fun G5 hl5 hs1=>Wg (E:=EU) 1 (hr4.mono hl5) (by (try simp only [ES,EU,Wh,EI,He,Hd,Hg]);omega) (fun G6 hl6 hs2=>Jw 6 (Jw 6 (KG (Ls:=[[Sg b 0 (J3 t a_0 c_0 a_1 c_1 a_9 c_9)],r_9]) (Lr:=([Sg b5 0 [U ((Kb x1).1)]]::[]::[Sg b4 0 [Sr x2]]::[]::[Sg b2 0 [Sl a2 ((t.setup.names++[x2]).length) c2,Sl a4 ((t.setup.keys++[(Kb x1).1]).length) c4,I t.setup.most,I t.setup.batch,I t.setup.every,I t.setup.least,I t.setup.top,I t.setup.lost,I t.setup.reach]]::Lr)) 34 hT (Jcl G6 b t a_0 c_0 a_1 c_1 a_9 c_9 r_9 (h_0.mono (Ja (Ja (Ja (Ja hle1 hl3) hl4) hl5) hl6)) (h_1.mono (Ja (Ja (Ja (Ja hle1 hl3) hl4) hl5) hl6)) ‹_› ‹_› ‹_› ‹_› ‹_› ‹_› ‹_› (h_9.mono (Ja (Ja (Ja (Ja hle1 hl3) hl4) hl5) hl6)) [Sl a2 ((t.setup.names++[x2]).length) c2,Sl a4 ((t.setup.keys++[(Kb x1).1]).length) c4,I t.setup.most,I t.setup.batch,I t.setup.every,I t.setup.least,I t.setup.top,I t.setup.lost,I t.setup.reach] (⟨t.setup.names++[x2],t.setup.keys++[(Kb x1).1],t.setup.most,t.setup.batch,t.setup.every,t.setup.least,t.setup.top,t.setup.lost,t.setup.reach⟩:Kx) (⟨a2,c2,a4,c4,rfl,(hs1.mono hl6),hs2,‹_›,‹_›,‹_›,‹_›,‹_›,‹_›,‹_›⟩) ‹_›) (fun v G7 L1 hl7 hp=>?_) (fun v G7 L1 hl7 hp=>?_)))))))))))))))
 obtain ⟨hne3,rfl,rfl⟩:=hp
 refine J8 ?_
 have hp5:(Wx t w).2=(W8 t (⟨t.setup.names++[x2],t.setup.keys++[(Kb x1).1],t.setup.most,t.setup.batch,t.setup.every,t.setup.least,t.setup.top,t.setup.lost,t.setup.reach⟩:Kx)).2:=by
  rw [Jcz (t:=t) (w:=w) ‹_› ‹_› ‹_›]
 refine Wt (QO (Lr:=Lr) [[Sg b 0 (J3 t a_0 c_0 a_1 c_1 a_9 c_9)],r_9] (Ja (Ja (Ja (Ja (Ja hle1 hl3) hl4) hl5) hl6) hl7) ?_)
 rw [hp5];exact ⟨hne3,rfl,rfl⟩
 obtain ⟨_,a5,c5,a6,c6,a7,c7,a8,c8,r5,rfl,hs3,hs4,hs5,w3,w4,w5,w6,w7,w8,w9,hr5,rfl⟩:=hp
 refine Jb [0] [(4,Sl a5 (([]:Bs).length) c5)] (Je (Jc (Jn (Jk 1 (Jk 1 ?_)))))
 have hf1:(Wx t w).2=0∧([]:Bs)=([]:Bs)∧(Wx t w).1=((W8 t (⟨t.setup.names++[x2],t.setup.keys++[(Kb x1).1],t.setup.most,t.setup.batch,t.setup.every,t.setup.least,t.setup.top,t.setup.lost,t.setup.reach⟩:Kx)).1):=by
  (rw [Jcz (t:=t) (w:=w) ‹_› ‹_› ‹_›];exact ⟨by assumption,rfl,rfl⟩)
 refine Jo [0] [Sl a5 (([]:Bs).length) c5] (V5 (KB (Lr:=Lr) [[Sg b 0 (J3 (W8 t (⟨t.setup.names++[x2],t.setup.keys++[(Kb x1).1],t.setup.most,t.setup.batch,t.setup.every,t.setup.least,t.setup.top,t.setup.lost,t.setup.reach⟩:Kx)).1 a6 c6 a7 c7 a8 c8)],r5] (Ja (Ja (Ja (Ja (Ja hle1 hl3) hl4) hl5) hl6) hl7) ?_))
 rw [hf1.2.1,hf1.2.2]
 try dsimp only
 exact ⟨hf1.1,a5,c5,a6,c6,a7,c7,a8,c8,r5,rfl,hs3,hs4,hs5,w3,w4,w5,w6,w7,w8,w9,hr5,rfl⟩
 refine Jz 6 [(20,Sr x2)] (fun X=>?_)
 refine Km 21 1 #[Sr x2] 9 (fun b6=>JA [(6,Sl (At b6 0) 1 1)] (JF [3,4,5] [(0,0),(1,4)] [] [2] (Ha _) (Kf ?_ KY)))
 refine Jz 2 [(16,Sl a_0 t.setup.names.length c_0)] (fun X=>?_)
 refine JN 17 (Jbo G1 a_0 c_0 t.setup.names (h_0.mono hle1)) (fun v G8 L1 hl8 hp=>?_)
 obtain ⟨a9,c9,_,rfl,hr6,rfl⟩:=hp
 refine JA [(2,Sl a9 t.setup.names.length c9)] (JF [0,1,3,4,5] [] [] [7] (Ha _) (Kf ?_ KY))
 refine Jz 7 [(17,Sl a9 t.setup.names.length c9),(21,Sl (At b6 0) 1 1)] (fun X=>?_)
 refine Qd (b:=b6) (cs:=[Sr x2]) 22 9 0 1 (E:=ES) x2 hr6 ⟨rfl,w2⟩ (by (try simp only [He,Hd,Hg]);omega) (by (try simp only [ES,He,Hd,Hg]);omega) (fun a10 c10 r7 hr7=>JA [(7,Sl a10 ((t.setup.names++[x2]).length) c10),(8,Pt b2 0)] (JF [0,1,3,4,5] [(8,0)] [] [9] (Ha _) (Kf ?_ KY)))
 refine Jz 9 [(22,Sl a10 ((t.setup.names++[x2]).length) c10),(23,Pt b2 0)] (fun X=>?_)
 refine KC 2 (r7::[Sg b6 0 [Sr x2]]::[Sg b2 0 [Sl a10 ((t.setup.names++[x2]).length) c10,Sl a_1 t.setup.keys.length c_1,I t.setup.most,I t.setup.batch,I t.setup.every,I t.setup.least,I t.setup.top,I t.setup.lost,I t.setup.reach]]::[Sg b 0 (J3 t a_0 c_0 a_1 c_1 a_9 c_9)]::r_9::Lr) (J6 [] (Kl [0,1,3,4,5,8] [] [] [(0,Pt b 0),(5,I ((Kb x1).1)),(6,Pt b2 0)] (Ha _) (Jc (Jf (Jd (Jb [0,6] [(25,Sl a_1 t.setup.keys.length c_1)] (JN 26 (Jeg G8 a_1 c_1 t.setup.keys (h_1.mono (Ja hle1 hl8))) (fun v G9 L1 hl9 hp=>?_))))))))
 obtain ⟨_,_,_,rfl,hr8,rfl⟩:=hp
 refine Jb [0,0] [(28,U (Hp.wrap ((Kb x1).1)))] (Jbi 28 ((Kb x1).1) (by have q_:=YF x1;omega) (Km 29 1 #[U ((Kb x1).1)] 41 (fun b7=>Qd (b:=b7) (cs:=[U ((Kb x1).1)]) 30 41 1 0 (E:=EU) ((Kb x1).1) hr8 ⟨rfl,(by have q_:=YF x1;omega)⟩ (by (try simp only [He,Hd,Hg]);omega) (by (try simp only [EU,He,Hd,Hg]);omega) (fun a12 c12 r9 hr9=>JW [0,11] [] ([Sg b7 0 [U ((Kb x1).1)]]::r9::r7::[Sg b6 0 [Sr x2]]::[Sg b2 0 [Sl a10 ((t.setup.names++[x2]).length) c10,Sl a12 ((t.setup.keys++[(Kb x1).1]).length) c12,I t.setup.most,I t.setup.batch,I t.setup.every,I t.setup.least,I t.setup.top,I t.setup.lost,I t.setup.reach]]::[Sg b 0 (J3 t a_0 c_0 a_1 c_1 a_9 c_9)]::r_9::Lr) (Je (Jc (Jf (Jd (Jb [0,10] [(32,Pt b 0),(33,.agg #[Sl a10 ((t.setup.names++[x2]).length) c10,Sl a12 ((t.setup.keys++[(Kb x1).1]).length) c12,I t.setup.most,I t.setup.batch,I t.setup.every,I t.setup.least,I t.setup.top,I t.setup.lost,I t.setup.reach])] (Wg (E:=ES) 2 (hr7.mono hl9) (by (try simp only [ES,EU,Wh,EI,He,Hd,Hg]);omega) (fun G10 hl10 hs6=>Wg (E:=EU) 1 (hr9.mono hl10) (by (try simp only [ES,EU,Wh,EI,He,Hd,Hg]);omega) (fun G11 hl11 hs7=>Jw 6 (Jw 6 (KG (Ls:=[[Sg b 0 (J3 t a_0 c_0 a_1 c_1 a_9 c_9)],r_9]) (Lr:=([Sg b7 0 [U ((Kb x1).1)]]::[]::[]::[Sg b6 0 [Sr x2]]::[Sg b2 0 [Sl a10 ((t.setup.names++[x2]).length) c10,Sl a12 ((t.setup.keys++[(Kb x1).1]).length) c12,I t.setup.most,I t.setup.batch,I t.setup.every,I t.setup.least,I t.setup.top,I t.setup.lost,I t.setup.reach]]::Lr)) 34 hT (Jcl G11 b t a_0 c_0 a_1 c_1 a_9 c_9 r_9 (h_0.mono (Ja (Ja (Ja (Ja hle1 hl8) hl9) hl10) hl11)) (h_1.mono (Ja (Ja (Ja (Ja hle1 hl8) hl9) hl10) hl11)) ‹_› ‹_› ‹_› ‹_› ‹_› ‹_› ‹_› (h_9.mono (Ja (Ja (Ja (Ja hle1 hl8) hl9) hl10) hl11)) [Sl a10 ((t.setup.names++[x2]).length) c10,Sl a12 ((t.setup.keys++[(Kb x1).1]).length) c12,I t.setup.most,I t.setup.batch,I t.setup.every,I t.setup.least,I t.setup.top,I t.setup.lost,I t.setup.reach] (⟨t.setup.names++[x2],t.setup.keys++[(Kb x1).1],t.setup.most,t.setup.batch,t.setup.every,t.setup.least,t.setup.top,t.setup.lost,t.setup.reach⟩:Kx) (⟨a10,c10,a12,c12,rfl,(hs6.mono hl11),hs7,‹_›,‹_›,‹_›,‹_›,‹_›,‹_›,‹_›⟩) ‹_›) (fun v G12 L1 hl12 hp=>?_) (fun v G12 L1 hl12 hp=>?_)))))))))))))))
 obtain ⟨hne4,rfl,rfl⟩:=hp
 refine J8 ?_
 have hp7:(Wx t w).2=(W8 t (⟨t.setup.names++[x2],t.setup.keys++[(Kb x1).1],t.setup.most,t.setup.batch,t.setup.every,t.setup.least,t.setup.top,t.setup.lost,t.setup.reach⟩:Kx)).2:=by
  rw [Jcz (t:=t) (w:=w) ‹_› ‹_› ‹_›]
 refine Wt (QO (Lr:=Lr) [[Sg b 0 (J3 t a_0 c_0 a_1 c_1 a_9 c_9)],r_9] (Ja (Ja (Ja (Ja (Ja hle1 hl8) hl9) hl10) hl11) hl12) ?_)
 rw [hp7];exact ⟨hne4,rfl,rfl⟩
 obtain ⟨_,a13,c13,a14,c14,a15,c15,a16,c16,r10,rfl,hs8,hs9,hs10,w10,w11,w12,w13,w14,w15,w16,hr10,rfl⟩:=hp
 refine Jb [0] [(4,Sl a13 (([]:Bs).length) c13)] (Je (Jc (Jn (Jk 1 (Jk 1 ?_)))))
 have hf2:(Wx t w).2=0∧([]:Bs)=([]:Bs)∧(Wx t w).1=((W8 t (⟨t.setup.names++[x2],t.setup.keys++[(Kb x1).1],t.setup.most,t.setup.batch,t.setup.every,t.setup.least,t.setup.top,t.setup.lost,t.setup.reach⟩:Kx)).1):=by
  (rw [Jcz (t:=t) (w:=w) ‹_› ‹_› ‹_›];exact ⟨by assumption,rfl,rfl⟩)
 refine Jo [0] [Sl a13 (([]:Bs).length) c13] (V5 (KB (Lr:=Lr) [[Sg b 0 (J3 (W8 t (⟨t.setup.names++[x2],t.setup.keys++[(Kb x1).1],t.setup.most,t.setup.batch,t.setup.every,t.setup.least,t.setup.top,t.setup.lost,t.setup.reach⟩:Kx)).1 a14 c14 a15 c15 a16 c16)],r10] (Ja (Ja (Ja (Ja (Ja hle1 hl8) hl9) hl10) hl11) hl12) ?_))
 rw [hf2.2.1,hf2.2.2]
 try dsimp only
 exact ⟨hf2.1,a13,c13,a14,c14,a15,c15,a16,c16,r10,rfl,hs8,hs9,hs10,w10,w11,w12,w13,w14,w15,w16,hr10,rfl⟩
theorem Jnj (G:J5) (b:Nat) (t:KD) (a_0:Ba) (c_0:Nat) (a_1:Ba) (c_1:Nat) (a_9:Ba) (c_9:Nat) (r_9:Bg) (h_0:RS ES G a_0 c_0 t.setup.names) (h_1:RS EU G a_1 c_1 t.setup.keys) (h_2:rI t.setup.most) (h_3:rI t.setup.batch) (h_4:rI t.setup.every) (h_5:rI t.setup.least) (h_6:rI t.setup.top) (h_7:rI t.setup.lost) (h_8:rI t.setup.reach) (h_9:JR Wh G a_9 c_9 t.deeds r_9) (a_w:Ba) (c_w:Nat) (w:Bs) (h_w:RS ES G a_w c_w w) (hw:w.length=2) (hs:∀ s∈w,s.length≤1048576) (ht:t.deeds.length≤200) (hn:t.setup.names.length≤1000) (hk:t.setup.keys.length≤1000):Zg Tryz.prog 82 #[Pt b 0,Sl a_w w.length c_w] G [[Sg b 0 [Sl a_0 t.setup.names.length c_0,Sl a_1 t.setup.keys.length c_1,I t.setup.most,I t.setup.batch,I t.setup.every,I t.setup.least,I t.setup.top,I t.setup.lost,I t.setup.reach,Sl a_9 t.deeds.length c_9]],r_9] (fun u G' L'=>((Zu t w).2=0)∧∃ (az1:Ba) (cz2:Nat) (az3:Ba) (cz4:Nat) (az5:Ba) (cz6:Nat) (az7:Ba) (cz8:Nat) (rz9:Bg),u=Sl az1 (([]:Bs).length) cz2∧(RS ES G' az1 cz2 ([]:Bs))∧(RS ES G' az3 cz4 (((Zu t w).1).setup.names))∧(RS EU G' az5 cz6 (((Zu t w).1).setup.keys))∧(rI (((Zu t w).1).setup.most))∧(rI (((Zu t w).1).setup.batch))∧(rI (((Zu t w).1).setup.every))∧(rI (((Zu t w).1).setup.least))∧(rI (((Zu t w).1).setup.top))∧(rI (((Zu t w).1).setup.lost))∧(rI (((Zu t w).1).setup.reach))∧(JR Wh G' az7 cz8 (((Zu t w).1).deeds) rz9)∧L'=[[Sg b 0 [Sl az3 ((((Zu t w).1).setup.names).length) cz4,Sl az5 ((((Zu t w).1).setup.keys).length) cz6,I (((Zu t w).1).setup.most),I (((Zu t w).1).setup.batch),I (((Zu t w).1).setup.every),I (((Zu t w).1).setup.least),I (((Zu t w).1).setup.top),I (((Zu t w).1).setup.lost),I (((Zu t w).1).setup.reach),Sl az7 ((((Zu t w).1).deeds).length) cz8]],rz9]) (fun u _ L'=>(¬ (Zu t w).2=0)∧u=Y5 ((Zu t w).2)∧L'=[[Sg b 0 [Sl a_0 t.setup.names.length c_0,Sl a_1 t.setup.keys.length c_1,I t.setup.most,I t.setup.batch,I t.setup.every,I t.setup.least,I t.setup.top,I t.setup.lost,I t.setup.reach,Sl a_9 t.deeds.length c_9]],r_9]):=by
 intro Lr
 refine W0 Tryz.func82 16 [(0,Pt b 0),(1,Sl a_w w.length c_w)] rfl (fun w0 G0 hT=>?_)
 show TC _ _ _ _ _ ([Sg b 0 (J3 t a_0 c_0 a_1 c_1 a_9 c_9)]::r_9::Lr)
 refine Jg [0] [] (Jf ?_)
 obtain ⟨b1,o1,rfl⟩:=RS.addr h_w (k:=0) (by omega)
 obtain ⟨x1,hx1⟩:=QS (l:=w) (k:=0) (by omega)
 obtain ⟨_,⟨rfl,_⟩,hc1⟩:=RS.get h_w hx1
 obtain ⟨x2,hx2⟩:=QS (l:=w) (k:=1) (by omega)
 obtain ⟨_,⟨rfl,w2⟩,hc2⟩:=RS.get h_w hx2
 refine Kt [4,9,10] (Wm [(0,Pt b 0),(1,Sl (At b1 o1) w.length c_w),(2,Pt b1 (o1+0*1)),(3,Sr x1),(5,Sl (At b1 o1) w.length c_w),(6,Pt b1 (o1+1*1)),(7,Sr x2)] (JF [] [(0,0),(1,0),(5,0)] [2,3,6,7] [4] (Kf ?_ (Kf ?_ (Kf ?_ (Kf ?_ KY)))) (Kf ?_ KY)))
 refine Jr 2 7 (Pt b1 (o1+0*1)) [(6,Sl (At b1 o1) w.length c_w)] (fun X=>?_)
 exact JV (b:=b1) (off:=o1) (len:=w.length) (cap:=c_w) (ik:=.i64) 7 9 1 0 J4 Jp
 refine Jr 3 8 (Sr x1) [(7,Pt b1 (o1+0*1))] (fun X=>?_)
 exact JO 8 9 (cs:=[Sr x1]) 0 (Sr x1) hc1 Jp
 refine Jr 6 11 (Pt b1 (o1+1*1)) [(10,Sl (At b1 o1) w.length c_w)] (fun X=>?_)
 exact JV (b:=b1) (off:=o1) (len:=w.length) (cap:=c_w) (ik:=.i64) 11 9 1 1 J4 Jp
 refine Jr 7 12 (Sr x2) [(11,Pt b1 (o1+1*1))] (fun X=>?_)
 exact JO 12 9 (cs:=[Sr x2]) 0 (Sr x2) hc2 Jp
 refine Jz 4 [(8,Sr x1)] (fun X=>?_)
 refine KG (Ls:=[]) (Lr:=([Sg b 0 (J3 t a_0 c_0 a_1 c_1 a_9 c_9)]::r_9::Lr)) 9 hT ((Yt G x1 (by have q_:=hs _ (Hh hx2);omega)).frame) (fun v G1 L1 hl1 hp=>?_) (fun v G1 L1 hl1 hp=>?_)
 obtain ⟨hne1,rfl,rfl⟩:=hp
 refine J8 (J8 ?_)
 have hp1:(Zu t w).2=(Kb x1).2:=by
  exact Jng ‹_› ‹_›
 refine Wt (QO (Lr:=Lr) [[Sg b 0 (J3 t a_0 c_0 a_1 c_1 a_9 c_9)],r_9] hl1 ?_)
 rw [hp1];exact ⟨hne1,rfl,rfl⟩
 obtain ⟨_,rfl,rfl⟩:=hp
 refine JA [(4,I ((Kb x1).1)),(8,.agg #[I 1,I ((Kb x1).1),Sr x2,Sl none 0 0,I 0,I 0,I 0,I 0,Sl none 0 0,I 0,U 0,U 0,I 0,Sr ([]),Sl none 0 0,Sl none 0 0])] (JF [1,2,3] [(0,0),(5,0),(8,0)] [6,7] [9] (Kf ?_ (Kf ?_ KY)) (Kf ?_ KY))
 refine Jr 6 11 (Pt b1 (o1+1*1)) [(10,Sl (At b1 o1) w.length c_w)] (fun X=>?_)
 exact JV (b:=b1) (off:=o1) (len:=w.length) (cap:=c_w) (ik:=.i64) 11 9 1 1 J4 Jp
 refine Jr 7 12 (Sr x2) [(11,Pt b1 (o1+1*1))] (fun X=>?_)
 exact JO 12 9 (cs:=[Sr x2]) 0 (Sr x2) (fun j v hv=>hl1 _ _ _ (hc2 j v hv)) Jp
 refine Jz 9 [(13,.agg #[I 1,I ((Kb x1).1),Sr x2,Sl none 0 0,I 0,I 0,I 0,I 0,Sl none 0 0,I 0,U 0,U 0,I 0,Sr ([]),Sl none 0 0,Sl none 0 0])] (fun X=>?_)
 refine Km 14 1 #[I 1,I ((Kb x1).1),Sr x2,Sl none 0 0,I 0,I 0,I 0,I 0,Sl none 0 0,I 0,U 0,U 0,I 0,Sr ([]),Sl none 0 0,Sl none 0 0] 53 (fun b2=>JA [(9,Sl (At b2 0) 1 1)] (JF [1,2,3,5,6,7,8] [(0,0)] [] [10] (Ha _) (Kf ?_ KY)))
 refine Jz 10 [(5,Pt b 0),(14,Sl (At b2 0) 1 1)] (fun X=>?_)
 refine QI (b:=b2) (o:=0) (cs:=[I 1,I ((Kb x1).1),Sr x2,Sl none 0 0,I 0,I 0,I 0,I 0,Sl none 0 0,I 0,U 0,U 0,I 0,Sr ([]),Sl none 0 0,Sl none 0 0]) 0 (fun G2 hl2 hz1=>?_)
 have hs1:RS Wh G2 (At b2 0) 1 [(⟨1,(Kb x1).1,x2,[],(⟨0,0,0,0,[],(⟨(⟨0,0,0,0⟩:JX),(⟨[],[],[]⟩:Q4)⟩:Q5)⟩:JU)⟩:K6)]:=RS.lit [[I 1,I ((Kb x1).1),Sr x2,Sl none 0 0,I 0,I 0,I 0,I 0,Sl none 0 0,I 0,U 0,U 0,I 0,Sr ([]),Sl none 0 0,Sl none 0 0]] [(⟨1,(Kb x1).1,x2,[],(⟨0,0,0,0,[],(⟨(⟨0,0,0,0⟩:JX),(⟨[],[],[]⟩:Q4)⟩:Q5)⟩:JU)⟩:K6)] ⟨⟨none,0,none,0,none,0,none,0,rfl,(by (simp;done)),(by have q_:=YF x1;(dsimp only;omega)),w2,(J2 EI G2),(by (simp;done)),(by (simp;done)),(by (simp;done)),(by (simp;done)),(J2 KO G2),(by (simp;done)),(by (simp;done)),(by (simp;done)),(by (simp;done)),(Hb rfl),(J2 QK G2),(J2 EU G2)⟩,trivial⟩ hz1 (Hb rfl) (Hb rfl)
 refine Jw 2 (Jw 2 (KG (Ls:=[[Sg b 0 (J3 t a_0 c_0 a_1 c_1 a_9 c_9)],r_9]) (Lr:=([]::Lr)) 15 hT (Jgs G2 b t a_0 c_0 a_1 c_1 a_9 c_9 r_9 (h_0.mono (Ja hl1 hl2)) (h_1.mono (Ja hl1 hl2)) h_2 h_3 h_4 h_5 h_6 h_7 h_8 (h_9.mono (Ja hl1 hl2)) (At b2 0) 1 ([(⟨1,(Kb x1).1,x2,[],(⟨0,0,0,0,[],(⟨(⟨0,0,0,0⟩:JX),(⟨[],[],[]⟩:Q4)⟩:Q5)⟩:JU)⟩:K6)]) hs1 ‹_› (by simp)) (fun v G3 L1 hl3 hp=>?_) (fun v G3 L1 hl3 hp=>?_)))
 obtain ⟨hne2,rfl,rfl⟩:=hp
 refine J8 (J8 ?_)
 have hp3:(Zu t w).2=(ZO t ([(⟨1,(Kb x1).1,x2,[],(⟨0,0,0,0,[],(⟨(⟨0,0,0,0⟩:JX),(⟨[],[],[]⟩:Q4)⟩:Q5)⟩:JU)⟩:K6)])).2:=by
  rw [JjU (t:=t) (w:=w) ‹_› ‹_› ‹_›]
 refine Wt (QO (Lr:=Lr) [[Sg b 0 (J3 t a_0 c_0 a_1 c_1 a_9 c_9)],r_9] (Ja (Ja hl1 hl2) hl3) ?_)
 rw [hp3];exact ⟨hne2,rfl,rfl⟩
 obtain ⟨_,a1,c1,a2,c2,a3,c3,a4,c4,r1,rfl,hs2,hs3,hs4,w3,w4,w5,w6,w7,w8,w9,hr1,rfl⟩:=hp
 refine JA [(10,Sl a1 (([]:Bs).length) c1),(11,Sl a1 (([]:Bs).length) c1)] (Kl [0,1,2,3,5,6,7,8] [(11,0)] [] [(4,Sl a1 (([]:Bs).length) c1)] (Ha _) (Jc (Jn (Jk 1 (Jk 1 ?_)))))
 have hf1:(Zu t w).2=0∧([]:Bs)=([]:Bs)∧(Zu t w).1=((ZO t ([(⟨1,(Kb x1).1,x2,[],(⟨0,0,0,0,[],(⟨(⟨0,0,0,0⟩:JX),(⟨[],[],[]⟩:Q4)⟩:Q5)⟩:JU)⟩:K6)])).1):=by
  (rw [JjU (t:=t) (w:=w) ‹_› ‹_› ‹_›];exact ⟨by assumption,rfl,rfl⟩)
 refine Jo [0] [Sl a1 (([]:Bs).length) c1] (V5 (KB (Lr:=Lr) [[Sg b 0 (J3 (ZO t ([(⟨1,(Kb x1).1,x2,[],(⟨0,0,0,0,[],(⟨(⟨0,0,0,0⟩:JX),(⟨[],[],[]⟩:Q4)⟩:Q5)⟩:JU)⟩:K6)])).1 a2 c2 a3 c3 a4 c4)],r1] (Ja (Ja hl1 hl2) hl3) ?_))
 rw [hf1.2.1,hf1.2.2]
 try dsimp only
 exact ⟨hf1.1,a1,c1,a2,c2,a3,c3,a4,c4,r1,rfl,hs2,hs3,hs4,w3,w4,w5,w6,w7,w8,w9,hr1,rfl⟩
abbrev JeA (w:Bs):=(⟨2,0,[],(KK w).1,(⟨0,0,0,0,[],(⟨(⟨0,0,0,0⟩:JX),(⟨[],[],[]⟩:Q4)⟩:Q5)⟩:JU)⟩:K6)
theorem Jnk (G:J5) (b:Nat) (t:KD) (a_0:Ba) (c_0:Nat) (a_1:Ba) (c_1:Nat) (a_9:Ba) (c_9:Nat) (r_9:Bg) (h_0:RS ES G a_0 c_0 t.setup.names) (h_1:RS EU G a_1 c_1 t.setup.keys) (h_2:rI t.setup.most) (h_3:rI t.setup.batch) (h_4:rI t.setup.every) (h_5:rI t.setup.least) (h_6:rI t.setup.top) (h_7:rI t.setup.lost) (h_8:rI t.setup.reach) (h_9:JR Wh G a_9 c_9 t.deeds r_9) (a_w:Ba) (c_w:Nat) (w:Bs) (h_w:RS ES G a_w c_w w) (hw:w.length≤1048577) (hs:∀ s∈w,s.length≤1048576) (ht:t.deeds.length≤200) (hn:t.setup.names.length≤1000) (hk:t.setup.keys.length≤1000):Zg Tryz.prog 83 #[Pt b 0,Sl a_w w.length c_w] G [[Sg b 0 [Sl a_0 t.setup.names.length c_0,Sl a_1 t.setup.keys.length c_1,I t.setup.most,I t.setup.batch,I t.setup.every,I t.setup.least,I t.setup.top,I t.setup.lost,I t.setup.reach,Sl a_9 t.deeds.length c_9]],r_9] (fun u G' L'=>((Zv t w).2=0)∧∃ (az1:Ba) (cz2:Nat) (az3:Ba) (cz4:Nat) (az5:Ba) (cz6:Nat) (az7:Ba) (cz8:Nat) (rz9:Bg),u=Sl az1 (([]:Bs).length) cz2∧(RS ES G' az1 cz2 ([]:Bs))∧(RS ES G' az3 cz4 (((Zv t w).1).setup.names))∧(RS EU G' az5 cz6 (((Zv t w).1).setup.keys))∧(rI (((Zv t w).1).setup.most))∧(rI (((Zv t w).1).setup.batch))∧(rI (((Zv t w).1).setup.every))∧(rI (((Zv t w).1).setup.least))∧(rI (((Zv t w).1).setup.top))∧(rI (((Zv t w).1).setup.lost))∧(rI (((Zv t w).1).setup.reach))∧(JR Wh G' az7 cz8 (((Zv t w).1).deeds) rz9)∧L'=[[Sg b 0 [Sl az3 ((((Zv t w).1).setup.names).length) cz4,Sl az5 ((((Zv t w).1).setup.keys).length) cz6,I (((Zv t w).1).setup.most),I (((Zv t w).1).setup.batch),I (((Zv t w).1).setup.every),I (((Zv t w).1).setup.least),I (((Zv t w).1).setup.top),I (((Zv t w).1).setup.lost),I (((Zv t w).1).setup.reach),Sl az7 ((((Zv t w).1).deeds).length) cz8]],rz9]) (fun u _ L'=>(¬ (Zv t w).2=0)∧u=Y5 ((Zv t w).2)∧L'=[[Sg b 0 [Sl a_0 t.setup.names.length c_0,Sl a_1 t.setup.keys.length c_1,I t.setup.most,I t.setup.batch,I t.setup.every,I t.setup.least,I t.setup.top,I t.setup.lost,I t.setup.reach,Sl a_9 t.deeds.length c_9]],r_9]):=by
 intro Lr
 refine W0 Tryz.func83 11 [(0,Pt b 0),(1,Sl a_w w.length c_w)] rfl (fun w0 G0 hT=>?_)
 show TC _ _ _ _ _ ([Sg b 0 (J3 t a_0 c_0 a_1 c_1 a_9 c_9)]::r_9::Lr)
 refine Jg [0] [] (Jf (Jd (Jb [0,0] [(5,Pt b 0),(6,Sl a_w w.length c_w)] (KG (Ls:=[]) (Lr:=([Sg b 0 (J3 t a_0 c_0 a_1 c_1 a_9 c_9)]::r_9::Lr)) 7 hT ((VN G a_w c_w w h_w ‹_› ‹_›).frame) (fun v G1 L1 hl1 hp=>?_) (fun v G1 L1 hl1 hp=>?_)))))
 obtain ⟨hne1,rfl,rfl⟩:=hp
 refine J8 ?_
 have hp1:(Zv t w).2=(KK w).2:=by
  exact Jni ‹_›
 refine Wt (QO (Lr:=Lr) [[Sg b 0 (J3 t a_0 c_0 a_1 c_1 a_9 c_9)],r_9] hl1 ?_)
 rw [hp1];exact ⟨hne1,rfl,rfl⟩
 obtain ⟨_,a1,c1,_,rfl,hr1,rfl⟩:=hp
 refine Jb [0] [(8,.agg #[I 2,I 0,Sr ([]),Sl a1 (((KK w).1).length) c1,I 0,I 0,I 0,I 0,Sl none 0 0,I 0,U 0,U 0,I 0,Sr ([]),Sl none 0 0,Sl none 0 0])] (Km 9 1 #[I 2,I 0,Sr ([]),Sl a1 (((KK w).1).length) c1,I 0,I 0,I 0,I 0,Sl none 0 0,I 0,U 0,U 0,I 0,Sr ([]),Sl none 0 0,Sl none 0 0] 53 (fun b1=>Wg (E:=EI) 1 hr1 (by have q_:=Jgt w;(try simp only [ES,EU,Wh,EI,He,Hd,Hg]);omega) (fun G2 hl2 hs1=>QI (b:=b1) (o:=0) (cs:=[I 2,I 0,Sr ([]),Sl a1 (((KK w).1).length) c1,I 0,I 0,I 0,I 0,Sl none 0 0,I 0,U 0,U 0,I 0,Sr ([]),Sl none 0 0,Sl none 0 0]) 0 (fun G3 hl3 hz1=>?_))))
 have hs2:RS Wh G3 (At b1 0) 1 [(JeA w)]:=RS.lit [[I 2,I 0,Sr ([]),Sl a1 (((KK w).1).length) c1,I 0,I 0,I 0,I 0,Sl none 0 0,I 0,U 0,U 0,I 0,Sr ([]),Sl none 0 0,Sl none 0 0]] [(JeA w)] ⟨⟨a1,c1,none,0,none,0,none,0,rfl,(by (simp;done)),(by (simp;done)),(Hb rfl),(hs1.mono hl3),(by (simp;done)),(by (simp;done)),(by (simp;done)),(by (simp;done)),(J2 KO G3),(by (simp;done)),(by (simp;done)),(by (simp;done)),(by (simp;done)),(Hb rfl),(J2 QK G3),(J2 EU G3)⟩,trivial⟩ hz1 (Hb rfl) (Hb rfl)
 refine Jw 3 (Jw 3 (KG (Ls:=[[Sg b 0 (J3 t a_0 c_0 a_1 c_1 a_9 c_9)],r_9]) (Lr:=([]::[]::Lr)) 10 hT (Jgs G3 b t a_0 c_0 a_1 c_1 a_9 c_9 r_9 (h_0.mono (Ja (Ja hl1 hl2) hl3)) (h_1.mono (Ja (Ja hl1 hl2) hl3)) h_2 h_3 h_4 h_5 h_6 h_7 h_8 (h_9.mono (Ja (Ja hl1 hl2) hl3)) (At b1 0) 1 ([(JeA w)]) hs2 ‹_› (by simp)) (fun v G4 L1 hl4 hp=>?_) (fun v G4 L1 hl4 hp=>?_)))
 obtain ⟨hne2,rfl,rfl⟩:=hp
 refine J8 ?_
 have hp3:(Zv t w).2=(ZO t ([(JeA w)])).2:=by
  rw [JjW (t:=t) (w:=w) ‹_›]
 refine Wt (QO (Lr:=Lr) [[Sg b 0 (J3 t a_0 c_0 a_1 c_1 a_9 c_9)],r_9] (Ja (Ja (Ja hl1 hl2) hl3) hl4) ?_)
 rw [hp3];exact ⟨hne2,rfl,rfl⟩
 obtain ⟨_,a2,c2,a3,c3,a4,c4,a5,c5,r2,rfl,hs3,hs4,hs5,w1,w2,w3,w4,w5,w6,w7,hr2,rfl⟩:=hp
 refine Jb [0] [(4,Sl a2 (([]:Bs).length) c2)] (Je (Jc (Jn (Jk 1 (Jk 1 ?_)))))
 have hf1:(Zv t w).2=0∧([]:Bs)=([]:Bs)∧(Zv t w).1=((ZO t ([(JeA w)])).1):=by
  (rw [JjW (t:=t) (w:=w) ‹_›];exact ⟨by assumption,rfl,rfl⟩)
 refine Jo [0] [Sl a2 (([]:Bs).length) c2] (V5 (KB (Lr:=Lr) [[Sg b 0 (J3 (ZO t ([(JeA w)])).1 a3 c3 a4 c4 a5 c5)],r2] (Ja (Ja (Ja hl1 hl2) hl3) hl4) ?_))
 rw [hf1.2.1,hf1.2.2]
 try dsimp only
 exact ⟨hf1.1,a2,c2,a3,c3,a4,c4,a5,c5,r2,rfl,hs3,hs4,hs5,w1,w2,w3,w4,w5,w6,w7,hr2,rfl⟩
abbrev Jk6 (kn1:Nat) (t:KD):=ZO t (Hc kn1 (⟨4,0,[],[],(⟨0,0,0,0,[],(⟨(⟨0,0,0,0⟩:JX),(⟨[],[],[]⟩:Q4)⟩:Q5)⟩:JU)⟩:K6))
theorem Jnl (G:J5) (b:Nat) (t:KD) (a_0:Ba) (c_0:Nat) (a_1:Ba) (c_1:Nat) (a_9:Ba) (c_9:Nat) (r_9:Bg) (h_0:RS ES G a_0 c_0 t.setup.names) (h_1:RS EU G a_1 c_1 t.setup.keys) (h_2:rI t.setup.most) (h_3:rI t.setup.batch) (h_4:rI t.setup.every) (h_5:rI t.setup.least) (h_6:rI t.setup.top) (h_7:rI t.setup.lost) (h_8:rI t.setup.reach) (h_9:JR Wh G a_9 c_9 t.deeds r_9) (a_w:Ba) (c_w:Nat) (w:Bs) (h_w:RS ES G a_w c_w w) (hw:w.length=1) (hs:∀ s∈w,s.length≤1048576) (ht:t.deeds.length≤200) (hn:t.setup.names.length≤1000) (hk:t.setup.keys.length≤1000):Zg Tryz.prog 84 #[Pt b 0,Sl a_w w.length c_w] G [[Sg b 0 [Sl a_0 t.setup.names.length c_0,Sl a_1 t.setup.keys.length c_1,I t.setup.most,I t.setup.batch,I t.setup.every,I t.setup.least,I t.setup.top,I t.setup.lost,I t.setup.reach,Sl a_9 t.deeds.length c_9]],r_9] (fun u G' L'=>((Zw t w).2=0)∧∃ (az1:Ba) (cz2:Nat) (az3:Ba) (cz4:Nat) (az5:Ba) (cz6:Nat) (az7:Ba) (cz8:Nat) (rz9:Bg),u=Sl az1 (([]:Bs).length) cz2∧(RS ES G' az1 cz2 ([]:Bs))∧(RS ES G' az3 cz4 (((Zw t w).1).setup.names))∧(RS EU G' az5 cz6 (((Zw t w).1).setup.keys))∧(rI (((Zw t w).1).setup.most))∧(rI (((Zw t w).1).setup.batch))∧(rI (((Zw t w).1).setup.every))∧(rI (((Zw t w).1).setup.least))∧(rI (((Zw t w).1).setup.top))∧(rI (((Zw t w).1).setup.lost))∧(rI (((Zw t w).1).setup.reach))∧(JR Wh G' az7 cz8 (((Zw t w).1).deeds) rz9)∧L'=[[Sg b 0 [Sl az3 ((((Zw t w).1).setup.names).length) cz4,Sl az5 ((((Zw t w).1).setup.keys).length) cz6,I (((Zw t w).1).setup.most),I (((Zw t w).1).setup.batch),I (((Zw t w).1).setup.every),I (((Zw t w).1).setup.least),I (((Zw t w).1).setup.top),I (((Zw t w).1).setup.lost),I (((Zw t w).1).setup.reach),Sl az7 ((((Zw t w).1).deeds).length) cz8]],rz9]) (fun u _ L'=>(¬ (Zw t w).2=0)∧u=Y5 ((Zw t w).2)∧L'=[[Sg b 0 [Sl a_0 t.setup.names.length c_0,Sl a_1 t.setup.keys.length c_1,I t.setup.most,I t.setup.batch,I t.setup.every,I t.setup.least,I t.setup.top,I t.setup.lost,I t.setup.reach,Sl a_9 t.deeds.length c_9]],r_9]):=by
 intro Lr
 refine W0 Tryz.func84 17 [(0,Pt b 0),(1,Sl a_w w.length c_w)] rfl (fun w0 G0 hT=>?_)
 show TC _ _ _ _ _ ([Sg b 0 (J3 t a_0 c_0 a_1 c_1 a_9 c_9)]::r_9::Lr)
 refine Jg [0] [] (Jf (Jd (Jb [0] [(6,Sl a_w w.length c_w)] ?_)))
 obtain ⟨b1,o1,rfl⟩:=RS.addr h_w (k:=0) (by omega)
 obtain ⟨x1,hx1⟩:=QS (l:=w) (k:=0) (by omega)
 obtain ⟨_,⟨rfl,_⟩,hc1⟩:=RS.get h_w hx1
 refine JV (b:=b1) (off:=o1) (len:=w.length) (cap:=c_w) (ik:=.i64) 7 9 1 0 J4 (JO 8 9 (cs:=[Sr x1]) 0 (Sr x1) hc1 (KG (Ls:=[]) (Lr:=([Sg b 0 (J3 t a_0 c_0 a_1 c_1 a_9 c_9)]::r_9::Lr)) 9 hT ((Yt G x1 (by have q_:=hs _ (Hh hx1);omega)).frame) (fun v G1 L1 hl1 hp=>?_) (fun v G1 L1 hl1 hp=>?_)))
 obtain ⟨hne1,rfl,rfl⟩:=hp
 refine J8 ?_
 have hp1:(Zw t w).2=(Kb x1).2:=by
  exact Jnh ‹_› ‹_›
 refine Wt (QO (Lr:=Lr) [[Sg b 0 (J3 t a_0 c_0 a_1 c_1 a_9 c_9)],r_9] hl1 ?_)
 rw [hp1];exact ⟨hne1,rfl,rfl⟩
 obtain ⟨_,rfl,rfl⟩:=hp
 refine Jb [0] [(5,I ((Kb x1).1))] (Je (Jc (Jf (Jd (Jb [0,0] [(10,Pt b 0),(11,.agg #[I 4,I 0,Sr ([]),Sl none 0 0,I 0,I 0,I 0,I 0,Sl none 0 0,I 0,U 0,U 0,I 0,Sr ([]),Sl none 0 0,Sl none 0 0])] (Km 12 1 #[I 4,I 0,Sr ([]),Sl none 0 0,I 0,I 0,I 0,I 0,Sl none 0 0,I 0,U 0,U 0,I 0,Sr ([]),Sl none 0 0,Sl none 0 0] 53 (fun b2=>Jb [0,0] [(14,I (if 201<((Kb x1).1) then 201 else ((Kb x1).1)))] (QI (b:=b2) (o:=0) (cs:=[I 4,I 0,Sr ([]),Sl none 0 0,I 0,I 0,I 0,I 0,Sl none 0 0,I 0,U 0,U 0,I 0,Sr ([]),Sl none 0 0,Sl none 0 0]) 0 (fun G2 hl2 hz1=>?_)))))))))
 have hs1:RS Wh G2 (At b2 0) 1 [(⟨4,0,[],[],(⟨0,0,0,0,[],(⟨(⟨0,0,0,0⟩:JX),(⟨[],[],[]⟩:Q4)⟩:Q5)⟩:JU)⟩:K6)]:=RS.lit [[I 4,I 0,Sr ([]),Sl none 0 0,I 0,I 0,I 0,I 0,Sl none 0 0,I 0,U 0,U 0,I 0,Sr ([]),Sl none 0 0,Sl none 0 0]] [(⟨4,0,[],[],(⟨0,0,0,0,[],(⟨(⟨0,0,0,0⟩:JX),(⟨[],[],[]⟩:Q4)⟩:Q5)⟩:JU)⟩:K6)] ⟨⟨none,0,none,0,none,0,none,0,rfl,(by (simp;done)),(by (simp;done)),(Hb rfl),(J2 EI G2),(by (simp;done)),(by (simp;done)),(by (simp;done)),(by (simp;done)),(J2 KO G2),(by (simp;done)),(by (simp;done)),(by (simp;done)),(by (simp;done)),(Hb rfl),(J2 QK G2),(J2 EU G2)⟩,trivial⟩ hz1 (Hb rfl) (Hb rfl)
 obtain ⟨kn1,hkn1⟩:∃ k_:Nat,(if 201<((Kb x1).1) then 201 else ((Kb x1).1))=(k_:Int):=⟨(if 201<((Kb x1).1) then 201 else ((Kb x1).1)).toNat,by (have q_:=YF x1;omega)⟩
 have e1:(if 201<((Kb x1).1) then 201 else ((Kb x1).1))=(kn1:Int):=hkn1
 refine Kv 14 (I (kn1:Int)) (congrArg I e1) (JN 15 (JjS G2 (At b2 0) 1 (⟨4,0,[],[],(⟨0,0,0,0,[],(⟨(⟨0,0,0,0⟩:JX),(⟨[],[],[]⟩:Q4)⟩:Q5)⟩:JU)⟩:K6) hs1 kn1 J4) (fun v G3 L1 hl3 hp=>?_))
 obtain ⟨a1,c1,_,rfl,hr1,rfl⟩:=hp
 refine Wg (E:=Wh) 0 hr1 (by (try simp only [Wh,Hm]);omega) (fun G4 hl4 hs2=>Jw 3 (Jw 3 (KG (Ls:=[[Sg b 0 (J3 t a_0 c_0 a_1 c_1 a_9 c_9)],r_9]) (Lr:=([]::[]::Lr)) 16 hT (Jgs G4 b t a_0 c_0 a_1 c_1 a_9 c_9 r_9 (h_0.mono (Ja (Ja (Ja hl1 hl2) hl3) hl4)) (h_1.mono (Ja (Ja (Ja hl1 hl2) hl3) hl4)) h_2 h_3 h_4 h_5 h_6 h_7 h_8 (h_9.mono (Ja (Ja (Ja hl1 hl2) hl3) hl4)) a1 c1 (Hc kn1 (⟨4,0,[],[],(⟨0,0,0,0,[],(⟨(⟨0,0,0,0⟩:JX),(⟨[],[],[]⟩:Q4)⟩:Q5)⟩:JU)⟩:K6)) hs2 ‹_› (by (rw [Hm];have q_:=YF x1;omega))) (fun v G5 L1 hl5 hp=>?_) (fun v G5 L1 hl5 hp=>?_))))
 obtain ⟨hne2,rfl,rfl⟩:=hp
 refine J8 ?_
 have hp3:(Zw t w).2=(Jk6 kn1 t).2:=by
  rw [JjV (t:=t) (w:=w) ‹_› ‹_› ‹_›]
 refine Wt (QO (Lr:=Lr) [[Sg b 0 (J3 t a_0 c_0 a_1 c_1 a_9 c_9)],r_9] (Ja (Ja (Ja (Ja hl1 hl2) hl3) hl4) hl5) ?_)
 rw [hp3];exact ⟨hne2,rfl,rfl⟩
 obtain ⟨_,a2,c2,a3,c3,a4,c4,a5,c5,r2,rfl,hs3,hs4,hs5,w2,w3,w4,w5,w6,w7,w8,hr2,rfl⟩:=hp
 refine Jb [0] [(4,Sl a2 (([]:Bs).length) c2)] (Je (Jc (Jn (Jk 1 (Jk 1 ?_)))))
 have hf1:(Zw t w).2=0∧([]:Bs)=([]:Bs)∧(Zw t w).1=((Jk6 kn1 t).1):=by
  (rw [JjV (t:=t) (w:=w) ‹_› ‹_› ‹_›];exact ⟨by assumption,rfl,rfl⟩)
 refine Jo [0] [Sl a2 (([]:Bs).length) c2] (V5 (KB (Lr:=Lr) [[Sg b 0 (J3 (Jk6 kn1 t).1 a3 c3 a4 c4 a5 c5)],r2] (Ja (Ja (Ja (Ja hl1 hl2) hl3) hl4) hl5) ?_))
 rw [hf1.2.1,hf1.2.2]
 try dsimp only
 exact ⟨hf1.1,a2,c2,a3,c3,a4,c4,a5,c5,r2,rfl,hs3,hs4,hs5,w2,w3,w4,w5,w6,w7,w8,hr2,rfl⟩
def Jdc (t:KD) (w:Bs):Bs×Int:=if ¬ (Jt t.setup t.deeds).2.2=0 then ([],(Jt t.setup t.deeds).2.2) else ([(Jt t.setup t.deeds).1.clerk.now,((Jt t.setup t.deeds).1.clerk.heads.length:Int),((Jt t.setup t.deeds).1.clerk.queue.wait.length:Int)].map Lib.itoa,0)
theorem Jbu (G:J5) (b:Nat) (t:KD) (a_0:Ba) (c_0:Nat) (a_1:Ba) (c_1:Nat) (a_9:Ba) (c_9:Nat) (r_9:Bg) (h_0:RS ES G a_0 c_0 t.setup.names) (h_1:RS EU G a_1 c_1 t.setup.keys) (h_2:rI t.setup.most) (h_3:rI t.setup.batch) (h_4:rI t.setup.every) (h_5:rI t.setup.least) (h_6:rI t.setup.top) (h_7:rI t.setup.lost) (h_8:rI t.setup.reach) (h_9:JR Wh G a_9 c_9 t.deeds r_9)  (ht:t.deeds.length≤200):Zg Tryz.prog 139 #[Pt b 0] G [[Sg b 0 [Sl a_0 t.setup.names.length c_0,Sl a_1 t.setup.keys.length c_1,I t.setup.most,I t.setup.batch,I t.setup.every,I t.setup.least,I t.setup.top,I t.setup.lost,I t.setup.reach,Sl a_9 t.deeds.length c_9]],r_9] (fun u G' L'=>((Jt t.setup t.deeds).2.2=0)∧∃ (az1:Ba) (cz2:Nat) (az3:Ba) (cz4:Nat) (az5:Ba) (cz6:Nat) (az7:Ba) (cz8:Nat) (az9:Ba) (cz10:Nat) (az11:Ba) (cz12:Nat) (az13:Ba) (cz14:Nat),u=.tuple #[.agg #[I (((Jt t.setup t.deeds).1).clerk.queue.most),Sl az1 ((((Jt t.setup t.deeds).1).clerk.queue.wait).length) cz2,I (((Jt t.setup t.deeds).1).clerk.batch),I (((Jt t.setup t.deeds).1).clerk.every),I (((Jt t.setup t.deeds).1).clerk.now),Sl az3 ((((Jt t.setup t.deeds).1).clerk.heads).length) cz4,Sl az5 ((((Jt t.setup t.deeds).1).clerk.books).length) cz6,Sl az7 ((((Jt t.setup t.deeds).1).owners).length) cz8,Sl az9 ((((Jt t.setup t.deeds).1).polls).length) cz10,I (((Jt t.setup t.deeds).1).net.now),Sl az11 ((((Jt t.setup t.deeds).1).net.way).length) cz12],Sl az13 (((Jt t.setup t.deeds).2.1).length) cz14]∧(rI (((Jt t.setup t.deeds).1).clerk.queue.most))∧(RS Q6 G' az1 cz2 (((Jt t.setup t.deeds).1).clerk.queue.wait))∧(rI (((Jt t.setup t.deeds).1).clerk.batch))∧(rI (((Jt t.setup t.deeds).1).clerk.every))∧(rI (((Jt t.setup t.deeds).1).clerk.now))∧(RS KO G' az3 cz4 (((Jt t.setup t.deeds).1).clerk.heads))∧(RS QA G' az5 cz6 (((Jt t.setup t.deeds).1).clerk.books))∧(RS Q9 G' az7 cz8 (((Jt t.setup t.deeds).1).owners))∧(RS WK G' az9 cz10 (((Jt t.setup t.deeds).1).polls))∧(rI (((Jt t.setup t.deeds).1).net.now))∧(RS Kn G' az11 cz12 (((Jt t.setup t.deeds).1).net.way))∧(RS Wn G' az13 cz14 ((Jt t.setup t.deeds).2.1))∧L'=[[Sg b 0 [Sl a_0 t.setup.names.length c_0,Sl a_1 t.setup.keys.length c_1,I t.setup.most,I t.setup.batch,I t.setup.every,I t.setup.least,I t.setup.top,I t.setup.lost,I t.setup.reach,Sl a_9 t.deeds.length c_9]],r_9]) (fun u _ L'=>(¬ (Jt t.setup t.deeds).2.2=0)∧u=Y5 ((Jt t.setup t.deeds).2.2)∧L'=[[Sg b 0 [Sl a_0 t.setup.names.length c_0,Sl a_1 t.setup.keys.length c_1,I t.setup.most,I t.setup.batch,I t.setup.every,I t.setup.least,I t.setup.top,I t.setup.lost,I t.setup.reach,Sl a_9 t.deeds.length c_9]],r_9]):=by
 intro Lr
 refine W0 Tryz.func139 24 [(0,Pt b 0)] rfl (fun w0 G0 hT=>?_)
 show TC _ _ _ _ _ ([Sg b 0 (J3 t a_0 c_0 a_1 c_1 a_9 c_9)]::r_9::Lr)
 refine Jf (Jd (Jv 2 #[I 0,Sl none 0 0,I 0,I 0,I 0,Sl none 0 0,Sl none 0 0,Sl none 0 0,Sl none 0 0,I 0,Sl none 0 0] 67 (fun b1=>Jb [0] [] (Je (Jc ?_)))))
 refine Ye (σ:=Nat×Ba×Nat×Ba×Nat×Ba×Nat×Ba×Nat×Ba×Nat×Ba×Nat×Ba×Nat×J5) (fun q_=>(J5.le G q_.2.2.2.2.2.2.2.2.2.2.2.2.2.2.2)∧(RS Wn q_.2.2.2.2.2.2.2.2.2.2.2.2.2.2.2 q_.2.1 q_.2.2.1 ((Jt t.setup t.deeds).2.1))∧(rI (((Jt t.setup t.deeds).1).clerk.queue.most))∧(RS Q6 q_.2.2.2.2.2.2.2.2.2.2.2.2.2.2.2 q_.2.2.2.1 q_.2.2.2.2.1 (((Jt t.setup t.deeds).1).clerk.queue.wait))∧(rI (((Jt t.setup t.deeds).1).clerk.batch))∧(rI (((Jt t.setup t.deeds).1).clerk.every))∧(rI (((Jt t.setup t.deeds).1).clerk.now))∧(RS KO q_.2.2.2.2.2.2.2.2.2.2.2.2.2.2.2 q_.2.2.2.2.2.1 q_.2.2.2.2.2.2.1 (((Jt t.setup t.deeds).1).clerk.heads))∧(RS QA q_.2.2.2.2.2.2.2.2.2.2.2.2.2.2.2 q_.2.2.2.2.2.2.2.1 q_.2.2.2.2.2.2.2.2.1 (((Jt t.setup t.deeds).1).clerk.books))∧(RS Q9 q_.2.2.2.2.2.2.2.2.2.2.2.2.2.2.2 q_.2.2.2.2.2.2.2.2.2.1 q_.2.2.2.2.2.2.2.2.2.2.1 (((Jt t.setup t.deeds).1).owners))∧(RS WK q_.2.2.2.2.2.2.2.2.2.2.2.2.2.2.2 q_.2.2.2.2.2.2.2.2.2.2.2.1 q_.2.2.2.2.2.2.2.2.2.2.2.2.1 (((Jt t.setup t.deeds).1).polls))∧(rI (((Jt t.setup t.deeds).1).net.now))∧(RS Kn q_.2.2.2.2.2.2.2.2.2.2.2.2.2.2.2 q_.2.2.2.2.2.2.2.2.2.2.2.2.2.1 q_.2.2.2.2.2.2.2.2.2.2.2.2.2.2.1 (((Jt t.setup t.deeds).1).net.way))) (fun q_=>[(2,Pt b1 0),(4,Pt q_.1 0),(5,Sl q_.2.1 (((Jt t.setup t.deeds).2.1).length) q_.2.2.1),(6,I ((Jt t.setup t.deeds).2.2))]) (fun q_=>q_.2.2.2.2.2.2.2.2.2.2.2.2.2.2.2) (fun q_=>([Sg q_.1 0 (ZU (Jt t.setup t.deeds).1 q_.2.2.2.1 q_.2.2.2.2.1 q_.2.2.2.2.2.1 q_.2.2.2.2.2.2.1 q_.2.2.2.2.2.2.2.1 q_.2.2.2.2.2.2.2.2.1 q_.2.2.2.2.2.2.2.2.2.1 q_.2.2.2.2.2.2.2.2.2.2.1 q_.2.2.2.2.2.2.2.2.2.2.2.1 q_.2.2.2.2.2.2.2.2.2.2.2.2.1 q_.2.2.2.2.2.2.2.2.2.2.2.2.2.1 q_.2.2.2.2.2.2.2.2.2.2.2.2.2.2.1)]::r_9::[Sg b1 0 [I 0,Sl none 0 0,I 0,I 0,I 0,Sl none 0 0,Sl none 0 0,Sl none 0 0,Sl none 0 0,I 0,Sl none 0 0]]::[Sg b 0 (J3 t a_0 c_0 a_1 c_1 a_9 c_9)]::Lr)) ?_ (fun q_ hs=>?_)
 refine Kt [8,13,14] (Wm [(0,Pt b 0),(1,Pt b 0),(2,Pt b 0),(3,(YK t.setup a_0 c_0 a_1 c_1)),(4,Pt b 0),(5,Pt b 0),(6,Pt b 9),(7,Sl a_9 t.deeds.length c_9)] (JF [] [(0,0),(1,0),(2,0),(3,4),(4,0),(5,0),(6,0),(7,4)] [] [8,13] (Ha _) (Kf ?_ (Kf ?_ KY))))
 refine Jz 8 [(11,(YK t.setup a_0 c_0 a_1 c_1)),(15,Sl a_9 t.deeds.length c_9)] (fun X=>?_)
 refine Jw 2 (Qi (Ls:=[r_9]) (Lr:=([Sg b1 0 [I 0,Sl none 0 0,I 0,I 0,I 0,Sl none 0 0,Sl none 0 0,Sl none 0 0,Sl none 0 0,I 0,Sl none 0 0]]::[Sg b 0 (J3 t a_0 c_0 a_1 c_1 a_9 c_9)]::Lr)) 16 (Jez G (WI t.setup a_0 c_0 a_1 c_1) t.setup (⟨a_0,c_0,a_1,c_1,rfl,h_0,h_1,h_2,h_3,h_4,h_5,h_6,h_7,h_8⟩) a_9 c_9 t.deeds r_9 h_9) (fun v G1 L1 hl1 hp=>?_))
 obtain ⟨a1,c1,a2,c2,a3,c3,a4,c4,a5,c5,a6,c6,a7,c7,rfl,w1,hs1,w2,w3,w4,hs2,hs3,hs4,hs5,w5,hs6,hs7,rfl⟩:=hp
 refine JA [(8,.tuple #[(VT (Jt t.setup t.deeds).1 a1 c1 a2 c2 a3 c3 a4 c4 a5 c5 a6 c6),Sl a7 (((Jt t.setup t.deeds).2.1).length) c7,I ((Jt t.setup t.deeds).2.2)]),(9,.tuple #[(VT (Jt t.setup t.deeds).1 a1 c1 a2 c2 a3 c3 a4 c4 a5 c5 a6 c6),Sl a7 (((Jt t.setup t.deeds).2.1).length) c7,I ((Jt t.setup t.deeds).2.2)]),(10,(VT (Jt t.setup t.deeds).1 a1 c1 a2 c2 a3 c3 a4 c4 a5 c5 a6 c6)),(11,Sl a7 (((Jt t.setup t.deeds).2.1).length) c7),(12,I ((Jt t.setup t.deeds).2.2))] (JF [0,1,2,3,4,5,6,7] [(9,0),(10,0),(11,0),(12,0)] [] [13] (Ha _) (Kf ?_ KY))
 refine Jz 13 [] (fun X=>?_)
 refine Jv 4 #[I 0,Sl none 0 0,I 0,I 0,I 0,Sl none 0 0,Sl none 0 0,Sl none 0 0,Sl none 0 0,I 0,Sl none 0 0] 67 (fun b2=>JA [(13,Pt b2 0)] (JF [0,1,2,3,4,5,6,7] [(9,0),(10,0),(11,0),(12,0)] [] [14] (Ha _) (Kf ?_ KY)))
 refine Jz 14 [(4,Pt b2 0),(17,(VT (Jt t.setup t.deeds).1 a1 c1 a2 c2 a3 c3 a4 c4 a5 c5 a6 c6))] (fun X=>?_)
 exact KC 0 ([Sg b2 0 (ZU (Jt t.setup t.deeds).1 a1 c1 a2 c2 a3 c3 a4 c4 a5 c5 a6 c6)]::r_9::[Sg b1 0 [I 0,Sl none 0 0,I 0,I 0,I 0,Sl none 0 0,Sl none 0 0,Sl none 0 0,Sl none 0 0,I 0,Sl none 0 0]]::[Sg b 0 (J3 t a_0 c_0 a_1 c_1 a_9 c_9)]::Lr) (J6 [(15,Sl a7 (((Jt t.setup t.deeds).2.1).length) c7),(16,I ((Jt t.setup t.deeds).2.2))] (Kl [0,1,2,3,4,5,6,7,9,10] [(11,0),(12,0),(15,0),(16,0)] [] [(2,Pt b1 0),(4,Pt b2 0),(5,Sl a7 (((Jt t.setup t.deeds).2.1).length) c7),(6,I ((Jt t.setup t.deeds).2.2))] (Ha _) (QW (b2,a7,c7,a1,c1,a2,c2,a3,c3,a4,c4,a5,c5,a6,c6,G1) ⟨hl1,hs7,w1,hs1,w2,w3,w4,hs2,hs3,hs4,hs5,w5,hs6⟩)))
 refine Jz 13 [] (fun X=>?_)
 refine Jv 4 #[I 0,Sl none 0 0,I 0,I 0,I 0,Sl none 0 0,Sl none 0 0,Sl none 0 0,Sl none 0 0,I 0,Sl none 0 0] 67 (fun b3=>JA [(13,Pt b3 0)] (JF [] [(0,0),(1,0),(2,0),(3,6),(4,0),(5,0),(6,0),(7,6)] [] [8] (Ha _) (Kf ?_ KY)))
 refine Jz 8 [(11,(YK t.setup a_0 c_0 a_1 c_1)),(15,Sl a_9 t.deeds.length c_9)] (fun X=>?_)
 refine Jw 3 (Qi (Ls:=[r_9]) (Lr:=([Sg b3 0 [I 0,Sl none 0 0,I 0,I 0,I 0,Sl none 0 0,Sl none 0 0,Sl none 0 0,Sl none 0 0,I 0,Sl none 0 0]]::[Sg b1 0 [I 0,Sl none 0 0,I 0,I 0,I 0,Sl none 0 0,Sl none 0 0,Sl none 0 0,Sl none 0 0,I 0,Sl none 0 0]]::[Sg b 0 (J3 t a_0 c_0 a_1 c_1 a_9 c_9)]::Lr)) 16 (Jez G (WI t.setup a_0 c_0 a_1 c_1) t.setup (⟨a_0,c_0,a_1,c_1,rfl,h_0,h_1,h_2,h_3,h_4,h_5,h_6,h_7,h_8⟩) a_9 c_9 t.deeds r_9 h_9) (fun v G2 L1 hl2 hp=>?_))
 obtain ⟨a8,c8,a9,c9,a10,c10,a11,c11,a12,c12,a13,c13,a14,c14,rfl,w6,hs8,w7,w8,w9,hs9,hs10,hs11,hs12,w10,hs13,hs14,rfl⟩:=hp
 refine JA [(8,.tuple #[(VT (Jt t.setup t.deeds).1 a8 c8 a9 c9 a10 c10 a11 c11 a12 c12 a13 c13),Sl a14 (((Jt t.setup t.deeds).2.1).length) c14,I ((Jt t.setup t.deeds).2.2)]),(9,.tuple #[(VT (Jt t.setup t.deeds).1 a8 c8 a9 c9 a10 c10 a11 c11 a12 c12 a13 c13),Sl a14 (((Jt t.setup t.deeds).2.1).length) c14,I ((Jt t.setup t.deeds).2.2)]),(10,(VT (Jt t.setup t.deeds).1 a8 c8 a9 c9 a10 c10 a11 c11 a12 c12 a13 c13)),(11,Sl a14 (((Jt t.setup t.deeds).2.1).length) c14),(12,I ((Jt t.setup t.deeds).2.2))] (JF [0,1,2,3,4,5,6,7] [(9,0),(10,0),(11,0),(12,0)] [] [14] (Ha _) (Kf ?_ KY))
 refine Jz 14 [(4,Pt b3 0),(17,(VT (Jt t.setup t.deeds).1 a8 c8 a9 c9 a10 c10 a11 c11 a12 c12 a13 c13))] (fun X=>?_)
 exact KC 1 (r_9::[Sg b3 0 (ZU (Jt t.setup t.deeds).1 a8 c8 a9 c9 a10 c10 a11 c11 a12 c12 a13 c13)]::[Sg b1 0 [I 0,Sl none 0 0,I 0,I 0,I 0,Sl none 0 0,Sl none 0 0,Sl none 0 0,Sl none 0 0,I 0,Sl none 0 0]]::[Sg b 0 (J3 t a_0 c_0 a_1 c_1 a_9 c_9)]::Lr) (J6 [(15,Sl a14 (((Jt t.setup t.deeds).2.1).length) c14),(16,I ((Jt t.setup t.deeds).2.2))] (Kl [0,1,2,3,4,5,6,7,9,10] [(11,0),(12,0),(15,0),(16,0)] [] [(2,Pt b1 0),(4,Pt b3 0),(5,Sl a14 (((Jt t.setup t.deeds).2.1).length) c14),(6,I ((Jt t.setup t.deeds).2.2))] (Ha _) (Jk 3 (Jk 3 (Jk 2 (Jk 3 (QW (b3,a14,c14,a8,c8,a9,c9,a10,c10,a11,c11,a12,c12,a13,c13,G2) ⟨hl2,hs14,w6,hs8,w7,w8,w9,hs9,hs10,hs11,hs12,w10,hs13⟩)))))))
 obtain ⟨b2,a7,c7,a1,c1,a2,c2,a3,c3,a4,c4,a5,c5,a6,c6,G1⟩:=q_
 obtain ⟨hle1,hj1,hj2,hj3,hj4,hj5,hj6,hj7,hj8,hj9,hj10,hj11,hj12⟩:=hs
 dsimp only at hle1 hj1 hj2 hj3 hj4 hj5 hj6 hj7 hj8 hj9 hj10 hj11 hj12
 dsimp only
 refine Jf (Jd (Jb [0] [(20,I ((Jt t.setup t.deeds).2.2))] (KG (Ls:=[]) (Lr:=([Sg b2 0 (ZU (Jt t.setup t.deeds).1 a1 c1 a2 c2 a3 c3 a4 c4 a5 c5 a6 c6)]::r_9::[Sg b1 0 [I 0,Sl none 0 0,I 0,I 0,I 0,Sl none 0 0,Sl none 0 0,Sl none 0 0,Sl none 0 0,I 0,Sl none 0 0]]::[Sg b 0 (J3 t a_0 c_0 a_1 c_1 a_9 c_9)]::Lr)) 21 hT ((ZN G1 ((Jt t.setup t.deeds).2.2)).frame) (fun v G3 L1 hl3 hp=>?_) (fun v G3 L1 hl3 hp=>?_))))
 obtain ⟨hne1,rfl,rfl⟩:=hp
 refine J8 ?_
 have hp1:(Jt t.setup t.deeds).2.2=(Jt t.setup t.deeds).2.2:=by
  rfl
 refine Jk 1 (Jk 3 ?_)
 refine Wt (QO (Lr:=Lr) [[Sg b 0 (J3 t a_0 c_0 a_1 c_1 a_9 c_9)],r_9] (Ja hle1 hl3) ?_)
 rw [hp1];exact ⟨hne1,rfl,rfl⟩
 obtain ⟨_,rfl,rfl⟩:=hp
 refine Je (Jc (QF [2,0,7,0] [(3,Sl a7 (((Jt t.setup t.deeds).2.1).length) c7)] ([Sg b2 0 (ZU (Jt t.setup t.deeds).1 a1 c1 a2 c2 a3 c3 a4 c4 a5 c5 a6 c6)]::r_9::[Sg b1 0 (ZU (Jt t.setup t.deeds).1 a1 c1 a2 c2 a3 c3 a4 c4 a5 c5 a6 c6)]::[Sg b 0 (J3 t a_0 c_0 a_1 c_1 a_9 c_9)]::Lr) (Jn (Jk 1 (Jk 3 ?_)))))
 have hf1:(Jt t.setup t.deeds).2.2=0∧(Jt t.setup t.deeds).1=((Jt t.setup t.deeds).1)∧(Jt t.setup t.deeds).2.1=(Jt t.setup t.deeds).2.1:=by
  exact ⟨by assumption,rfl,rfl⟩
 refine Jo [3,0] [(VT (Jt t.setup t.deeds).1 a1 c1 a2 c2 a3 c3 a4 c4 a5 c5 a6 c6),Sl a7 (((Jt t.setup t.deeds).2.1).length) c7] (V5 (KB (Lr:=Lr) [[Sg b 0 (J3 t a_0 c_0 a_1 c_1 a_9 c_9)],r_9] (Ja hle1 hl3) ?_))
 rw [hf1.2.1,hf1.2.2]
 try dsimp only
 exact ⟨hf1.1,a1,c1,a2,c2,a3,c3,a4,c4,a5,c5,a6,c6,a7,c7,rfl,hj2,(hj3.mono hl3),hj4,hj5,hj6,(hj7.mono hl3),(hj8.mono hl3),(hj9.mono hl3),(hj10.mono hl3),hj11,(hj12.mono hl3),(hj1.mono hl3),rfl⟩
theorem Jpg (G:J5) (b:Nat) (t:KD) (a_0:Ba) (c_0:Nat) (a_1:Ba) (c_1:Nat) (a_9:Ba) (c_9:Nat) (r_9:Bg) (h_0:RS ES G a_0 c_0 t.setup.names) (h_1:RS EU G a_1 c_1 t.setup.keys) (h_2:rI t.setup.most) (h_3:rI t.setup.batch) (h_4:rI t.setup.every) (h_5:rI t.setup.least) (h_6:rI t.setup.top) (h_7:rI t.setup.lost) (h_8:rI t.setup.reach) (h_9:JR Wh G a_9 c_9 t.deeds r_9) (a_w:Ba) (c_w:Nat) (w:Bs) (h_w:RS ES G a_w c_w w) (ht:t.deeds.length≤200):Zg Tryz.prog 85 #[Pt b 0,Sl a_w w.length c_w] G [[Sg b 0 [Sl a_0 t.setup.names.length c_0,Sl a_1 t.setup.keys.length c_1,I t.setup.most,I t.setup.batch,I t.setup.every,I t.setup.least,I t.setup.top,I t.setup.lost,I t.setup.reach,Sl a_9 t.deeds.length c_9]],r_9] (fun u G' L'=>((Jdc t w).2=0)∧∃ (az1:Ba) (cz2:Nat),u=Sl az1 (((Jdc t w).1).length) cz2∧(RS ES G' az1 cz2 ((Jdc t w).1))∧L'=[[Sg b 0 [Sl a_0 t.setup.names.length c_0,Sl a_1 t.setup.keys.length c_1,I t.setup.most,I t.setup.batch,I t.setup.every,I t.setup.least,I t.setup.top,I t.setup.lost,I t.setup.reach,Sl a_9 t.deeds.length c_9]],r_9]) (fun u _ L'=>(¬ (Jdc t w).2=0)∧u=Y5 ((Jdc t w).2)∧L'=[[Sg b 0 [Sl a_0 t.setup.names.length c_0,Sl a_1 t.setup.keys.length c_1,I t.setup.most,I t.setup.batch,I t.setup.every,I t.setup.least,I t.setup.top,I t.setup.lost,I t.setup.reach,Sl a_9 t.deeds.length c_9]],r_9]):=by
 intro Lr
 refine W0 Tryz.func85 26 [(0,Pt b 0),(1,Sl a_w w.length c_w)] rfl (fun w0 G0 hT=>?_)
 show TC _ _ _ _ _ ([Sg b 0 (J3 t a_0 c_0 a_1 c_1 a_9 c_9)]::r_9::Lr)
 refine Jg [0] [] (Jf (Jd (Jb [0] [(8,Pt b 0)] (Jw 1 (Jw 1 (KG (Ls:=[[Sg b 0 (J3 t a_0 c_0 a_1 c_1 a_9 c_9)],r_9]) (Lr:=Lr) 9 hT (Jbu G b t a_0 c_0 a_1 c_1 a_9 c_9 r_9 h_0 h_1 h_2 h_3 h_4 h_5 h_6 h_7 h_8 h_9 ‹_›) (fun v G1 L1 hl1 hp=>?_) (fun v G1 L1 hl1 hp=>?_)))))))
 obtain ⟨hne1,rfl,rfl⟩:=hp
 refine J8 ?_
 have hp1:(Jdc t w).2=(Jt t.setup t.deeds).2.2:=by
  unfold Jdc;rw [if_pos ‹_›]
 refine Wt (QO (Lr:=Lr) [[Sg b 0 (J3 t a_0 c_0 a_1 c_1 a_9 c_9)],r_9] hl1 ?_)
 rw [hp1];exact ⟨hne1,rfl,rfl⟩
 obtain ⟨_,a1,c1,a2,c2,a3,c3,a4,c4,a5,c5,a6,c6,a7,c7,rfl,_,_,_,_,w4,_,_,_,_,_,_,_,rfl⟩:=hp
 refine Jb [0,0,0] [(10,(VT (Jt t.setup t.deeds).1 a1 c1 a2 c2 a3 c3 a4 c4 a5 c5 a6 c6)),(11,Sl a7 (((Jt t.setup t.deeds).2.1).length) c7)] (Jv 5 #[I 0,Sl none 0 0,I 0,I 0,I 0,Sl none 0 0,Sl none 0 0,Sl none 0 0,Sl none 0 0,I 0,Sl none 0 0] 67 (fun b1=>JW [3,0] [] ([Sg b1 0 (ZU (Jt t.setup t.deeds).1 a1 c1 a2 c2 a3 c3 a4 c4 a5 c5 a6 c6)]::[Sg b 0 (J3 t a_0 c_0 a_1 c_1 a_9 c_9)]::r_9::Lr) (Je (Jc (Jf (Jd (Jb [0,0,2,0,0,2,0,0,0,0,2,0] [(14,I (((Jt t.setup t.deeds).1).clerk.now)),(18,I ((((Jt t.setup t.deeds).1).clerk.heads).length:Int)),(23,I ((((Jt t.setup t.deeds).1).clerk.queue.wait).length:Int))] (Km 24 3 #[I (((Jt t.setup t.deeds).1).clerk.now),I ((((Jt t.setup t.deeds).1).clerk.heads).length:Int),I ((((Jt t.setup t.deeds).1).clerk.queue.wait).length:Int)] 3 (fun b2=>QI (b:=b2) (o:=0) (cs:=[I (((Jt t.setup t.deeds).1).clerk.now),I ((((Jt t.setup t.deeds).1).clerk.heads).length:Int),I ((((Jt t.setup t.deeds).1).clerk.queue.wait).length:Int)]) 0 (fun G2 hl2 hz1=>?_))))))))))
 have hs8:RS EI G2 (At b2 0) 3 [((Jt t.setup t.deeds).1).clerk.now,((((Jt t.setup t.deeds).1).clerk.heads).length:Int),((((Jt t.setup t.deeds).1).clerk.queue.wait).length:Int)]:=RS.lit [[I (((Jt t.setup t.deeds).1).clerk.now)],[I ((((Jt t.setup t.deeds).1).clerk.heads).length:Int)],[I ((((Jt t.setup t.deeds).1).clerk.queue.wait).length:Int)]] [((Jt t.setup t.deeds).1).clerk.now,((((Jt t.setup t.deeds).1).clerk.heads).length:Int),((((Jt t.setup t.deeds).1).clerk.queue.wait).length:Int)] ⟨⟨rfl,w4⟩,⟨⟨rfl,(by (have q_:=ZF (Vb ‹_›).1;omega))⟩,⟨⟨rfl,(by (have q_:=ZF (Vb ‹_›).1;omega))⟩,trivial⟩⟩⟩ hz1 (Hb rfl) (Hb rfl)
 refine ZQ (Ls:=[]) (Lr:=([]::[Sg b1 0 (ZU (Jt t.setup t.deeds).1 a1 c1 a2 c2 a3 c3 a4 c4 a5 c5 a6 c6)]::[Sg b 0 (J3 t a_0 c_0 a_1 c_1 a_9 c_9)]::r_9::Lr)) 25 hT ((Jgr G2 (At b2 0) 3 ([((Jt t.setup t.deeds).1).clerk.now,((((Jt t.setup t.deeds).1).clerk.heads).length:Int),((((Jt t.setup t.deeds).1).clerk.queue.wait).length:Int)]) hs8 (by simp)).frame) (fun v G3 L1 hl3 hp=>?_)
 obtain ⟨_,a8,c8,_,rfl,hr1,rfl⟩:=hp
 refine Jb [0] [(4,Sl a8 ((([((Jt t.setup t.deeds).1).clerk.now,((((Jt t.setup t.deeds).1).clerk.heads).length:Int),((((Jt t.setup t.deeds).1).clerk.queue.wait).length:Int)]).map Lib.itoa).length) c8)] (Je (Jc (Jn (Wy (E:=ES) 0 hr1 (by (try simp only [ES,EI,Hj,Hd,Hg]);omega) (fun G4 hl4 hs9=>Jk 4 (Jk 4 ?_))))))
 have hf1:(Jdc t w).2=0∧(Jdc t w).1=([((Jt t.setup t.deeds).1).clerk.now,((((Jt t.setup t.deeds).1).clerk.heads).length:Int),((((Jt t.setup t.deeds).1).clerk.queue.wait).length:Int)]).map Lib.itoa:=by
  unfold Jdc;rw [if_neg (by omega)];exact ⟨rfl,rfl⟩
 refine Jo [0] [Sl a8 ((([((Jt t.setup t.deeds).1).clerk.now,((((Jt t.setup t.deeds).1).clerk.heads).length:Int),((((Jt t.setup t.deeds).1).clerk.queue.wait).length:Int)]).map Lib.itoa).length) c8] (V5 (KB (Lr:=Lr) [[Sg b 0 (J3 t a_0 c_0 a_1 c_1 a_9 c_9)],r_9] (Ja (Ja (Ja hl1 hl2) hl3) hl4) ?_))
 rw [hf1.2]
 try dsimp only
 exact ⟨hf1.1,a8,c8,rfl,hs9,rfl⟩
end Go.Proofs.YteaampgpgokjmaaGreatDoor
