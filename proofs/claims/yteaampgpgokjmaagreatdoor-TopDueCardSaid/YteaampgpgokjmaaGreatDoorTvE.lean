import Derived.Test.YteaampgpgokjmaaGreatDoorTvD
set_option linter.unusedVariables false
set_option linter.unusedSimpArgs false
namespace Go.Proofs.YteaampgpgokjmaaGreatDoor
open Go.Tx
open Go.Proofs
open _root_.List renaming forall_mem_nil → Ha, length_set → Hd
open IntKind renaming i64 → Hb
open _root_.Nat renaming le_of_ble_eq_true → Hc
open IntWalk renaming i64_in → He
theorem Jb1 {t:JH} {l:JQ} (h:t.town.clerk.heads.length≤9000000000000000000) (hr:1≤t.reach∧t.reach≤40):0≤WJ t l∧WJ t l≤9000000000000000000∧-1≤Va t l∧Va t l≤9000000000000000000∧-1≤WR t∧WR t≤9000000000000000000:=by
 unfold Va WJ WR minI maxI
 (repeat' split) <;> omega
structure JgS (p:Wb):Prop where
 least:-9223372036854775808≤p.least∧p.least<9223372036854775808
 most:-9223372036854775808≤p.most∧p.most<9223372036854775808
 lost:-9223372036854775808≤p.lost∧p.lost<9223372036854775808
 gap:-9223372036854775808≤p.gap∧p.gap<9223372036854775808
 next:-9223372036854775808≤p.next∧p.next<9223372036854775808
 asked:-9223372036854775808≤p.asked∧p.asked<9223372036854775808
theorem JgS.ok {p:Wb} (h:Y5 p):JgS p:=by
 unfold Y5 at h
 refine ⟨?_,?_,?_,?_,?_,?_⟩ <;> omega
theorem JhJ:JgS Vt:=⟨by decide,by decide,by decide,by decide,by decide,by decide⟩
theorem VU (p:Wb) (now:Int):JgS (KL p now).1:=by
 by_cases h:(KL p now).2=0
 · exact .ok ((Zw _).1 (Jeo h).2.2.2.2.2.2.2.2.2.2.2.2.2.2.1)
 · rw [JhF h];exact JhJ
theorem Jb2 (p:Wb) (now:Int):JgS (Q7 p now).1:=by
 by_cases h:(Q7 p now).2=0
 ·
  obtain ⟨q,_⟩:=JhG h
  obtain ⟨q1,q2,q3⟩:=(JcC p now).1 q
  exact .ok ((Zw _).1 (Jet ((Zw _).2 q1) q2 q3))
 ·
  have e:(Q7 p now).1=Vt:=by revert h;unfold Q7;split <;> simp
  rw [e];exact JhJ
theorem Jn8 {t:JH} {l:JQ} (h:W4 t l.from_=false):Qn t l=t:=by unfold Qn;rw [if_pos h]
theorem Jn9 {t:JH} {l:JQ} (h:W4 t l.from_=true):Qn t l=Wi t ⟨l.from_,0,0,0,(ZB t.town.clerk (WJ t l) (Va t l)).1,(JM t.town.clerk (Ju t l.from_).name (Va t l)).1⟩:=by unfold Qn;rw [if_neg (by rw [h];simp)]
theorem Joa {t:JH} {l:JQ} {k:Int} (e:l.from_=k) (h:W4 t l.from_=true):Qn t l=Wi t ⟨k,0,0,0,(ZB t.town.clerk (WJ t l) (Va t l)).1,(JM t.town.clerk (Ju t k).name (Va t l)).1⟩:=by subst e;exact Jn9 h
theorem Jlg {t:JH} {l:JQ} {k:Nat} (e:l.to_=(k:Int)):ZE t l=⟨⟨t.town.clerk,t.town.owners.set k (JB (Ju t (k:Int)) l.heads l.reply).1,if (JB (Ju t (k:Int)) l.heads l.reply).2.1=0∨(JB (Ju t (k:Int)) l.heads l.reply).2.1=1 then t.town.polls.set k (Q7 (QN t (k:Int)) t.town.clerk.now).1 else t.town.polls,t.town.net⟩,t.reach,t.fates,t.events++[⟨2,(k:Int),(JB (Ju t (k:Int)) l.heads l.reply).2.1,(JB (Ju t (k:Int)) l.heads l.reply).1.head.epoch⟩]⟩:=by
 unfold ZE;rw [e];rfl
theorem tAsk0 {t:JH} {k:Int} (h:¬ (KL (QN t k) t.town.clerk.now).2=0):Zs t k=t:=by unfold Zs;rw [if_pos h]
theorem tAsk1 {t:JH} {k:Int} (h:(KL (QN t k) t.town.clerk.now).2=0) (h1:(WU (KL (QN t k) t.town.clerk.now).1).1=true∧(WU (QN t k)).1=false):Zs t k=Q5 (JaE t k) 3 k 0 t.town.clerk.now:=by
 have h2:Ja4 (KL (QN t k) t.town.clerk.now).1=true∧Ja4 (QN t k)=false:=h1
 unfold Zs;rw [if_neg (by simpa using h),if_pos h2]
theorem tAsk2 {t:JH} {k:Int} (h:(KL (QN t k) t.town.clerk.now).2=0) (h1:(WU (KL (QN t k) t.town.clerk.now).1).1=true→(WU (QN t k)).1=true):Zs t k=JaE t k:=by
 unfold Zs;rw [if_neg (by simpa using h),if_neg]
 rintro ⟨q1,q2⟩
 have:=h1 q1
 have e:Ja4 (QN t k)=true:=this
 rw [e] at q2;cases q2
theorem Jo8 (o:K9) (l:List JU) (r:Wa):-9223372036854775808≤(JB o l r).2.1∧(JB o l r).2.1<9223372036854775808:=by
 have hv:0≤(J0 o l r).1∧(J0 o l r).1≤6:=by
  unfold J0 Qa
  (repeat' split) <;> simp_all <;> omega
 unfold JB
 (repeat' split) <;> simp only <;> omega
set_option maxRecDepth 20000 in
abbrev YY (kn1:Nat) (l:JQ) (t:JH):=JM t.town.clerk ((Ju t (kn1:Int)).name) (Va t l)
abbrev JhK (l:JQ) (t:JH):=ZB t.town.clerk (WJ t l) (Va t l)
abbrev z5_2 (kn1:Nat) (l:JQ):=(⟨l.to_,(kn1:Int),l.since,l.due,l.heads,l.reply⟩:JQ)
theorem Ji1 (G:J4) (b:Nat) (t:JH) (a_1:Option Addr) (c_1:Nat) (a_5:Option Addr) (c_5:Nat) (a_6:Option Addr) (c_6:Nat) (a_7:Option Addr) (c_7:Nat) (a_8:Option Addr) (c_8:Nat) (a_10:Option Addr) (c_10:Nat) (a_12:Option Addr) (c_12:Nat) (a_13:Option Addr) (c_13:Nat) (r_7:List Kh) (r_8:List Kh) (r_12:List Kh) (r_13:List Kh) (h_0:rI t.town.clerk.queue.most) (h_1:RS QW G a_1 c_1 t.town.clerk.queue.wait) (h_2:rI t.town.clerk.batch) (h_3:rI t.town.clerk.every) (h_4:rI t.town.clerk.now) (h_5:RS KA G a_5 c_5 t.town.clerk.heads) (h_6:RS Qk G a_6 c_6 t.town.clerk.books) (h_7:J1 QB G a_7 c_7 t.town.owners r_7) (h_8:J1 Wg G a_8 c_8 t.town.polls r_8) (h_9:rI t.town.net.now) (h_10:RS Ke G a_10 c_10 t.town.net.way) (h_11:rI t.reach) (h_12:J1 Vd G a_12 c_12 t.fates r_12) (h_13:J1 QU G a_13 c_13 t.events r_13) (vs_l:List Value) (l:JQ) (h_l:Ke.R G vs_l l) (hreach:1≤t.reach∧t.reach≤40):Jcc 112 #[Pt b 0,.agg vs_l.toArray] G [[Sg b 0 [I t.town.clerk.queue.most,Sl a_1 t.town.clerk.queue.wait.length c_1,I t.town.clerk.batch,I t.town.clerk.every,I t.town.clerk.now,Sl a_5 t.town.clerk.heads.length c_5,Sl a_6 t.town.clerk.books.length c_6,Sl a_7 t.town.owners.length c_7,Sl a_8 t.town.polls.length c_8,I t.town.net.now,Sl a_10 t.town.net.way.length c_10,I t.reach,Sl a_12 t.fates.length c_12,Sl a_13 t.events.length c_13]],r_7,r_8,r_12,r_13] (fun u G' L'=>∃ (a_z1:Option Addr) (c_z1:Nat) (a_z5:Option Addr) (c_z5:Nat) (a_z6:Option Addr) (c_z6:Nat) (a_z7:Option Addr) (c_z7:Nat) (a_z8:Option Addr) (c_z8:Nat) (a_z10:Option Addr) (c_z10:Nat) (a_z12:Option Addr) (c_z12:Nat) (a_z13:Option Addr) (c_z13:Nat) (r_z7:List Kh) (r_z8:List Kh) (r_z12:List Kh) (r_z13:List Kh),u=.tuple #[]∧(rI ((Qn t l).town.clerk.queue.most))∧(RS QW G' a_z1 c_z1 ((Qn t l).town.clerk.queue.wait))∧(rI ((Qn t l).town.clerk.batch))∧(rI ((Qn t l).town.clerk.every))∧(rI ((Qn t l).town.clerk.now))∧(RS KA G' a_z5 c_z5 ((Qn t l).town.clerk.heads))∧(RS Qk G' a_z6 c_z6 ((Qn t l).town.clerk.books))∧(J1 QB G' a_z7 c_z7 ((Qn t l).town.owners) r_z7)∧(J1 Wg G' a_z8 c_z8 ((Qn t l).town.polls) r_z8)∧(rI ((Qn t l).town.net.now))∧(RS Ke G' a_z10 c_z10 ((Qn t l).town.net.way))∧(rI ((Qn t l).reach))∧(J1 Vd G' a_z12 c_z12 ((Qn t l).fates) r_z12)∧(J1 QU G' a_z13 c_z13 ((Qn t l).events) r_z13)∧L'=[[Sg b 0 [I ((Qn t l).town.clerk.queue.most),Sl a_z1 (((Qn t l).town.clerk.queue.wait).length) c_z1,I ((Qn t l).town.clerk.batch),I ((Qn t l).town.clerk.every),I ((Qn t l).town.clerk.now),Sl a_z5 (((Qn t l).town.clerk.heads).length) c_z5,Sl a_z6 (((Qn t l).town.clerk.books).length) c_z6,Sl a_z7 (((Qn t l).town.owners).length) c_z7,Sl a_z8 (((Qn t l).town.polls).length) c_z8,I ((Qn t l).town.net.now),Sl a_z10 (((Qn t l).town.net.way).length) c_z10,I ((Qn t l).reach),Sl a_z12 (((Qn t l).fates).length) c_z12,Sl a_z13 (((Qn t l).events).length) c_z13]],r_z7,r_z8,r_z12,r_z13]):=by
 obtain ⟨a1,c1,a2,c2,a3,c3,rfl,_,_,_,_,_,_,_,_,_,_,_,_⟩:=h_l
 intro Lr
 refine JR Tryz.func112 76 [(0,Pt b 0),(1,(Q1 l a1 c1 a2 c2 a3 c3))] rfl (fun w0 G0=>?_)
 show TC _ _ _ _ _ ([Sg b 0 (J7 t a_1 c_1 a_5 c_5 a_6 c_6 a_7 c_7 a_8 c_8 a_10 c_10 a_12 c_12 a_13 c_13)]::r_7::r_8::r_12::r_13::Lr)
 refine Jf (Jd (Jv 3 #[I l.to_,I l.from_,I l.since,I l.due,Sl a1 l.heads.length c1,I l.reply.head.epoch,U l.reply.head.root,U l.reply.head.prev,I l.reply.head.at_,Sr l.reply.proof.name,Sl a2 l.reply.proof.entries.length c2,Sl a3 l.reply.proof.sides.length c3] 51 (fun b1=>Je (Jb (Jf (Jf (Jd (Jc [0,0,2] [(11,Pt b 0),(13,I l.from_)] (Jw 5 (Jw 5 (Jw 5 (Jw 5 (Jw 5 (Qp (Ls:=[[Sg b 0 (J7 t a_1 c_1 a_5 c_5 a_6 c_6 a_7 c_7 a_8 c_8 a_10 c_10 a_12 c_12 a_13 c_13)],r_7,r_8,r_12,r_13]) (Lr:=([Sg b1 0 (Kq l a1 c1 a2 c2 a3 c3)]::Lr)) 14 (JbO G b t a_1 c_1 a_5 c_5 a_6 c_6 a_7 c_7 a_8 c_8 a_10 c_10 a_12 c_12 a_13 c_13 r_7 r_8 r_12 r_13 h_0 h_1 h_2 h_3 h_4 h_5 h_6 h_7 h_8 h_9 h_10 h_11 h_12 h_13 l.from_) (fun v G1 L1 hl1 hp=>?_)))))))))))))))
 obtain ⟨a4,c4,a5,c5,a6,c6,a7,c7,a8,c8,a9,c9,a10,c10,a11,c11,r1,r2,r3,r4,rfl,w10,hs4,w11,w12,w13,hs5,hs6,hr1,hr2,w14,hs7,w15,hr3,hr4,rfl⟩:=hp
 refine Jc [0] [(15,Bo (!(W4 t l.from_)))] (Je (Jb (Jl (!(W4 t l.from_)) (fun h1=>?_) (fun h1=>?_))))
 refine Jn (Jj (Jk 4 (Jk 4 (Jk 4 (Jk 4 (Jk 4 ?_))))))
 have hf1:Qn t l=t:=by
  exact Jn8 ‹_›
 refine Jo [] [] (KT (Lr:=Lr) [[Sg b 0 (J7 t a4 c4 a5 c5 a6 c6 a7 c7 a8 c8 a9 c9 a10 c10 a11 c11)],r1,r2,r3,r4] hl1 ?_)
 rw [hf1];try dsimp only
 exact ⟨a4,c4,a5,c5,a6,c6,a7,c7,a8,c8,a9,c9,a10,c10,a11,c11,r1,r2,r3,r4,rfl,w10,hs4,w11,w12,w13,hs5,hs6,hr1,hr2,w14,hs7,w15,hr3,hr4,rfl⟩
 refine Jq (Jb ?_)
 have hown:=VA.1 (show W4 t l.from_=true by assumption)
 obtain ⟨kn1,hkn1⟩:∃ k_:Nat,l.from_=(k_:Int):=⟨(l.from_).toNat,by omega⟩
 have e1:l.from_=(kn1:Int):=hkn1
 refine Ja5 (L':=([Sg b 0 [I t.town.clerk.queue.most,Sl a4 t.town.clerk.queue.wait.length c4,I t.town.clerk.batch,I t.town.clerk.every,I t.town.clerk.now,Sl a5 t.town.clerk.heads.length c5,Sl a6 t.town.clerk.books.length c6,Sl a7 t.town.owners.length c7,Sl a8 t.town.polls.length c8,I t.town.net.now,Sl a9 t.town.net.way.length c9,I t.reach,Sl a10 t.fates.length c10,Sl a11 t.events.length c11]]::r1::r2::r3::r4::[Sg b1 0 [I l.to_,I (kn1:Int),I l.since,I l.due,Sl a1 l.heads.length c1,I l.reply.head.epoch,U l.reply.head.root,U l.reply.head.prev,I l.reply.head.at_,Sr l.reply.proof.name,Sl a2 l.reply.proof.entries.length c2,Sl a3 l.reply.proof.sides.length c3]]::Lr)) (by (simp only [KB,Kq,KH,Zz,J7,Qt,Q1,WP,e1];first | done | rfl)) (Jg [0,0,0,0,0,2,0,0,0] [(4,I (Hb.wrap ((t.town.clerk.heads.length:Int)-1)))] (JkB 4 ((t.town.clerk.heads.length:Int)-1) (by (have q_:=(Jb1 (l:=l) (by have q_:=h_5.fit;simp only [KA] at q_;omega) hreach);have q2_:=h_5.fit;simp only [KA] at q2_;omega)) ?_))
 have e2:(t.town.clerk.heads.length:Int)-1=WR t:=rfl
 refine Q2 4 (I (WR t)) (congrArg I e2) (Jg [0,12,0,0,0,0] [(5,I (if 0 > (if (WR t)<l.since then (WR t) else l.since) then 0 else (if (WR t)<l.since then (WR t) else l.since)))] ?_)
 have e3:(if 0 > (if (WR t)<l.since then (WR t) else l.since) then 0 else (if (WR t)<l.since then (WR t) else l.since))=WJ t l:=rfl
 refine Q2 5 (I (WJ t l)) (congrArg I e3) (Jg [0,0,0,0,2,0,0,0,0,0] [(6,I (if (WR t)<(Hb.wrap ((Hb.wrap ((WJ t l)+t.reach))-1)) then (WR t) else (Hb.wrap ((Hb.wrap ((WJ t l)+t.reach))-1))))] ?_)
 have e4:Hb.wrap ((WJ t l)+t.reach)=(WJ t l)+t.reach:=He _ (by (have q_:=(Jb1 (l:=l) (by have q_:=h_5.fit;simp only [KA] at q_;omega) hreach);have q2_:=h_5.fit;simp only [KA] at q2_;omega))
 have e5:Hb.wrap (((WJ t l)+t.reach)-1)=((WJ t l)+t.reach)-1:=He _ (by (have q_:=(Jb1 (l:=l) (by have q_:=h_5.fit;simp only [KA] at q_;omega) hreach);have q2_:=h_5.fit;simp only [KA] at q2_;omega))
 refine Q2 6 (I (if (WR t)<(((WJ t l)+t.reach)-1) then (WR t) else (((WJ t l)+t.reach)-1))) (show (I (if (WR t)<(Hb.wrap ((Hb.wrap ((WJ t l)+t.reach))-1)) then (WR t) else (Hb.wrap ((Hb.wrap ((WJ t l)+t.reach))-1))):Value)=I (if (WR t)<(((WJ t l)+t.reach)-1) then (WR t) else (((WJ t l)+t.reach)-1)) by simp only [e4,e5]) ?_
 clear e5 e4
 have e6:(if (WR t)<(((WJ t l)+t.reach)-1) then (WR t) else (((WJ t l)+t.reach)-1))=Va t l:=rfl
 refine Q2 6 (I (Va t l)) (congrArg I e6) (Jf (Jd (Jc [0,0,0,0,2,0,0] [(43,(Qt t.town.clerk a4 c4 a5 c5 a6 c6)),(44,I (WJ t l)),(45,I (Va t l))] (JI 46 (JfC G1 (KB t.town.clerk a4 c4 a5 c5 a6 c6) t.town.clerk (⟨a4,c4,a5,c5,a6,c6,rfl,‹_›,hs4,‹_›,‹_›,‹_›,hs5,hs6⟩) (WJ t l) J8 (Va t l) (by (have q_:=(Jb1 (l:=l) (by have q_:=h_5.fit;simp only [KA] at q_;omega) hreach);omega))) (fun v G2 L1 hl2 hp=>?_)))))
 obtain ⟨a12,c12,rfl,hs8,rfl⟩:=hp
 refine Jc [0,0,0,0,0] [(7,Sl a12 (((JhK l t).1).length) c12)] (Je (Jb ?_))
 refine Yv (σ:=Nat×(Option Addr)×Nat×(Option Addr)×Nat×J4) (fun q_=>(J4.le G2 q_.2.2.2.2.2)∧(rI (((YY kn1 l t).1).head.epoch))∧(rU (((YY kn1 l t).1).head.root))∧(rU (((YY kn1 l t).1).head.prev))∧(rI (((YY kn1 l t).1).head.at_))∧((((YY kn1 l t).1).proof.name).length≤140737488351232)∧(RS QD q_.2.2.2.2.2 q_.2.1 q_.2.2.1 (((YY kn1 l t).1).proof.entries))∧(RS EU q_.2.2.2.2.2 q_.2.2.2.1 q_.2.2.2.2.1 (((YY kn1 l t).1).proof.sides))) (fun q_=>[(0,Pt b 0),(3,Pt b1 0),(7,Sl a12 (((JhK l t).1).length) c12),(9,Pt q_.1 0)]) (fun q_=>q_.2.2.2.2.2) (fun q_=>([Sg q_.1 0 (Zz (YY kn1 l t).1 q_.2.1 q_.2.2.1 q_.2.2.2.1 q_.2.2.2.2.1)]::[Sg b 0 (J7 t a4 c4 a5 c5 a6 c6 a7 c7 a8 c8 a9 c9 a10 c10 a11 c11)]::r1::r2::r3::r4::[Sg b1 0 (Kq (z5_2 kn1 l) a1 c1 a2 c2 a3 c3)]::Lr)) ?_ (fun q_ hs=>?_)
 have hx1:(t.town.owners)[kn1]? = some (Ju t (kn1:Int)):=YI (by omega)
 obtain ⟨b2,o1,_,_,⟨a13,c13,rfl,w16,_,_,_,_,_,_,_⟩,ha1,hre1,hc1⟩:=J1.ix (hr1.mono hl2) hx1
 refine Kp [16,20,21] (Wl [(0,Pt b 0),(1,Pt b 0),(2,Pt b 0),(3,Pt b 0),(4,(Qt t.town.clerk a4 c4 a5 c5 a6 c6)),(5,Pt b 0),(6,Pt b 0),(7,Pt b 0),(8,Pt b 7),(9,Sl a7 t.town.owners.length c7),(10,Pt b1 1),(11,I (kn1:Int)),(12,Pt b2 (o1+kn1*8)),(13,Pt b2 (o1+kn1*8)),(14,Sr ((Ju t (kn1:Int)).name)),(15,I (Va t l))] (JK [] [(0,0),(1,0),(2,0),(3,0),(4,2),(5,0),(6,0),(7,0),(8,0),(9,2),(10,0),(11,12),(13,0),(15,0)] [12,14] [16,20] (Ki ?_ (Ki ?_ K8)) (Ki ?_ (Ki ?_ K8))))
 refine Jt 12 62 (Pt b2 (o1+kn1*8)) [(59,Sl a7 t.town.owners.length c7),(61,I (kn1:Int))] (fun X=>?_)
 exact QK (b:=b2) (off:=o1) (len:=t.town.owners.length) (cap:=c7) (ik:=.i64) 62 76 8 kn1 ha1 J8 Jp
 refine Jt 14 64 (Sr ((Ju t (kn1:Int)).name)) [(63,Pt b2 (o1+kn1*8))] (fun X=>?_)
 exact W7 (off:=o1) (p:=kn1*8) (cs:=(KH (Ju t (kn1:Int)) a13 c13)) 64 9 1 0 (Sr ((Ju t (kn1:Int)).name)) hre1 hc1 Jp
 refine JC 16 [(54,(Qt t.town.clerk a4 c4 a5 c5 a6 c6)),(64,Sr ((Ju t (kn1:Int)).name)),(65,I (Va t l))] (fun X=>?_)
 refine JI 66 (VF G2 (KB t.town.clerk a4 c4 a5 c5 a6 c6) t.town.clerk (⟨a4,c4,a5,c5,a6,c6,rfl,‹_›,(hs4.mono hl2),‹_›,‹_›,‹_›,(hs5.mono hl2),(hs6.mono hl2)⟩) ((Ju t (kn1:Int)).name) w16 (Va t l) (by (have q_:=(Jb1 (l:=l) (by have q_:=h_5.fit;simp only [KA] at q_;omega) hreach);omega))) (fun v G3 L1 hl3 hp=>?_)
 obtain ⟨a14,c14,a15,c15,rfl,w23,w24,w25,w26,w27,hs10,hs11,rfl⟩:=hp
 refine JD [(16,.tuple #[(WP (YY kn1 l t).1 a14 c14 a15 c15),I ((YY kn1 l t).2)]),(17,.tuple #[(WP (YY kn1 l t).1 a14 c14 a15 c15),I ((YY kn1 l t).2)]),(18,(WP (YY kn1 l t).1 a14 c14 a15 c15)),(19,I ((YY kn1 l t).2))] (JK [0,1,2,3,4,5,6,7,8,9,10,11,12,13,14,15] [(17,0),(18,0),(19,0)] [] [20] (Ha _) (Ki ?_ K8))
 refine JC 20 [] (fun X=>?_)
 refine Jv 9 #[I 0,U 0,U 0,I 0,Sr ([]),Sl none 0 0,Sl none 0 0] 49 (fun b3=>JD [(20,Pt b3 0)] (JK [0,1,2,3,4,5,6,7,8,9,10,11,12,13,14,15] [(17,0),(18,0),(19,0)] [] [21] (Ha _) (Ki ?_ K8)))
 refine JC 21 [(9,Pt b3 0),(67,(WP (YY kn1 l t).1 a14 c14 a15 c15))] (fun X=>?_)
 exact KN 0 ([Sg b3 0 (Zz (YY kn1 l t).1 a14 c14 a15 c15)]::[Sg b 0 (J7 t a4 c4 a5 c5 a6 c6 a7 c7 a8 c8 a9 c9 a10 c10 a11 c11)]::r1::r2::r3::r4::[Sg b1 0 (Kq (z5_2 kn1 l) a1 c1 a2 c2 a3 c3)]::Lr) (Ka [(22,I ((YY kn1 l t).2))] (Km [0,1,2,3,4,5,6,7,8,9,10,11,12,13,14,15,17,18] [(19,0),(22,0)] [] [(0,Pt b 0),(3,Pt b1 0),(7,Sl a12 (((JhK l t).1).length) c12),(9,Pt b3 0)] (Ha _) (Wd (b3,a14,c14,a15,c15,G3) ⟨hl3,w23,w24,w25,w26,w27,hs10,hs11⟩)))
 refine JC 20 [] (fun X=>?_)
 refine Jv 9 #[I 0,U 0,U 0,I 0,Sr ([]),Sl none 0 0,Sl none 0 0] 49 (fun b4=>JD [(20,Pt b4 0)] (JK [] [(0,0),(1,0),(2,0),(3,0),(4,4),(5,0),(6,0),(7,0),(8,0),(9,4),(10,0),(11,14),(13,0),(15,0)] [12,14] [16] (Ki ?_ (Ki ?_ K8)) (Ki ?_ K8)))
 refine Jt 12 62 (Pt b2 (o1+kn1*8)) [(59,Sl a7 t.town.owners.length c7),(61,I (kn1:Int))] (fun X=>?_)
 exact QK (b:=b2) (off:=o1) (len:=t.town.owners.length) (cap:=c7) (ik:=.i64) 62 76 8 kn1 ha1 J8 Jp
 refine Jt 14 64 (Sr ((Ju t (kn1:Int)).name)) [(63,Pt b2 (o1+kn1*8))] (fun X=>?_)
 exact W7 (off:=o1) (p:=kn1*8) (cs:=(KH (Ju t (kn1:Int)) a13 c13)) 64 9 2 0 (Sr ((Ju t (kn1:Int)).name)) hre1 hc1 Jp
 refine JC 16 [(54,(Qt t.town.clerk a4 c4 a5 c5 a6 c6)),(64,Sr ((Ju t (kn1:Int)).name)),(65,I (Va t l))] (fun X=>?_)
 refine JI 66 (VF G2 (KB t.town.clerk a4 c4 a5 c5 a6 c6) t.town.clerk (⟨a4,c4,a5,c5,a6,c6,rfl,‹_›,(hs4.mono hl2),‹_›,‹_›,‹_›,(hs5.mono hl2),(hs6.mono hl2)⟩) ((Ju t (kn1:Int)).name) w16 (Va t l) (by (have q_:=(Jb1 (l:=l) (by have q_:=h_5.fit;simp only [KA] at q_;omega) hreach);omega))) (fun v G4 L1 hl4 hp=>?_)
 obtain ⟨a16,c16,a17,c17,rfl,w28,w29,w30,w31,w32,hs12,hs13,rfl⟩:=hp
 refine JD [(16,.tuple #[(WP (YY kn1 l t).1 a16 c16 a17 c17),I ((YY kn1 l t).2)]),(17,.tuple #[(WP (YY kn1 l t).1 a16 c16 a17 c17),I ((YY kn1 l t).2)]),(18,(WP (YY kn1 l t).1 a16 c16 a17 c17)),(19,I ((YY kn1 l t).2))] (JK [0,1,2,3,4,5,6,7,8,9,10,11,12,13,14,15] [(17,0),(18,0),(19,0)] [] [21] (Ha _) (Ki ?_ K8))
 refine JC 21 [(9,Pt b4 0),(67,(WP (YY kn1 l t).1 a16 c16 a17 c17))] (fun X=>?_)
 exact KN 0 ([Sg b4 0 (Zz (YY kn1 l t).1 a16 c16 a17 c17)]::[Sg b 0 (J7 t a4 c4 a5 c5 a6 c6 a7 c7 a8 c8 a9 c9 a10 c10 a11 c11)]::r1::r2::r3::r4::[Sg b1 0 (Kq (z5_2 kn1 l) a1 c1 a2 c2 a3 c3)]::Lr) (Ka [(22,I ((YY kn1 l t).2))] (Km [0,1,2,3,4,5,6,7,8,9,10,11,12,13,14,15,17,18] [(19,0),(22,0)] [] [(0,Pt b 0),(3,Pt b1 0),(7,Sl a12 (((JhK l t).1).length) c12),(9,Pt b4 0)] (Ha _) (Wd (b4,a16,c16,a17,c17,G4) ⟨hl4,w28,w29,w30,w31,w32,hs12,hs13⟩)))
 obtain ⟨b3,a14,c14,a15,c15,G3⟩:=q_
 obtain ⟨hle1,hj1,hj2,hj3,hj4,hj5,hj6,hj7⟩:=hs
 dsimp only at hle1 hj1 hj2 hj3 hj4 hj5 hj6 hj7
 dsimp only
 refine Jd (Jc [0,0,14,0,2,0] [(69,Pt b 0),(74,(Q1 (⟨(kn1:Int),0,0,0,(JhK l t).1,(YY kn1 l t).1⟩:JQ) a12 c12 a14 c14 a15 c15))] (Jw 5 (Jw 5 (Jw 5 (Jw 5 (Jw 5 (Qp (Ls:=[[Sg b 0 (J7 t a4 c4 a5 c5 a6 c6 a7 c7 a8 c8 a9 c9 a10 c10 a11 c11)],r1,r2,r3,r4]) (Lr:=([Sg b3 0 (Zz (YY kn1 l t).1 a14 c14 a15 c15)]::[Sg b1 0 (Kq (z5_2 kn1 l) a1 c1 a2 c2 a3 c3)]::Lr)) 75 (JgR G3 b t a4 c4 a5 c5 a6 c6 a7 c7 a8 c8 a9 c9 a10 c10 a11 c11 r1 r2 r3 r4 ‹_› (hs4.mono (Ja hl2 hle1)) ‹_› ‹_› ‹_› (hs5.mono (Ja hl2 hle1)) (hs6.mono (Ja hl2 hle1)) (hr1.mono (Ja hl2 hle1)) (hr2.mono (Ja hl2 hle1)) ‹_› (hs7.mono (Ja hl2 hle1)) ‹_› (hr3.mono (Ja hl2 hle1)) (hr4.mono (Ja hl2 hle1)) (Kq (⟨(kn1:Int),0,0,0,(JhK l t).1,(YY kn1 l t).1⟩:JQ) a12 c12 a14 c14 a15 c15) (⟨(kn1:Int),0,0,0,(JhK l t).1,((YY kn1 l t).1)⟩:JQ) (⟨a12,c12,a14,c14,a15,c15,rfl,(by (dsimp only;omega)),(by (dsimp only;omega)),(by (dsimp only;omega)),(by (dsimp only;omega)),(hs8.mono hle1),hj1,hj2,hj3,hj4,hj5,hj6,hj7⟩)) (fun v G5 L1 hl5 hp=>?_))))))))
 obtain ⟨a18,c18,a19,c19,a20,c20,a21,c21,a22,c22,a23,c23,a24,c24,a25,c25,r5,r6,r7,r8,rfl,w33,hs14,w34,w35,w36,hs15,hs16,hr5,hr6,w37,hs17,w38,hr7,hr8,rfl⟩:=hp
 refine Je (Jk 4 (Jk 4 (Jk 4 (Jk 4 (Jk 4 ?_)))))
 have hf2:Qn t l=(Wi t (⟨(kn1:Int),0,0,0,(JhK l t).1,((YY kn1 l t).1)⟩:JQ)):=by
  (rw [Joa ‹_› ‹_›];done)
 refine ZD [] [] (KT (Lr:=Lr) [[Sg b 0 (J7 (Wi t (⟨(kn1:Int),0,0,0,(JhK l t).1,((YY kn1 l t).1)⟩:JQ)) a18 c18 a19 c19 a20 c20 a21 c21 a22 c22 a23 c23 a24 c24 a25 c25)],r5,r6,r7,r8] (Ja (Ja (Ja hl1 hl2) hle1) hl5) ?_)
 rw [hf2];try dsimp only
 exact ⟨a18,c18,a19,c19,a20,c20,a21,c21,a22,c22,a23,c23,a24,c24,a25,c25,r5,r6,r7,r8,rfl,w33,hs14,w34,w35,w36,hs15,hs16,hr5,hr6,w37,hs17,w38,hr7,hr8,rfl⟩
set_option maxRecDepth 20000 in
abbrev YR (kn1:Nat) (l:JQ) (t:JH):=Q5 (⟨(⟨t.town.clerk,t.town.owners.set kn1 ((JB (Ju t (kn1:Int)) l.heads l.reply).1),t.town.polls,t.town.net⟩:Q8),t.reach,t.fates,t.events⟩:JH) 2 (kn1:Int) ((JB (Ju t (kn1:Int)) l.heads l.reply).2.1) (((JB (Ju t (kn1:Int)) l.heads l.reply).1).head.epoch)
abbrev WZ (kn1:Nat) (l:JQ) (t:JH):=JB (Ju t (kn1:Int)) l.heads l.reply
abbrev Jbo (kn1:Nat) (l:JQ) (t:JH):=Q7 (QN (YR kn1 l t) (kn1:Int)) ((YR kn1 l t).town.clerk.now)
abbrev z6_3 (kn1:Nat) (l:JQ):=(⟨(kn1:Int),l.from_,l.since,l.due,l.heads,l.reply⟩:JQ)
abbrev Jgi (kn1:Nat) (l:JQ) (t:JH):=QN (YR kn1 l t) (kn1:Int)
theorem Job (G:J4) (b:Nat) (t:JH) (a_1:Option Addr) (c_1:Nat) (a_5:Option Addr) (c_5:Nat) (a_6:Option Addr) (c_6:Nat) (a_7:Option Addr) (c_7:Nat) (a_8:Option Addr) (c_8:Nat) (a_10:Option Addr) (c_10:Nat) (a_12:Option Addr) (c_12:Nat) (a_13:Option Addr) (c_13:Nat) (r_7:List Kh) (r_8:List Kh) (r_12:List Kh) (r_13:List Kh) (h_0:rI t.town.clerk.queue.most) (h_1:RS QW G a_1 c_1 t.town.clerk.queue.wait) (h_2:rI t.town.clerk.batch) (h_3:rI t.town.clerk.every) (h_4:rI t.town.clerk.now) (h_5:RS KA G a_5 c_5 t.town.clerk.heads) (h_6:RS Qk G a_6 c_6 t.town.clerk.books) (h_7:J1 QB G a_7 c_7 t.town.owners r_7) (h_8:J1 Wg G a_8 c_8 t.town.polls r_8) (h_9:rI t.town.net.now) (h_10:RS Ke G a_10 c_10 t.town.net.way) (h_11:rI t.reach) (h_12:J1 Vd G a_12 c_12 t.fates r_12) (h_13:J1 QU G a_13 c_13 t.events r_13) (vs_l:List Value) (l:JQ) (h_l:Ke.R G vs_l l) (hev:t.events.length≤1000000) (hto:0≤l.to_∧l.to_<t.town.owners.length) (hpl:t.town.polls.length=t.town.owners.length):Jcc 113 #[Pt b 0,.agg vs_l.toArray] G [[Sg b 0 [I t.town.clerk.queue.most,Sl a_1 t.town.clerk.queue.wait.length c_1,I t.town.clerk.batch,I t.town.clerk.every,I t.town.clerk.now,Sl a_5 t.town.clerk.heads.length c_5,Sl a_6 t.town.clerk.books.length c_6,Sl a_7 t.town.owners.length c_7,Sl a_8 t.town.polls.length c_8,I t.town.net.now,Sl a_10 t.town.net.way.length c_10,I t.reach,Sl a_12 t.fates.length c_12,Sl a_13 t.events.length c_13]],r_7,r_8,r_12,r_13] (fun u G' L'=>∃ (a_z1:Option Addr) (c_z1:Nat) (a_z5:Option Addr) (c_z5:Nat) (a_z6:Option Addr) (c_z6:Nat) (a_z7:Option Addr) (c_z7:Nat) (a_z8:Option Addr) (c_z8:Nat) (a_z10:Option Addr) (c_z10:Nat) (a_z12:Option Addr) (c_z12:Nat) (a_z13:Option Addr) (c_z13:Nat) (r_z7:List Kh) (r_z8:List Kh) (r_z12:List Kh) (r_z13:List Kh),u=.tuple #[]∧(rI ((ZE t l).town.clerk.queue.most))∧(RS QW G' a_z1 c_z1 ((ZE t l).town.clerk.queue.wait))∧(rI ((ZE t l).town.clerk.batch))∧(rI ((ZE t l).town.clerk.every))∧(rI ((ZE t l).town.clerk.now))∧(RS KA G' a_z5 c_z5 ((ZE t l).town.clerk.heads))∧(RS Qk G' a_z6 c_z6 ((ZE t l).town.clerk.books))∧(J1 QB G' a_z7 c_z7 ((ZE t l).town.owners) r_z7)∧(J1 Wg G' a_z8 c_z8 ((ZE t l).town.polls) r_z8)∧(rI ((ZE t l).town.net.now))∧(RS Ke G' a_z10 c_z10 ((ZE t l).town.net.way))∧(rI ((ZE t l).reach))∧(J1 Vd G' a_z12 c_z12 ((ZE t l).fates) r_z12)∧(J1 QU G' a_z13 c_z13 ((ZE t l).events) r_z13)∧L'=[[Sg b 0 [I ((ZE t l).town.clerk.queue.most),Sl a_z1 (((ZE t l).town.clerk.queue.wait).length) c_z1,I ((ZE t l).town.clerk.batch),I ((ZE t l).town.clerk.every),I ((ZE t l).town.clerk.now),Sl a_z5 (((ZE t l).town.clerk.heads).length) c_z5,Sl a_z6 (((ZE t l).town.clerk.books).length) c_z6,Sl a_z7 (((ZE t l).town.owners).length) c_z7,Sl a_z8 (((ZE t l).town.polls).length) c_z8,I ((ZE t l).town.net.now),Sl a_z10 (((ZE t l).town.net.way).length) c_z10,I ((ZE t l).reach),Sl a_z12 (((ZE t l).fates).length) c_z12,Sl a_z13 (((ZE t l).events).length) c_z13]],r_z7,r_z8,r_z12,r_z13]):=by
 obtain ⟨a1,c1,a2,c2,a3,c3,rfl,_,_,_,_,hs1,w5,w6,w7,w8,w9,hs2,hs3⟩:=h_l
 intro Lr
 refine JR Tryz.func113 75 [(0,Pt b 0),(1,(Q1 l a1 c1 a2 c2 a3 c3))] rfl (fun w0 G0=>?_)
 show TC _ _ _ _ _ ([Sg b 0 (J7 t a_1 c_1 a_5 c_5 a_6 c_6 a_7 c_7 a_8 c_8 a_10 c_10 a_12 c_12 a_13 c_13)]::r_7::r_8::r_12::r_13::Lr)
 refine Jf (Jd (Jv 3 #[I l.to_,I l.from_,I l.since,I l.due,Sl a1 l.heads.length c1,I l.reply.head.epoch,U l.reply.head.root,U l.reply.head.prev,I l.reply.head.at_,Sr l.reply.proof.name,Sl a2 l.reply.proof.entries.length c2,Sl a3 l.reply.proof.sides.length c3] 51 (fun b1=>Je (Jb ?_))))
 obtain ⟨kn1,hkn1⟩:∃ k_:Nat,l.to_=(k_:Int):=⟨(l.to_).toNat,by omega⟩
 have e1:l.to_=(kn1:Int):=hkn1
 refine Q2 1 (.agg #[I (kn1:Int),I l.from_,I l.since,I l.due,Sl a1 l.heads.length c1,I l.reply.head.epoch,U l.reply.head.root,U l.reply.head.prev,I l.reply.head.at_,Sr l.reply.proof.name,Sl a2 l.reply.proof.entries.length c2,Sl a3 l.reply.proof.sides.length c3]) (show (.agg #[I l.to_,I l.from_,I l.since,I l.due,Sl a1 l.heads.length c1,I l.reply.head.epoch,U l.reply.head.root,U l.reply.head.prev,I l.reply.head.at_,Sr l.reply.proof.name,Sl a2 l.reply.proof.entries.length c2,Sl a3 l.reply.proof.sides.length c3]:Value)=.agg #[I (kn1:Int),I l.from_,I l.since,I l.due,Sl a1 l.heads.length c1,I l.reply.head.epoch,U l.reply.head.root,U l.reply.head.prev,I l.reply.head.at_,Sr l.reply.proof.name,Sl a2 l.reply.proof.entries.length c2,Sl a3 l.reply.proof.sides.length c3] by simp only [e1]) (Ja5 (L':=([Sg b1 0 [I (kn1:Int),I l.from_,I l.since,I l.due,Sl a1 l.heads.length c1,I l.reply.head.epoch,U l.reply.head.root,U l.reply.head.prev,I l.reply.head.at_,Sr l.reply.proof.name,Sl a2 l.reply.proof.entries.length c2,Sl a3 l.reply.proof.sides.length c3]]::[Sg b 0 [I t.town.clerk.queue.most,Sl a_1 t.town.clerk.queue.wait.length c_1,I t.town.clerk.batch,I t.town.clerk.every,I t.town.clerk.now,Sl a_5 t.town.clerk.heads.length c_5,Sl a_6 t.town.clerk.books.length c_6,Sl a_7 t.town.owners.length c_7,Sl a_8 t.town.polls.length c_8,I t.town.net.now,Sl a_10 t.town.net.way.length c_10,I t.reach,Sl a_12 t.fates.length c_12,Sl a_13 t.events.length c_13]]::r_7::r_8::r_12::r_13::Lr)) (by (simp only [Kq,KH,YQ,Zz,J7,Q1,Ky,Zv,WP,e1];first | done | rfl)) ?_)
 refine Yv (σ:=Nat×(Option Addr)×Nat×J4) (fun q_=>(J4.le G q_.2.2.2)∧((((WZ kn1 l t).1).name).length≤140737488351232)∧(rU (((WZ kn1 l t).1).key))∧(rI (((WZ kn1 l t).1).head.epoch))∧(rU (((WZ kn1 l t).1).head.root))∧(rU (((WZ kn1 l t).1).head.prev))∧(rI (((WZ kn1 l t).1).head.at_))∧(RS ES q_.2.2.2 q_.2.1 q_.2.2.1 (((WZ kn1 l t).1).wanted))∧(rI (((WZ kn1 l t).1).had))) (fun q_=>[(0,Pt b 0),(3,Pt b1 0),(4,Pt q_.1 0),(5,I ((WZ kn1 l t).2.1))]) (fun q_=>q_.2.2.2) (fun q_=>([Sg q_.1 0 (KH (WZ kn1 l t).1 q_.2.1 q_.2.2.1)]::[Sg b1 0 (Kq (z6_3 kn1 l) a1 c1 a2 c2 a3 c3)]::[Sg b 0 (J7 t a_1 c_1 a_5 c_5 a_6 c_6 a_7 c_7 a_8 c_8 a_10 c_10 a_12 c_12 a_13 c_13)]::r_7::r_8::r_12::r_13::Lr)) ?_ (fun q_ hs=>?_)
 have hx1:(t.town.owners)[kn1]? = some (Ju t (kn1:Int)):=YI (by omega)
 obtain ⟨b2,o1,_,_,⟨a4,c4,rfl,w10,w11,w12,w13,w14,w15,hs4,w16⟩,ha1,hre1,hc1⟩:=J1.ix h_7 hx1
 refine Kp [13,18,19] (Wl [(0,Pt b 0),(1,Pt b 0),(2,Pt b 0),(3,Pt b 7),(4,Sl a_7 t.town.owners.length c_7),(5,Pt b1 0),(6,I (kn1:Int)),(7,Pt b2 (o1+kn1*8)),(8,(Ky (Ju t (kn1:Int)) a4 c4)),(9,Pt b1 4),(10,Sl a1 l.heads.length c1),(11,Pt b1 5),(12,(WP l.reply a2 c2 a3 c3))] (JK [] [(0,0),(1,0),(2,0),(3,0),(4,4),(5,0),(6,2),(9,0),(10,2),(11,0),(12,2)] [7,8] [13,18] (Ki ?_ (Ki ?_ K8)) (Ki ?_ (Ki ?_ K8))))
 refine Jt 7 15 (Pt b2 (o1+kn1*8)) [(12,Sl a_7 t.town.owners.length c_7),(14,I (kn1:Int))] (fun X=>?_)
 exact QK (b:=b2) (off:=o1) (len:=t.town.owners.length) (cap:=c_7) (ik:=.i64) 15 76 8 kn1 ha1 J8 Jp
 refine Jt 8 16 (Ky (Ju t (kn1:Int)) a4 c4) [(15,Pt b2 (o1+kn1*8))] (fun X=>?_)
 exact W7 (off:=o1) (p:=kn1*8) (cs:=(KH (Ju t (kn1:Int)) a4 c4)) 16 76 2 0 (Ky (Ju t (kn1:Int)) a4 c4) hre1 hc1 Jp
 refine JC 13 [(16,(Ky (Ju t (kn1:Int)) a4 c4)),(18,Sl a1 l.heads.length c1),(20,(WP l.reply a2 c2 a3 c3))] (fun X=>?_)
 refine JI 21 (Jdd G (KH (Ju t (kn1:Int)) a4 c4) (Ju t (kn1:Int)) (⟨a4,c4,rfl,w10,w11,w12,w13,w14,w15,hs4,w16⟩) a1 c1 l.heads hs1 (Zz l.reply a2 c2 a3 c3) l.reply (⟨a2,c2,a3,c3,rfl,w5,w6,w7,w8,w9,hs2,hs3⟩)) (fun v G1 L1 hl1 hp=>?_)
 obtain ⟨a5,c5,rfl,w17,w18,w19,w20,w21,w22,hs5,w23,rfl⟩:=hp
 refine JD [(13,.tuple #[(Ky (WZ kn1 l t).1 a5 c5),I ((WZ kn1 l t).2.1),I ((WZ kn1 l t).2.2)]),(14,.tuple #[(Ky (WZ kn1 l t).1 a5 c5),I ((WZ kn1 l t).2.1),I ((WZ kn1 l t).2.2)]),(15,(Ky (WZ kn1 l t).1 a5 c5)),(16,I ((WZ kn1 l t).2.1)),(17,I ((WZ kn1 l t).2.2))] (JK [0,1,2,3,4,5,6,7,8,9,10,11,12] [(14,0),(15,0),(16,0),(17,0)] [] [18] (Ha _) (Ki ?_ K8))
 refine JC 18 [] (fun X=>?_)
 refine Jv 4 #[Sr ([]),U 0,I 0,U 0,U 0,I 0,Sl none 0 0,I 0] 76 (fun b3=>JD [(18,Pt b3 0)] (JK [0,1,2,3,4,5,6,7,8,9,10,11,12] [(14,0),(15,0),(16,0),(17,0)] [] [19] (Ha _) (Ki ?_ K8)))
 refine JC 19 [(4,Pt b3 0),(22,(Ky (WZ kn1 l t).1 a5 c5))] (fun X=>?_)
 exact KN 0 ([Sg b3 0 (KH (WZ kn1 l t).1 a5 c5)]::[Sg b1 0 (Kq (z6_3 kn1 l) a1 c1 a2 c2 a3 c3)]::[Sg b 0 (J7 t a_1 c_1 a_5 c_5 a_6 c_6 a_7 c_7 a_8 c_8 a_10 c_10 a_12 c_12 a_13 c_13)]::r_7::r_8::r_12::r_13::Lr) (Ka [(20,I ((WZ kn1 l t).2.1)),(21,I ((WZ kn1 l t).2.2))] (Km [0,1,2,3,4,5,6,7,8,9,10,11,12,14,15] [(16,0),(17,0),(20,0),(21,0)] [] [(0,Pt b 0),(3,Pt b1 0),(4,Pt b3 0),(5,I ((WZ kn1 l t).2.1))] (Ha _) (Wd (b3,a5,c5,G1) ⟨hl1,w17,w18,w19,w20,w21,w22,hs5,w23⟩)))
 refine JC 18 [] (fun X=>?_)
 refine Jv 4 #[Sr ([]),U 0,I 0,U 0,U 0,I 0,Sl none 0 0,I 0] 76 (fun b4=>JD [(18,Pt b4 0)] (JK [] [(0,0),(1,0),(2,0),(3,0),(4,6),(5,0),(6,4),(9,0),(10,4),(11,0),(12,4)] [7,8] [13] (Ki ?_ (Ki ?_ K8)) (Ki ?_ K8)))
 refine Jt 7 15 (Pt b2 (o1+kn1*8)) [(12,Sl a_7 t.town.owners.length c_7),(14,I (kn1:Int))] (fun X=>?_)
 exact QK (b:=b2) (off:=o1) (len:=t.town.owners.length) (cap:=c_7) (ik:=.i64) 15 76 8 kn1 ha1 J8 Jp
 refine Jt 8 16 (Ky (Ju t (kn1:Int)) a4 c4) [(15,Pt b2 (o1+kn1*8))] (fun X=>?_)
 exact W7 (off:=o1) (p:=kn1*8) (cs:=(KH (Ju t (kn1:Int)) a4 c4)) 16 76 3 0 (Ky (Ju t (kn1:Int)) a4 c4) hre1 hc1 Jp
 refine JC 13 [(16,(Ky (Ju t (kn1:Int)) a4 c4)),(18,Sl a1 l.heads.length c1),(20,(WP l.reply a2 c2 a3 c3))] (fun X=>?_)
 refine JI 21 (Jdd G (KH (Ju t (kn1:Int)) a4 c4) (Ju t (kn1:Int)) (⟨a4,c4,rfl,w10,w11,w12,w13,w14,w15,hs4,w16⟩) a1 c1 l.heads hs1 (Zz l.reply a2 c2 a3 c3) l.reply (⟨a2,c2,a3,c3,rfl,w5,w6,w7,w8,w9,hs2,hs3⟩)) (fun v G2 L1 hl2 hp=>?_)
 obtain ⟨a6,c6,rfl,w24,w25,w26,w27,w28,w29,hs6,w30,rfl⟩:=hp
 refine JD [(13,.tuple #[(Ky (WZ kn1 l t).1 a6 c6),I ((WZ kn1 l t).2.1),I ((WZ kn1 l t).2.2)]),(14,.tuple #[(Ky (WZ kn1 l t).1 a6 c6),I ((WZ kn1 l t).2.1),I ((WZ kn1 l t).2.2)]),(15,(Ky (WZ kn1 l t).1 a6 c6)),(16,I ((WZ kn1 l t).2.1)),(17,I ((WZ kn1 l t).2.2))] (JK [0,1,2,3,4,5,6,7,8,9,10,11,12] [(14,0),(15,0),(16,0),(17,0)] [] [19] (Ha _) (Ki ?_ K8))
 refine JC 19 [(4,Pt b4 0),(22,(Ky (WZ kn1 l t).1 a6 c6))] (fun X=>?_)
 exact KN 0 ([Sg b4 0 (KH (WZ kn1 l t).1 a6 c6)]::[Sg b1 0 (Kq (z6_3 kn1 l) a1 c1 a2 c2 a3 c3)]::[Sg b 0 (J7 t a_1 c_1 a_5 c_5 a_6 c_6 a_7 c_7 a_8 c_8 a_10 c_10 a_12 c_12 a_13 c_13)]::r_7::r_8::r_12::r_13::Lr) (Ka [(20,I ((WZ kn1 l t).2.1)),(21,I ((WZ kn1 l t).2.2))] (Km [0,1,2,3,4,5,6,7,8,9,10,11,12,14,15] [(16,0),(17,0),(20,0),(21,0)] [] [(0,Pt b 0),(3,Pt b1 0),(4,Pt b4 0),(5,I ((WZ kn1 l t).2.1))] (Ha _) (Wd (b4,a6,c6,G2) ⟨hl2,w24,w25,w26,w27,w28,w29,hs6,w30⟩)))
 obtain ⟨b3,a5,c5,G1⟩:=q_
 obtain ⟨hle1,hj1,hj2,hj3,hj4,hj5,hj6,hj7,hj8⟩:=hs
 dsimp only at hle1 hj1 hj2 hj3 hj4 hj5 hj6 hj7 hj8
 dsimp only
 refine Jf ?_
 have hx2:(t.town.owners)[kn1]? = some (Ju t (kn1:Int)):=YI (by omega)
 obtain ⟨b5,o2,_,_,⟨_,_,rfl,_,_,_,_,_,_,_,_⟩,ha2,_,_⟩:=J1.ix (h_7.mono hle1) hx2
 refine Kp [9] (Wl [(0,Pt b 0),(1,Pt b 0),(2,Pt b 0),(3,Pt b 7),(4,Sl a_7 t.town.owners.length c_7),(5,Pt b1 0),(6,I (kn1:Int)),(7,(Ky (WZ kn1 l t).1 a5 c5)),(8,Pt b5 (o2+kn1*8))] (JK [] [(0,0),(1,0),(2,0),(3,0),(4,6),(5,0),(6,4),(7,2)] [8] [9] (Ki ?_ K8) (Ki ?_ K8)))
 refine Jt 8 33 (Pt b5 (o2+kn1*8)) [(29,Sl a_7 t.town.owners.length c_7),(31,I (kn1:Int))] (fun X=>?_)
 exact QK (b:=b5) (off:=o2) (len:=t.town.owners.length) (cap:=c_7) (ik:=.i64) 33 76 8 kn1 ha2 J8 Jp
 refine JC 9 [(32,(Ky (WZ kn1 l t).1 a5 c5)),(33,Pt b5 (o2+kn1*8))] (fun X=>?_)
 refine YT (b:=b5) (off:=o2) 3 (h_7.mono hle1) kn1 ((WZ kn1 l t).1) ha2 J8 (Ky (WZ kn1 l t).1 a5 c5) (KH (WZ kn1 l t).1 a5 c5) ⟨a5,c5,rfl,hj1,hj2,hj3,hj4,hj5,hj6,hj7,hj8⟩ (fun r1 hr1=>?_)
 have e2:t.town.owners.length=(t.town.owners.set kn1 ((WZ kn1 l t).1)).length:=(Hd ..).symm
 refine Ka [] (Km [0,1,2,3,4,5,6,7,8] [] [] [(0,Pt b 0),(3,Pt b1 0),(4,Pt b3 0),(5,I ((WZ kn1 l t).2.1))] (Ha _) (JkC (fr':=[(0,Pt b 0),(3,Pt b1 0),(4,Pt b3 0),(5,I ((JB (Ju t (kn1:Int)) l.heads l.reply).2.1))]) (L':=([Sg b3 0 [Sr (((JB (Ju t (kn1:Int)) l.heads l.reply).1).name),U (((JB (Ju t (kn1:Int)) l.heads l.reply).1).key),I (((JB (Ju t (kn1:Int)) l.heads l.reply).1).head.epoch),U (((JB (Ju t (kn1:Int)) l.heads l.reply).1).head.root),U (((JB (Ju t (kn1:Int)) l.heads l.reply).1).head.prev),I (((JB (Ju t (kn1:Int)) l.heads l.reply).1).head.at_),Sl a5 ((((JB (Ju t (kn1:Int)) l.heads l.reply).1).wanted).length) c5,I (((JB (Ju t (kn1:Int)) l.heads l.reply).1).had)]]::[Sg b1 0 [I (kn1:Int),I l.from_,I l.since,I l.due,Sl a1 l.heads.length c1,I l.reply.head.epoch,U l.reply.head.root,U l.reply.head.prev,I l.reply.head.at_,Sr l.reply.proof.name,Sl a2 l.reply.proof.entries.length c2,Sl a3 l.reply.proof.sides.length c3]]::[Sg b 0 [I t.town.clerk.queue.most,Sl a_1 t.town.clerk.queue.wait.length c_1,I t.town.clerk.batch,I t.town.clerk.every,I t.town.clerk.now,Sl a_5 t.town.clerk.heads.length c_5,Sl a_6 t.town.clerk.books.length c_6,Sl a_7 ((t.town.owners.set kn1 ((JB (Ju t (kn1:Int)) l.heads l.reply).1)).length) c_7,Sl a_8 t.town.polls.length c_8,I t.town.net.now,Sl a_10 t.town.net.way.length c_10,I t.reach,Sl a_12 t.fates.length c_12,Sl a_13 t.events.length c_13]]::r1::r_8::r_12::r_13::Lr)) (by rfl) (by (simp only [Kq,KH,YQ,Zz,J7,Q1,Ky,Zv,WP,e2];first | done | rfl)) (Jb (Jf (Jd (Jc [0,0,4,0,0,0,2] [(34,Pt b 0),(36,I (kn1:Int)),(37,I ((WZ kn1 l t).2.1)),(40,I (((WZ kn1 l t).1).head.epoch))] (Jw 6 (Jw 6 (Jw 6 (Jw 6 (Jw 6 (Qp (Ls:=[[Sg b 0 (J7 (⟨(⟨t.town.clerk,(t.town.owners.set kn1 ((WZ kn1 l t).1)),t.town.polls,t.town.net⟩:Q8),t.reach,t.fates,t.events⟩:JH) a_1 c_1 a_5 c_5 a_6 c_6 a_7 c_7 a_8 c_8 a_10 c_10 a_12 c_12 a_13 c_13)],r1,r_8,r_12,r_13]) (Lr:=([Sg b3 0 (KH (WZ kn1 l t).1 a5 c5)]::[Sg b1 0 (Kq (z6_3 kn1 l) a1 c1 a2 c2 a3 c3)]::Lr)) 41 (Jd0 G1 b (⟨(⟨t.town.clerk,t.town.owners.set kn1 ((WZ kn1 l t).1),t.town.polls,t.town.net⟩:Q8),t.reach,t.fates,t.events⟩:JH) a_1 c_1 a_5 c_5 a_6 c_6 a_7 c_7 a_8 c_8 a_10 c_10 a_12 c_12 a_13 c_13 r1 r_8 r_12 r_13 h_0 (h_1.mono hle1) h_2 h_3 h_4 (h_5.mono hle1) (h_6.mono hle1) hr1 (h_8.mono hle1) h_9 (h_10.mono hle1) h_11 (h_12.mono hle1) (h_13.mono hle1) 2 J8 (kn1:Int) J8 ((WZ kn1 l t).2.1) (Jo8 _ _ _) (((WZ kn1 l t).1).head.epoch) hj3 ‹_›) (fun v G3 L1 hl3 hp=>?_)))))))))))))
 obtain ⟨a8,c8,a9,c9,a10,c10,a11,c11,a12,c12,a13,c13,a14,c14,a15,c15,r2,r3,r4,r5,rfl,w38,hs8,w39,w40,w41,hs9,hs10,hr2,hr3,w42,hs11,w43,hr4,hr5,rfl⟩:=hp
 refine Je (Jb (Jf (Jd (Jc [0,0,0] [(44,Bo (decide ((WZ kn1 l t).2.1=0)))] (Ks (decide ((WZ kn1 l t).2.1=0)) [44] [1,1,0] [0,0,0] (fun bb=>[(47,Bo (bb || (decide ((WZ kn1 l t).2.1=1))))]) (Je (Jb (Jl ((decide ((WZ kn1 l t).2.1=0)) || (decide ((WZ kn1 l t).2.1=1))) (fun h1=>?_) (fun h1=>?_)))))))))
 have hx3:((YR kn1 l t).town.polls)[kn1]? = some (Jgi kn1 l t):=JfE (by (simp only [Q5];omega))
 obtain ⟨b6,o3,_,_,⟨rfl,w44,w45,w46,w47,w48,w49⟩,ha3,hre3,hc3⟩:=J1.ix hr3 hx3
 refine Kp [27] (Wl [(0,Pt b 0),(1,Pt b 0),(2,Pt b 0),(3,Pt b 8),(4,Sl a12 (((YR kn1 l t).town.polls).length) c12),(5,Pt b1 0),(6,I (kn1:Int)),(7,Pt b 0),(8,Pt b 0),(9,Pt b 0),(10,Pt b 8),(11,Sl a12 (((YR kn1 l t).town.polls).length) c12),(12,Pt b1 0),(13,I (kn1:Int)),(14,Pt b6 (o3+kn1*6)),(15,(Zv (Jgi kn1 l t))),(16,Pt b 0),(17,Pt b 0),(18,Pt b 0),(19,Pt b 0),(20,Pt b 4),(21,I ((YR kn1 l t).town.clerk.now)),(22,.tuple #[(Zv (Jbo kn1 l t).1),I ((Jbo kn1 l t).2)]),(23,.tuple #[(Zv (Jbo kn1 l t).1),I ((Jbo kn1 l t).2)]),(24,(Zv (Jbo kn1 l t).1)),(25,I ((Jbo kn1 l t).2)),(26,Pt b6 (o3+kn1*6))] (JK [] [(0,0),(1,0),(2,0),(3,0),(4,2),(5,0),(6,14),(7,0),(8,0),(9,0),(10,0),(11,2),(12,0),(13,14),(16,0),(17,0),(18,0),(19,0),(20,0),(21,2),(23,0),(24,0),(25,0)] [14,15,22,26] [27] (Ki ?_ (Ki ?_ (Ki ?_ (Ki ?_ K8)))) (Ki ?_ K8)))
 refine Jt 14 63 (Pt b6 (o3+kn1*6)) [(60,Sl a12 (((YR kn1 l t).town.polls).length) c12),(62,I (kn1:Int))] (fun X=>?_)
 exact QK (b:=b6) (off:=o3) (len:=((YR kn1 l t).town.polls).length) (cap:=c12) (ik:=.i64) 63 143 6 kn1 ha3 (by (simp only [Q5];omega)) Jp
 refine Jt 15 64 (Zv (Jgi kn1 l t)) [(63,Pt b6 (o3+kn1*6))] (fun X=>?_)
 exact W7 (off:=o3) (p:=kn1*6) (cs:=(YQ (Jgi kn1 l t))) 64 143 2 0 (Zv (Jgi kn1 l t)) hre3 hc3 Jp
 refine Jt 22 71 (.tuple #[(Zv (Jbo kn1 l t).1),I ((Jbo kn1 l t).2)]) [(64,(Zv (Jgi kn1 l t))),(70,I ((YR kn1 l t).town.clerk.now))] (fun X=>?_)
 exact Jm 71 (.tuple #[(Zv (Jbo kn1 l t).1),I ((Jbo kn1 l t).2)]) (Jgg G3 (YQ (Jgi kn1 l t)) (Jgi kn1 l t) (⟨rfl,w44,w45,w46,w47,w48,w49⟩) ((YR kn1 l t).town.clerk.now)) Jp
 refine Jt 26 74 (Pt b6 (o3+kn1*6)) [(53,Sl a12 (((YR kn1 l t).town.polls).length) c12),(55,I (kn1:Int))] (fun X=>?_)
 exact QK (b:=b6) (off:=o3) (len:=((YR kn1 l t).town.polls).length) (cap:=c12) (ik:=.i64) 74 143 6 kn1 ha3 (by (simp only [Q5];omega)) Jp
 refine JC 27 [(72,(Zv (Jbo kn1 l t).1)),(74,Pt b6 (o3+kn1*6))] (fun X=>?_)
 refine YT (b:=b6) (off:=o3) 2 hr3 kn1 ((Jbo kn1 l t).1) ha3 (by (simp only [Q5];omega)) (Zv (Jbo kn1 l t).1) (YQ (Jbo kn1 l t).1) ⟨rfl,(Jb2 _ _).least,(Jb2 _ _).most,(Jb2 _ _).lost,(Jb2 _ _).gap,(Jb2 _ _).next,(Jb2 _ _).asked⟩ (fun r6 hr6=>?_)
 have e3:((YR kn1 l t).town.polls).length=(((YR kn1 l t).town.polls).set kn1 ((Jbo kn1 l t).1)).length:=(Hd ..).symm
 refine Ka [] (Km [0,1,2,3,4,5,6,7,8,9,10,11,12,13,14,15,16,17,18,19,20,21,22,23,24,26] [(25,0)] [] [] (Ha _) (JkC (fr':=[]) (L':=([Sg b 0 [I ((Q5 (⟨(⟨t.town.clerk,t.town.owners.set kn1 ((JB (Ju t (kn1:Int)) l.heads l.reply).1),t.town.polls,t.town.net⟩:Q8),t.reach,t.fates,t.events⟩:JH) 2 (kn1:Int) ((JB (Ju t (kn1:Int)) l.heads l.reply).2.1) (((JB (Ju t (kn1:Int)) l.heads l.reply).1).head.epoch)).town.clerk.queue.most),Sl a8 (((Q5 (⟨(⟨t.town.clerk,t.town.owners.set kn1 ((JB (Ju t (kn1:Int)) l.heads l.reply).1),t.town.polls,t.town.net⟩:Q8),t.reach,t.fates,t.events⟩:JH) 2 (kn1:Int) ((JB (Ju t (kn1:Int)) l.heads l.reply).2.1) (((JB (Ju t (kn1:Int)) l.heads l.reply).1).head.epoch)).town.clerk.queue.wait).length) c8,I ((Q5 (⟨(⟨t.town.clerk,t.town.owners.set kn1 ((JB (Ju t (kn1:Int)) l.heads l.reply).1),t.town.polls,t.town.net⟩:Q8),t.reach,t.fates,t.events⟩:JH) 2 (kn1:Int) ((JB (Ju t (kn1:Int)) l.heads l.reply).2.1) (((JB (Ju t (kn1:Int)) l.heads l.reply).1).head.epoch)).town.clerk.batch),I ((Q5 (⟨(⟨t.town.clerk,t.town.owners.set kn1 ((JB (Ju t (kn1:Int)) l.heads l.reply).1),t.town.polls,t.town.net⟩:Q8),t.reach,t.fates,t.events⟩:JH) 2 (kn1:Int) ((JB (Ju t (kn1:Int)) l.heads l.reply).2.1) (((JB (Ju t (kn1:Int)) l.heads l.reply).1).head.epoch)).town.clerk.every),I ((Q5 (⟨(⟨t.town.clerk,t.town.owners.set kn1 ((JB (Ju t (kn1:Int)) l.heads l.reply).1),t.town.polls,t.town.net⟩:Q8),t.reach,t.fates,t.events⟩:JH) 2 (kn1:Int) ((JB (Ju t (kn1:Int)) l.heads l.reply).2.1) (((JB (Ju t (kn1:Int)) l.heads l.reply).1).head.epoch)).town.clerk.now),Sl a9 (((Q5 (⟨(⟨t.town.clerk,t.town.owners.set kn1 ((JB (Ju t (kn1:Int)) l.heads l.reply).1),t.town.polls,t.town.net⟩:Q8),t.reach,t.fates,t.events⟩:JH) 2 (kn1:Int) ((JB (Ju t (kn1:Int)) l.heads l.reply).2.1) (((JB (Ju t (kn1:Int)) l.heads l.reply).1).head.epoch)).town.clerk.heads).length) c9,Sl a10 (((Q5 (⟨(⟨t.town.clerk,t.town.owners.set kn1 ((JB (Ju t (kn1:Int)) l.heads l.reply).1),t.town.polls,t.town.net⟩:Q8),t.reach,t.fates,t.events⟩:JH) 2 (kn1:Int) ((JB (Ju t (kn1:Int)) l.heads l.reply).2.1) (((JB (Ju t (kn1:Int)) l.heads l.reply).1).head.epoch)).town.clerk.books).length) c10,Sl a11 (((Q5 (⟨(⟨t.town.clerk,t.town.owners.set kn1 ((JB (Ju t (kn1:Int)) l.heads l.reply).1),t.town.polls,t.town.net⟩:Q8),t.reach,t.fates,t.events⟩:JH) 2 (kn1:Int) ((JB (Ju t (kn1:Int)) l.heads l.reply).2.1) (((JB (Ju t (kn1:Int)) l.heads l.reply).1).head.epoch)).town.owners).length) c11,Sl a12 ((((Q5 (⟨(⟨t.town.clerk,t.town.owners.set kn1 ((JB (Ju t (kn1:Int)) l.heads l.reply).1),t.town.polls,t.town.net⟩:Q8),t.reach,t.fates,t.events⟩:JH) 2 (kn1:Int) ((JB (Ju t (kn1:Int)) l.heads l.reply).2.1) (((JB (Ju t (kn1:Int)) l.heads l.reply).1).head.epoch)).town.polls).set kn1 ((Q7 (QN (Q5 (⟨(⟨t.town.clerk,t.town.owners.set kn1 ((JB (Ju t (kn1:Int)) l.heads l.reply).1),t.town.polls,t.town.net⟩:Q8),t.reach,t.fates,t.events⟩:JH) 2 (kn1:Int) ((JB (Ju t (kn1:Int)) l.heads l.reply).2.1) (((JB (Ju t (kn1:Int)) l.heads l.reply).1).head.epoch)) (kn1:Int)) ((Q5 (⟨(⟨t.town.clerk,t.town.owners.set kn1 ((JB (Ju t (kn1:Int)) l.heads l.reply).1),t.town.polls,t.town.net⟩:Q8),t.reach,t.fates,t.events⟩:JH) 2 (kn1:Int) ((JB (Ju t (kn1:Int)) l.heads l.reply).2.1) (((JB (Ju t (kn1:Int)) l.heads l.reply).1).head.epoch)).town.clerk.now)).1)).length) c12,I ((Q5 (⟨(⟨t.town.clerk,t.town.owners.set kn1 ((JB (Ju t (kn1:Int)) l.heads l.reply).1),t.town.polls,t.town.net⟩:Q8),t.reach,t.fates,t.events⟩:JH) 2 (kn1:Int) ((JB (Ju t (kn1:Int)) l.heads l.reply).2.1) (((JB (Ju t (kn1:Int)) l.heads l.reply).1).head.epoch)).town.net.now),Sl a13 (((Q5 (⟨(⟨t.town.clerk,t.town.owners.set kn1 ((JB (Ju t (kn1:Int)) l.heads l.reply).1),t.town.polls,t.town.net⟩:Q8),t.reach,t.fates,t.events⟩:JH) 2 (kn1:Int) ((JB (Ju t (kn1:Int)) l.heads l.reply).2.1) (((JB (Ju t (kn1:Int)) l.heads l.reply).1).head.epoch)).town.net.way).length) c13,I ((Q5 (⟨(⟨t.town.clerk,t.town.owners.set kn1 ((JB (Ju t (kn1:Int)) l.heads l.reply).1),t.town.polls,t.town.net⟩:Q8),t.reach,t.fates,t.events⟩:JH) 2 (kn1:Int) ((JB (Ju t (kn1:Int)) l.heads l.reply).2.1) (((JB (Ju t (kn1:Int)) l.heads l.reply).1).head.epoch)).reach),Sl a14 (((Q5 (⟨(⟨t.town.clerk,t.town.owners.set kn1 ((JB (Ju t (kn1:Int)) l.heads l.reply).1),t.town.polls,t.town.net⟩:Q8),t.reach,t.fates,t.events⟩:JH) 2 (kn1:Int) ((JB (Ju t (kn1:Int)) l.heads l.reply).2.1) (((JB (Ju t (kn1:Int)) l.heads l.reply).1).head.epoch)).fates).length) c14,Sl a15 (((Q5 (⟨(⟨t.town.clerk,t.town.owners.set kn1 ((JB (Ju t (kn1:Int)) l.heads l.reply).1),t.town.polls,t.town.net⟩:Q8),t.reach,t.fates,t.events⟩:JH) 2 (kn1:Int) ((JB (Ju t (kn1:Int)) l.heads l.reply).2.1) (((JB (Ju t (kn1:Int)) l.heads l.reply).1).head.epoch)).events).length) c15]]::r2::r6::r4::r5::[Sg b3 0 [Sr (((JB (Ju t (kn1:Int)) l.heads l.reply).1).name),U (((JB (Ju t (kn1:Int)) l.heads l.reply).1).key),I (((JB (Ju t (kn1:Int)) l.heads l.reply).1).head.epoch),U (((JB (Ju t (kn1:Int)) l.heads l.reply).1).head.root),U (((JB (Ju t (kn1:Int)) l.heads l.reply).1).head.prev),I (((JB (Ju t (kn1:Int)) l.heads l.reply).1).head.at_),Sl a5 ((((JB (Ju t (kn1:Int)) l.heads l.reply).1).wanted).length) c5,I (((JB (Ju t (kn1:Int)) l.heads l.reply).1).had)]]::[Sg b1 0 [I (kn1:Int),I l.from_,I l.since,I l.due,Sl a1 l.heads.length c1,I l.reply.head.epoch,U l.reply.head.root,U l.reply.head.prev,I l.reply.head.at_,Sr l.reply.proof.name,Sl a2 l.reply.proof.entries.length c2,Sl a3 l.reply.proof.sides.length c3]]::Lr)) (by rfl) (by (simp only [Kq,KH,YQ,Zz,J7,Q1,Ky,Zv,WP,e3];first | done | rfl)) (Jk 4 (Jk 4 (Jk 4 (Jk 4 (Jk 4 ?_)))))))
 have hf1:ZE t l=(⟨(⟨(YR kn1 l t).town.clerk,(YR kn1 l t).town.owners,((YR kn1 l t).town.polls).set kn1 ((Jbo kn1 l t).1),(YR kn1 l t).town.net⟩:Q8),(YR kn1 l t).reach,(YR kn1 l t).fates,(YR kn1 l t).events⟩:JH):=by
  (rw [Jlg ‹_›,if_pos (by first | omega | (simp only [YR,WZ,Jbo,z6_3,Jgi] at *;omega))];rfl)
 refine ZD [] [] (KT (Lr:=Lr) [[Sg b 0 (J7 (⟨(⟨(YR kn1 l t).town.clerk,(YR kn1 l t).town.owners,(((YR kn1 l t).town.polls).set kn1 ((Jbo kn1 l t).1)),(YR kn1 l t).town.net⟩:Q8),(YR kn1 l t).reach,(YR kn1 l t).fates,(YR kn1 l t).events⟩:JH) a8 c8 a9 c9 a10 c10 a11 c11 a12 c12 a13 c13 a14 c14 a15 c15)],r2,r6,r4,r5] (Ja hle1 hl3) ?_)
 rw [hf1];try dsimp only
 exact ⟨a8,c8,a9,c9,a10,c10,a11,c11,a12,c12,a13,c13,a14,c14,a15,c15,r2,r6,r4,r5,rfl,w38,hs8,w39,w40,w41,hs9,hs10,hr2,hr6,w42,hs11,w43,hr4,hr5,rfl⟩
 refine Jq (Jk 4 (Jk 4 (Jk 4 (Jk 4 (Jk 4 ?_)))))
 have hf2:ZE t l=(YR kn1 l t):=by
  (rw [Jlg ‹_›,if_neg (by first | omega | (simp only [YR,WZ,Jbo,z6_3,Jgi] at *;omega))];done)
 refine ZD [] [] (KT (Lr:=Lr) [[Sg b 0 (J7 (YR kn1 l t) a8 c8 a9 c9 a10 c10 a11 c11 a12 c12 a13 c13 a14 c14 a15 c15)],r2,r3,r4,r5] (Ja hle1 hl3) ?_)
 rw [hf2];try dsimp only
 exact ⟨a8,c8,a9,c9,a10,c10,a11,c11,a12,c12,a13,c13,a14,c14,a15,c15,r2,r3,r4,r5,rfl,w38,hs8,w39,w40,w41,hs9,hs10,hr2,hr3,w42,hs11,w43,hr4,hr5,rfl⟩
set_option maxRecDepth 20000 in
abbrev Jgj (kn1:Nat) (t:JH):=Wi (⟨(⟨t.town.clerk,t.town.owners,t.town.polls.set kn1 ((KL (QN t (kn1:Int)) t.town.clerk.now).1),t.town.net⟩:Q8),t.reach,t.fates,t.events⟩:JH) (⟨(-1),(kn1:Int),((Ju t (kn1:Int)).head.epoch)+1,0,[],(⟨(⟨0,0,0,0⟩:JU),(⟨[],[],[]⟩:Q6)⟩:Wa)⟩:JQ)
abbrev Yc (kn1:Nat) (t:JH):=KL (QN t (kn1:Int)) t.town.clerk.now
abbrev Ji2 (kn1:Nat) (t:JH):=Zv (QN t (kn1:Int))
abbrev z7_3 (kn1:Nat) (t:JH):=WU (QN t (kn1:Int))
theorem Joc (G:J4) (b:Nat) (t:JH) (a_1:Option Addr) (c_1:Nat) (a_5:Option Addr) (c_5:Nat) (a_6:Option Addr) (c_6:Nat) (a_7:Option Addr) (c_7:Nat) (a_8:Option Addr) (c_8:Nat) (a_10:Option Addr) (c_10:Nat) (a_12:Option Addr) (c_12:Nat) (a_13:Option Addr) (c_13:Nat) (r_7:List Kh) (r_8:List Kh) (r_12:List Kh) (r_13:List Kh) (h_0:rI t.town.clerk.queue.most) (h_1:RS QW G a_1 c_1 t.town.clerk.queue.wait) (h_2:rI t.town.clerk.batch) (h_3:rI t.town.clerk.every) (h_4:rI t.town.clerk.now) (h_5:RS KA G a_5 c_5 t.town.clerk.heads) (h_6:RS Qk G a_6 c_6 t.town.clerk.books) (h_7:J1 QB G a_7 c_7 t.town.owners r_7) (h_8:J1 Wg G a_8 c_8 t.town.polls r_8) (h_9:rI t.town.net.now) (h_10:RS Ke G a_10 c_10 t.town.net.way) (h_11:rI t.reach) (h_12:J1 Vd G a_12 c_12 t.fates r_12) (h_13:J1 QU G a_13 c_13 t.events r_13) (k:Int) (hw_k:rI k) (hev:t.events.length≤1000000) (hto:0≤k∧k<t.town.owners.length) (hpl:t.town.polls.length=t.town.owners.length) (hep:∀ (i:Nat) o,t.town.owners[i]? = some o→o.head.epoch≤1000000):Jcc 114 #[Pt b 0,I k] G [[Sg b 0 [I t.town.clerk.queue.most,Sl a_1 t.town.clerk.queue.wait.length c_1,I t.town.clerk.batch,I t.town.clerk.every,I t.town.clerk.now,Sl a_5 t.town.clerk.heads.length c_5,Sl a_6 t.town.clerk.books.length c_6,Sl a_7 t.town.owners.length c_7,Sl a_8 t.town.polls.length c_8,I t.town.net.now,Sl a_10 t.town.net.way.length c_10,I t.reach,Sl a_12 t.fates.length c_12,Sl a_13 t.events.length c_13]],r_7,r_8,r_12,r_13] (fun u G' L'=>∃ (a_z1:Option Addr) (c_z1:Nat) (a_z5:Option Addr) (c_z5:Nat) (a_z6:Option Addr) (c_z6:Nat) (a_z7:Option Addr) (c_z7:Nat) (a_z8:Option Addr) (c_z8:Nat) (a_z10:Option Addr) (c_z10:Nat) (a_z12:Option Addr) (c_z12:Nat) (a_z13:Option Addr) (c_z13:Nat) (r_z7:List Kh) (r_z8:List Kh) (r_z12:List Kh) (r_z13:List Kh),u=.tuple #[]∧(rI ((Zs t k).town.clerk.queue.most))∧(RS QW G' a_z1 c_z1 ((Zs t k).town.clerk.queue.wait))∧(rI ((Zs t k).town.clerk.batch))∧(rI ((Zs t k).town.clerk.every))∧(rI ((Zs t k).town.clerk.now))∧(RS KA G' a_z5 c_z5 ((Zs t k).town.clerk.heads))∧(RS Qk G' a_z6 c_z6 ((Zs t k).town.clerk.books))∧(J1 QB G' a_z7 c_z7 ((Zs t k).town.owners) r_z7)∧(J1 Wg G' a_z8 c_z8 ((Zs t k).town.polls) r_z8)∧(rI ((Zs t k).town.net.now))∧(RS Ke G' a_z10 c_z10 ((Zs t k).town.net.way))∧(rI ((Zs t k).reach))∧(J1 Vd G' a_z12 c_z12 ((Zs t k).fates) r_z12)∧(J1 QU G' a_z13 c_z13 ((Zs t k).events) r_z13)∧L'=[[Sg b 0 [I ((Zs t k).town.clerk.queue.most),Sl a_z1 (((Zs t k).town.clerk.queue.wait).length) c_z1,I ((Zs t k).town.clerk.batch),I ((Zs t k).town.clerk.every),I ((Zs t k).town.clerk.now),Sl a_z5 (((Zs t k).town.clerk.heads).length) c_z5,Sl a_z6 (((Zs t k).town.clerk.books).length) c_z6,Sl a_z7 (((Zs t k).town.owners).length) c_z7,Sl a_z8 (((Zs t k).town.polls).length) c_z8,I ((Zs t k).town.net.now),Sl a_z10 (((Zs t k).town.net.way).length) c_z10,I ((Zs t k).reach),Sl a_z12 (((Zs t k).fates).length) c_z12,Sl a_z13 (((Zs t k).events).length) c_z13]],r_z7,r_z8,r_z12,r_z13]):=by
 intro Lr
 refine JR Tryz.func114 84 [(0,Pt b 0),(1,I k)] rfl (fun w0 G0=>?_)
 show TC _ _ _ _ _ ([Sg b 0 (J7 t a_1 c_1 a_5 c_5 a_6 c_6 a_7 c_7 a_8 c_8 a_10 c_10 a_12 c_12 a_13 c_13)]::r_7::r_8::r_12::r_13::Lr)
 obtain ⟨kn1,hkn1⟩:∃ k_:Nat,k=(k_:Int):=⟨(k).toNat,by omega⟩
 have e1:k=(kn1:Int):=hkn1
 refine Q2 1 (I (kn1:Int)) (congrArg I e1) (Jf ?_)
 have hx1:(t.town.polls)[kn1]? = some (QN t (kn1:Int)):=JfE (by omega)
 obtain ⟨b1,o1,_,_,⟨rfl,w1,w2,w3,w4,w5,w6⟩,ha1,hre1,hc1⟩:=J1.ix h_8 hx1
 refine Kp [18,19] (Wl [(0,Pt b 0),(1,Pt b 0),(2,Pt b 0),(3,Pt b 8),(4,Sl a_8 t.town.polls.length c_8),(5,I (kn1:Int)),(6,Pt b1 (o1+kn1*6)),(7,(Ji2 kn1 t)),(8,Pt b 0),(9,Pt b 0),(10,Pt b 0),(11,Pt b 0),(12,Pt b 4),(13,I t.town.clerk.now),(14,.tuple #[(Zv (Yc kn1 t).1),I ((Yc kn1 t).2)]),(15,.tuple #[(Zv (Yc kn1 t).1),I ((Yc kn1 t).2)]),(16,(Zv (Yc kn1 t).1)),(17,I ((Yc kn1 t).2))] (JK [] [(0,0),(1,0),(2,0),(3,0),(4,2),(5,0),(8,0),(9,0),(10,0),(11,0),(12,0),(13,2),(15,0),(16,0),(17,0)] [6,7,14] [18] (Ki ?_ (Ki ?_ (Ki ?_ K8))) (Ki ?_ K8)))
 refine Jt 6 17 (Pt b1 (o1+kn1*6)) [(15,Sl a_8 t.town.polls.length c_8),(16,I (kn1:Int))] (fun X=>?_)
 exact QK (b:=b1) (off:=o1) (len:=t.town.polls.length) (cap:=c_8) (ik:=.i64) 17 143 6 kn1 ha1 J8 Jp
 refine Jt 7 18 (Ji2 kn1 t) [(17,Pt b1 (o1+kn1*6))] (fun X=>?_)
 exact W7 (off:=o1) (p:=kn1*6) (cs:=(YQ (QN t (kn1:Int)))) 18 143 2 0 (Ji2 kn1 t) hre1 hc1 Jp
 refine Jt 14 25 (.tuple #[(Zv (Yc kn1 t).1),I ((Yc kn1 t).2)]) [(18,(Ji2 kn1 t)),(24,I t.town.clerk.now)] (fun X=>?_)
 exact Jm 25 (.tuple #[(Zv (Yc kn1 t).1),I ((Yc kn1 t).2)]) (Jdg G (YQ (QN t (kn1:Int))) (QN t (kn1:Int)) (⟨rfl,w1,w2,w3,w4,w5,w6⟩) t.town.clerk.now) Jp
 refine JC 18 [] (fun X=>?_)
 refine Jv 4 #[I 0,I 0,I 0,I 0,I 0,I 0] 143 (fun b2=>JD [(18,Pt b2 0)] (JK [] [(0,0),(1,0),(2,0),(3,0),(4,4),(5,0),(8,0),(9,0),(10,0),(11,0),(12,0),(13,4),(15,0),(16,0),(17,0)] [6,7,14] [19] (Ki ?_ (Ki ?_ (Ki ?_ K8))) (Ki ?_ K8)))
 refine Jt 6 17 (Pt b1 (o1+kn1*6)) [(15,Sl a_8 t.town.polls.length c_8),(16,I (kn1:Int))] (fun X=>?_)
 exact QK (b:=b1) (off:=o1) (len:=t.town.polls.length) (cap:=c_8) (ik:=.i64) 17 143 6 kn1 ha1 J8 Jp
 refine Jt 7 18 (Ji2 kn1 t) [(17,Pt b1 (o1+kn1*6))] (fun X=>?_)
 exact W7 (off:=o1) (p:=kn1*6) (cs:=(YQ (QN t (kn1:Int)))) 18 143 3 0 (Ji2 kn1 t) hre1 hc1 Jp
 refine Jt 14 25 (.tuple #[(Zv (Yc kn1 t).1),I ((Yc kn1 t).2)]) [(18,(Ji2 kn1 t)),(24,I t.town.clerk.now)] (fun X=>?_)
 exact Jm 25 (.tuple #[(Zv (Yc kn1 t).1),I ((Yc kn1 t).2)]) (Jdg G (YQ (QN t (kn1:Int))) (QN t (kn1:Int)) (⟨rfl,w1,w2,w3,w4,w5,w6⟩) t.town.clerk.now) Jp
 refine JC 19 [(4,Pt b2 0),(26,(Zv (Yc kn1 t).1))] (fun X=>?_)
 refine KN 0 ([Sg b2 0 (YQ (Yc kn1 t).1)]::[Sg b 0 (J7 t a_1 c_1 a_5 c_5 a_6 c_6 a_7 c_7 a_8 c_8 a_10 c_10 a_12 c_12 a_13 c_13)]::r_7::r_8::r_12::r_13::Lr) (Ka [(20,I ((Yc kn1 t).2))] (Km [0,1,2,3,4,5,6,7,8,9,10,11,12,13,14,15,16] [(17,0),(20,0)] [] [(0,Pt b 0),(1,I (kn1:Int)),(4,Pt b2 0),(5,I ((Yc kn1 t).2))] (Ha _) (Jb (Jf (Jg [0,0] [(29,Bo (!decide ((Yc kn1 t).2=0)))] (Jl (!decide ((Yc kn1 t).2=0)) (fun h1=>?_) (fun h1=>?_)))))))
 refine Jn (Jj (Jk 5 (Jk 5 (Jk 5 (Jk 5 (Jk 5 ?_))))))
 have hf1:Zs t k=t:=by
  rw [show k=(kn1:Int) by assumption];exact tAsk0 ‹_›
 refine Jo [] [] (KT (Lr:=Lr) [[Sg b 0 (J7 t a_1 c_1 a_5 c_5 a_6 c_6 a_7 c_7 a_8 c_8 a_10 c_10 a_12 c_12 a_13 c_13)],r_7,r_8,r_12,r_13] (Jh _) ?_)
 rw [hf1];try dsimp only
 exact ⟨a_1,c_1,a_5,c_5,a_6,c_6,a_7,c_7,a_8,c_8,a_10,c_10,a_12,c_12,a_13,c_13,r_7,r_8,r_12,r_13,rfl,h_0,h_1,h_2,h_3,h_4,h_5,h_6,h_7,h_8,h_9,h_10,h_11,h_12,h_13,rfl⟩
 refine Jq (Jb (Jf (Jd (Jc [0,0,0,0,4,0] [(35,Sl a_8 t.town.polls.length c_8),(36,I (kn1:Int))] (QK (b:=b1) (off:=o1) (len:=t.town.polls.length) (cap:=c_8) (ik:=.i64) 37 143 6 kn1 ha1 J8 (W7 (off:=o1) (p:=kn1*6) (cs:=(YQ (QN t (kn1:Int)))) 38 143 3 0 (Ji2 kn1 t) hre1 hc1 (Jm 39 (.tuple #[Bo ((z7_3 kn1 t).1),I ((z7_3 kn1 t).2)]) (Jcj G (YQ (QN t (kn1:Int))) (QN t (kn1:Int)) (⟨rfl,w1,w2,w3,w4,w5,w6⟩)) (Jc [0,0,0,0,0] [(6,Bo ((z7_3 kn1 t).1))] (Je (Jb (Jf (Jd (Jc [2] [(43,(Zv (Yc kn1 t).1))] (Jm 44 (.tuple #[Bo ((WU ((Yc kn1 t).1)).1),I ((WU ((Yc kn1 t).1)).2)]) (Jcj G (YQ (Yc kn1 t).1) ((Yc kn1 t).1) (⟨rfl,(VU _ _).least,(VU _ _).most,(VU _ _).lost,(VU _ _).gap,(VU _ _).next,(VU _ _).asked⟩)) (Jc [0,0,0,0,0] [(8,Bo ((WU ((Yc kn1 t).1)).1))] (Je (Jb (Jf (Kp [8] (Wl [(0,Pt b 0),(1,Pt b 0),(2,Pt b 0),(3,Pt b 8),(4,Sl a_8 t.town.polls.length c_8),(5,I (kn1:Int)),(6,(Zv (Yc kn1 t).1)),(7,Pt b1 (o1+kn1*6))] ?_))))))))))))))))))))
 refine JK [] [(0,0),(1,0),(2,0),(3,0),(4,4),(5,0),(6,2)] [7] [8] (Ki ?_ K8) (Ki ?_ K8)
 refine Jt 7 54 (Pt b1 (o1+kn1*6)) [(51,Sl a_8 t.town.polls.length c_8),(52,I (kn1:Int))] (fun X=>?_)
 exact QK (b:=b1) (off:=o1) (len:=t.town.polls.length) (cap:=c_8) (ik:=.i64) 54 143 6 kn1 ha1 J8 Jp
 refine JC 8 [(53,(Zv (Yc kn1 t).1)),(54,Pt b1 (o1+kn1*6))] (fun X=>?_)
 refine YT (b:=b1) (off:=o1) 3 h_8 kn1 ((Yc kn1 t).1) ha1 J8 (Zv (Yc kn1 t).1) (YQ (Yc kn1 t).1) ⟨rfl,(VU _ _).least,(VU _ _).most,(VU _ _).lost,(VU _ _).gap,(VU _ _).next,(VU _ _).asked⟩ (fun r1 hr1=>?_)
 have e2:t.town.polls.length=(t.town.polls.set kn1 ((Yc kn1 t).1)).length:=(Hd ..).symm
 refine Ka [] (Km [0,1,2,3,4,5,6,7] [] [] [(0,Pt b 0),(1,I (kn1:Int)),(6,Bo ((z7_3 kn1 t).1)),(8,Bo ((WU ((Yc kn1 t).1)).1))] (Ha _) (JkC (fr':=[(0,Pt b 0),(1,I (kn1:Int)),(6,Bo ((WU (QN t (kn1:Int))).1)),(8,Bo ((WU ((KL (QN t (kn1:Int)) t.town.clerk.now).1)).1))]) (L':=([Sg b2 0 [I (((KL (QN t (kn1:Int)) t.town.clerk.now).1).least),I (((KL (QN t (kn1:Int)) t.town.clerk.now).1).most),I (((KL (QN t (kn1:Int)) t.town.clerk.now).1).lost),I (((KL (QN t (kn1:Int)) t.town.clerk.now).1).gap),I (((KL (QN t (kn1:Int)) t.town.clerk.now).1).next),I (((KL (QN t (kn1:Int)) t.town.clerk.now).1).asked)]]::[Sg b 0 [I t.town.clerk.queue.most,Sl a_1 t.town.clerk.queue.wait.length c_1,I t.town.clerk.batch,I t.town.clerk.every,I t.town.clerk.now,Sl a_5 t.town.clerk.heads.length c_5,Sl a_6 t.town.clerk.books.length c_6,Sl a_7 t.town.owners.length c_7,Sl a_8 ((t.town.polls.set kn1 ((KL (QN t (kn1:Int)) t.town.clerk.now).1)).length) c_8,I t.town.net.now,Sl a_10 t.town.net.way.length c_10,I t.reach,Sl a_12 t.fates.length c_12,Sl a_13 t.events.length c_13]]::r_7::r1::r_12::r_13::Lr)) (by rfl) (by (simp only [KH,YQ,J7,Zv,e2];first | done | rfl)) (Jb (Jf (Jd (Jc [0,0,0,0,0,0,4,0] [(55,Pt b 0),(56,I (kn1:Int)),(61,Sl a_7 t.town.owners.length c_7),(62,I (kn1:Int))] ?_))))))
 have hx2:(t.town.owners)[kn1]? = some (Ju t (kn1:Int)):=YI (by omega)
 obtain ⟨b3,o2,_,_,⟨a1,c1,rfl,_,_,_,_,_,_,_,_⟩,ha2,hre2,hc2⟩:=J1.ix h_7 hx2
 refine QK (b:=b3) (off:=o2) (len:=t.town.owners.length) (cap:=c_7) (ik:=.i64) 63 76 8 kn1 ha2 J8 (Jc [0,0] [(65,Pt b3 (o2+kn1*8+2))] (W7 (off:=o2) (p:=kn1*8) (cs:=(KH (Ju t (kn1:Int)) a1 c1)) 66 2 2 2 (I ((Ju t (kn1:Int)).head.epoch)) hre2 hc2 (Jc [0,0] [(68,.agg #[I (-1),I (kn1:Int),I (Hb.wrap (((Ju t (kn1:Int)).head.epoch)+1)),I 0,Sl none 0 0,I 0,U 0,U 0,I 0,Sr ([]),Sl none 0 0,Sl none 0 0])] ?_)))
 have e3:Hb.wrap (((Ju t (kn1:Int)).head.epoch)+1)=((Ju t (kn1:Int)).head.epoch)+1:=He _ (by (have q_:=hep kn1 _ (YI (by omega));omega))
 refine KU 68 (.agg #[I (-1),I (kn1:Int),I (((Ju t (kn1:Int)).head.epoch)+1),I 0,Sl none 0 0,I 0,U 0,U 0,I 0,Sr ([]),Sl none 0 0,Sl none 0 0]) (show (.agg #[I (-1),I (kn1:Int),I (Hb.wrap (((Ju t (kn1:Int)).head.epoch)+1)),I 0,Sl none 0 0,I 0,U 0,U 0,I 0,Sr ([]),Sl none 0 0,Sl none 0 0]:Value)=.agg #[I (-1),I (kn1:Int),I (((Ju t (kn1:Int)).head.epoch)+1),I 0,Sl none 0 0,I 0,U 0,U 0,I 0,Sr ([]),Sl none 0 0,Sl none 0 0] by simp only [e3]) ?_
 clear e3
 refine Jw 5 (Jw 5 (Jw 5 (Jw 5 (Jw 5 (Qp (Ls:=[[Sg b 0 (J7 (⟨(⟨t.town.clerk,t.town.owners,(t.town.polls.set kn1 ((Yc kn1 t).1)),t.town.net⟩:Q8),t.reach,t.fates,t.events⟩:JH) a_1 c_1 a_5 c_5 a_6 c_6 a_7 c_7 a_8 c_8 a_10 c_10 a_12 c_12 a_13 c_13)],r_7,r1,r_12,r_13]) (Lr:=([Sg b2 0 (YQ (Yc kn1 t).1)]::Lr)) 69 (JgR G b (⟨(⟨t.town.clerk,t.town.owners,t.town.polls.set kn1 ((Yc kn1 t).1),t.town.net⟩:Q8),t.reach,t.fates,t.events⟩:JH) a_1 c_1 a_5 c_5 a_6 c_6 a_7 c_7 a_8 c_8 a_10 c_10 a_12 c_12 a_13 c_13 r_7 r1 r_12 r_13 ‹_› h_1 ‹_› ‹_› ‹_› h_5 h_6 h_7 hr1 ‹_› h_10 ‹_› h_12 h_13 [I (-1),I (kn1:Int),I (((Ju t (kn1:Int)).head.epoch)+1),I 0,Sl none 0 0,I 0,U 0,U 0,I 0,Sr ([]),Sl none 0 0,Sl none 0 0] (⟨(-1),(kn1:Int),((Ju t (kn1:Int)).head.epoch)+1,0,[],(⟨(⟨0,0,0,0⟩:JU),(⟨[],[],[]⟩:Q6)⟩:Wa)⟩:JQ) (⟨none,0,none,0,none,0,rfl,(by (dsimp only;omega)),(by (dsimp only;omega)),(by (dsimp only;(have q_:=hep kn1 _ (YI J8);omega))),(by (dsimp only;omega)),(JP KA G),(by (dsimp only;omega)),(by (dsimp only;omega)),(by (dsimp only;omega)),(by (dsimp only;omega)),(Hc rfl),(JP QD G),(JP EU G)⟩)) (fun v G1 L1 hl1 hp=>?_))))))
 obtain ⟨a2,c2,a3,c3,a4,c4,a5,c5,a6,c6,a7,c7,a8,c8,a9,c9,r2,r3,r4,r5,rfl,w14,hs2,w15,w16,w17,hs3,hs4,hr2,hr3,w18,hs5,w19,hr4,hr5,rfl⟩:=hp
 refine Je (Jb (Jf (Jd (Jc [0,0] [(71,Bo ((WU ((Yc kn1 t).1)).1))] (Ks ((WU ((Yc kn1 t).1)).1) [71] [0,0,0] [1,1,0] (fun bb=>[(74,Bo (bb && (!((z7_3 kn1 t).1))))]) (Je (Jb (Jl (((WU ((Yc kn1 t).1)).1) && (!((z7_3 kn1 t).1))) (fun h2=>?_) (fun h2=>?_)))))))))
 refine Jd (Jc [0,0,0,0,0,0,0,2] [(75,Pt b 0),(76,I (kn1:Int)),(82,I ((Jgj kn1 t).town.clerk.now))] (Jw 4 (Jw 4 (Jw 4 (Jw 4 (Jw 4 (Qp (Ls:=[[Sg b 0 (J7 (Jgj kn1 t) a2 c2 a3 c3 a4 c4 a5 c5 a6 c6 a7 c7 a8 c8 a9 c9)],r2,r3,r4,r5]) (Lr:=([Sg b2 0 (YQ (Yc kn1 t).1)]::Lr)) 83 (Jd0 G1 b (Jgj kn1 t) a2 c2 a3 c3 a4 c4 a5 c5 a6 c6 a7 c7 a8 c8 a9 c9 r2 r3 r4 r5 w14 hs2 w15 w16 w17 hs3 hs4 hr2 hr3 w18 hs5 w19 hr4 hr5 3 J8 (kn1:Int) J8 0 J8 ((Jgj kn1 t).town.clerk.now) w17 ‹_›) (fun v G2 L1 hl2 hp=>?_))))))))
 obtain ⟨a10,c10,a11,c11,a12,c12,a13,c13,a14,c14,a15,c15,a16,c16,a17,c17,r6,r7,r8,r9,rfl,w20,hs6,w21,w22,w23,hs7,hs8,hr6,hr7,w24,hs9,w25,hr8,hr9,rfl⟩:=hp
 refine Je (Jk 4 (Jk 4 (Jk 4 (Jk 4 (Jk 4 ?_)))))
 have hf2:Zs t k=(Q5 (Jgj kn1 t) 3 (kn1:Int) 0 ((Jgj kn1 t).town.clerk.now)):=by
  rw [show k=(kn1:Int) by assumption];exact tAsk1 ‹_› ‹_›
 refine ZD [] [] (KT (Lr:=Lr) [[Sg b 0 (J7 (Q5 (Jgj kn1 t) 3 (kn1:Int) 0 ((Jgj kn1 t).town.clerk.now)) a10 c10 a11 c11 a12 c12 a13 c13 a14 c14 a15 c15 a16 c16 a17 c17)],r6,r7,r8,r9] (Ja hl1 hl2) ?_)
 rw [hf2];try dsimp only
 exact ⟨a10,c10,a11,c11,a12,c12,a13,c13,a14,c14,a15,c15,a16,c16,a17,c17,r6,r7,r8,r9,rfl,w20,hs6,w21,w22,w23,hs7,hs8,hr6,hr7,w24,hs9,w25,hr8,hr9,rfl⟩
 refine Jq (Jk 4 (Jk 4 (Jk 4 (Jk 4 (Jk 4 ?_)))))
 have hf3:Zs t k=(Jgj kn1 t):=by
  rw [show k=(kn1:Int) by assumption];exact tAsk2 ‹_› ‹_›
 refine ZD [] [] (KT (Lr:=Lr) [[Sg b 0 (J7 (Jgj kn1 t) a2 c2 a3 c3 a4 c4 a5 c5 a6 c6 a7 c7 a8 c8 a9 c9)],r2,r3,r4,r5] hl1 ?_)
 rw [hf3];try dsimp only
 exact ⟨a2,c2,a3,c3,a4,c4,a5,c5,a6,c6,a7,c7,a8,c8,a9,c9,r2,r3,r4,r5,rfl,w14,hs2,w15,w16,w17,hs3,hs4,hr2,hr3,w18,hs5,w19,hr4,hr5,rfl⟩
structure Vu (t:JH):Prop where
 I:∃ s,Za s t
 W:WC t
 polls:t.town.polls.length=t.town.owners.length
 len:t.town.owners.length≤4
 reach:1≤t.reach∧t.reach≤40
theorem Vu.epoch {t:JH} (h:Vu t) (i:Nat) (o:K9) (ho:t.town.owners[i]? = some o):o.head.epoch≤1000000:=by
 obtain ⟨s,h⟩:=h.I
 have:=Ze (K5.1 (h.own i o ho).1).2.1
 omega
theorem Vu.grew {t u:JH} {k:Nat} (h:Vu t) (g:Yj t u k) (hI:∃ s,Za s u) (hW:WC u):Vu u :=
 ⟨hI,hW,by rw [g.polls,g.own];exact h.polls,by rw [g.own];exact h.len,by rw [g.reach];exact h.reach⟩
theorem Jlh {s:Kv} {t:JH} (h:Za s t) (h1:¬ (KD t.town.clerk).1.now=t.town.clerk.now):Za s (Y6 t):=by
 obtain ⟨t0,tk⟩:=Jbl h.clerk
 have hnn:(KD t.town.clerk).1.now=t.town.clerk.now+1:=by
  rcases JaN h.clerk with q | q
  · exact absurd q.1 h1
  · exact q.2
 have hc:=tk.ok.now
 have hn:=h.now
 have hr:=Jcl h.net (by omega)
 refine ⟨tk.ok,hr.1,?_,h.own,h.poll⟩
 show (Kn t.town.net).1.now=(KD t.town.clerk).1.now
 rw [hr.2];omega
theorem Zk {t:JH} (h:Vu t) (h1:¬ (KD t.town.clerk).1.now=t.town.clerk.now) {jt:JH} {i:Nat} (hJ:jt=W9 (Y6 t) ((Kn t.town.net).2.1.take i)) :
  Vu jt∧jt.events.length≤t.events.length+60∧jt.town.owners.length=t.town.owners.length:=by
 obtain ⟨s,hI⟩:=h.I
 subst hJ
 have hm:∀ x∈(Kn t.town.net).2.1.take i,x∈(Kn t.town.net).2.1:=fun x hx=>List.mem_of_mem_take hx
 have g:=JdX ((Kn t.town.net).2.1.take i) (Y6 t)
 have hl:((Kn t.town.net).2.1.take i).length≤60:=by have:=JiY t.town.net;rw [List.length_take];omega
 have g2:Yj t (W9 (Y6 t) ((Kn t.town.net).2.1.take i)) 60:=(⟨g.ev,g.own,g.polls,g.reach⟩:Yj t _ _).mono hl
 exact ⟨h.grew g2 ⟨s,JdZ _ (Jlh hI h1) (fun x hx=>h.W x (Jdi (hm x hx)))⟩ (JdY _ (Jld h.W)),g2.len.1,g2.own⟩
theorem JfH {t:JH} (h:Vu t) {i:Nat} {x:JQ} (hx:(Kn t.town.net).2.1[i]? = some x):x.to_<t.town.owners.length:=h.W x (Jdi (List.mem_of_getElem? hx))
theorem Jd1 {t:JH} (h:Vu t) {kt:JH} {i:Nat} (hK:kt=Jbu t i):Vu kt∧kt.events.length≤t.events.length+i∧kt.town.owners.length=t.town.owners.length:=by
 obtain ⟨s,hI⟩:=h.I
 subst hK
 have g:=Jkk t i
 exact ⟨h.grew g ⟨s,Jko hI i⟩ (Jkl h.W i),g.len.1,g.own⟩
theorem Jkp {t:JH} (h:(KD t.town.clerk).1.now=t.town.clerk.now):Wu t=t:=by unfold Wu;rw [if_pos h]
theorem Jod {t jt kt:JH} {i k:Nat} (h:¬ (KD t.town.clerk).1.now=t.town.clerk.now) (hJ:jt=W9 (Y6 t) ((Kn t.town.net).2.1.take i)) (hi:(Kn t.town.net).2.1.length≤i) (hK:kt=Jbu jt k) (hk:k=jt.town.owners.length):Wu t=kt:=by
 unfold Wu
 rw [List.take_of_length_le hi] at hJ
 rw [if_neg h,hK,hk,hJ]
theorem do_H {t:JH} (h:Vu t) (d:K6):Vu (YJ t d)∧(YJ t d).events.length≤t.events.length+64:=by
 obtain ⟨s,hI⟩:=h.I
 have g:=g_do h.len d
 exact ⟨h.grew g ⟨s,i_do hI h.W d⟩ (w_do h.W d),g.len.1⟩
set_option maxRecDepth 20000 in
abbrev V5 (t:JH):=KD t.town.clerk
set_option maxHeartbeats 1600000 in
theorem Jmr (G:J4) (b:Nat) (t:JH) (a_1:Option Addr) (c_1:Nat) (a_5:Option Addr) (c_5:Nat) (a_6:Option Addr) (c_6:Nat) (a_7:Option Addr) (c_7:Nat) (a_8:Option Addr) (c_8:Nat) (a_10:Option Addr) (c_10:Nat) (a_12:Option Addr) (c_12:Nat) (a_13:Option Addr) (c_13:Nat) (r_7:List Kh) (r_8:List Kh) (r_12:List Kh) (r_13:List Kh) (h_0:rI t.town.clerk.queue.most) (h_1:RS QW G a_1 c_1 t.town.clerk.queue.wait) (h_2:rI t.town.clerk.batch) (h_3:rI t.town.clerk.every) (h_4:rI t.town.clerk.now) (h_5:RS KA G a_5 c_5 t.town.clerk.heads) (h_6:RS Qk G a_6 c_6 t.town.clerk.books) (h_7:J1 QB G a_7 c_7 t.town.owners r_7) (h_8:J1 Wg G a_8 c_8 t.town.polls r_8) (h_9:rI t.town.net.now) (h_10:RS Ke G a_10 c_10 t.town.net.way) (h_11:rI t.reach) (h_12:J1 Vd G a_12 c_12 t.fates r_12) (h_13:J1 QU G a_13 c_13 t.events r_13)  (hH:Vu t) (hev:t.events.length≤900000):Jcc 64 #[Pt b 0] G [[Sg b 0 [I t.town.clerk.queue.most,Sl a_1 t.town.clerk.queue.wait.length c_1,I t.town.clerk.batch,I t.town.clerk.every,I t.town.clerk.now,Sl a_5 t.town.clerk.heads.length c_5,Sl a_6 t.town.clerk.books.length c_6,Sl a_7 t.town.owners.length c_7,Sl a_8 t.town.polls.length c_8,I t.town.net.now,Sl a_10 t.town.net.way.length c_10,I t.reach,Sl a_12 t.fates.length c_12,Sl a_13 t.events.length c_13]],r_7,r_8,r_12,r_13] (fun u G' L'=>∃ (a_z1:Option Addr) (c_z1:Nat) (a_z5:Option Addr) (c_z5:Nat) (a_z6:Option Addr) (c_z6:Nat) (a_z7:Option Addr) (c_z7:Nat) (a_z8:Option Addr) (c_z8:Nat) (a_z10:Option Addr) (c_z10:Nat) (a_z12:Option Addr) (c_z12:Nat) (a_z13:Option Addr) (c_z13:Nat) (r_z7:List Kh) (r_z8:List Kh) (r_z12:List Kh) (r_z13:List Kh),u=.tuple #[]∧(rI ((Wu t).town.clerk.queue.most))∧(RS QW G' a_z1 c_z1 ((Wu t).town.clerk.queue.wait))∧(rI ((Wu t).town.clerk.batch))∧(rI ((Wu t).town.clerk.every))∧(rI ((Wu t).town.clerk.now))∧(RS KA G' a_z5 c_z5 ((Wu t).town.clerk.heads))∧(RS Qk G' a_z6 c_z6 ((Wu t).town.clerk.books))∧(J1 QB G' a_z7 c_z7 ((Wu t).town.owners) r_z7)∧(J1 Wg G' a_z8 c_z8 ((Wu t).town.polls) r_z8)∧(rI ((Wu t).town.net.now))∧(RS Ke G' a_z10 c_z10 ((Wu t).town.net.way))∧(rI ((Wu t).reach))∧(J1 Vd G' a_z12 c_z12 ((Wu t).fates) r_z12)∧(J1 QU G' a_z13 c_z13 ((Wu t).events) r_z13)∧L'=[[Sg b 0 [I ((Wu t).town.clerk.queue.most),Sl a_z1 (((Wu t).town.clerk.queue.wait).length) c_z1,I ((Wu t).town.clerk.batch),I ((Wu t).town.clerk.every),I ((Wu t).town.clerk.now),Sl a_z5 (((Wu t).town.clerk.heads).length) c_z5,Sl a_z6 (((Wu t).town.clerk.books).length) c_z6,Sl a_z7 (((Wu t).town.owners).length) c_z7,Sl a_z8 (((Wu t).town.polls).length) c_z8,I ((Wu t).town.net.now),Sl a_z10 (((Wu t).town.net.way).length) c_z10,I ((Wu t).reach),Sl a_z12 (((Wu t).fates).length) c_z12,Sl a_z13 (((Wu t).events).length) c_z13]],r_z7,r_z8,r_z12,r_z13]):=by
 intro Lr
 refine JR Tryz.func64 79 [(0,Pt b 0)] rfl (fun w0 G0=>?_)
 show TC _ _ _ _ _ ([Sg b 0 (J7 t a_1 c_1 a_5 c_5 a_6 c_6 a_7 c_7 a_8 c_8 a_10 c_10 a_12 c_12 a_13 c_13)]::r_7::r_8::r_12::r_13::Lr)
 refine Jf (Jd (Jc [0,0,0,0,2] [(16,(Qt t.town.clerk a_1 c_1 a_5 c_5 a_6 c_6))] (JI 17 (Jgf G (KB t.town.clerk a_1 c_1 a_5 c_5 a_6 c_6) t.town.clerk (⟨a_1,c_1,a_5,c_5,a_6,c_6,rfl,h_0,h_1,h_2,h_3,h_4,h_5,h_6⟩)) (fun v G1 L1 hl1 hp=>?_))))
 obtain ⟨a1,c1,a2,c2,a3,c3,rfl,w1,hs1,w2,w3,w4,hs2,hs3,rfl⟩:=hp
 refine Jc [0,0,0,0] [(18,(Qt (V5 t).1 a1 c1 a2 c2 a3 c3)),(19,Bo ((V5 t).2.1)),(20,I ((V5 t).2.2))] (Jv 2 #[I 0,Sl none 0 0,I 0,I 0,I 0,Sl none 0 0,Sl none 0 0] 60 (fun b1=>JV [3,0,0] [] ([Sg b1 0 (KB (V5 t).1 a1 c1 a2 c2 a3 c3)]::[Sg b 0 (J7 t a_1 c_1 a_5 c_5 a_6 c_6 a_7 c_7 a_8 c_8 a_10 c_10 a_12 c_12 a_13 c_13)]::r_7::r_8::r_12::r_13::Lr) (Je (Jb (Jf (Jf (Kp [] (Wl [(0,Pt b1 4),(1,I (((V5 t).1).now)),(2,Pt b 0),(3,Pt b 0),(4,Pt b 0),(5,Pt b 0),(6,Pt b 4),(7,I t.town.clerk.now),(8,Bo (decide (((V5 t).1).now=t.town.clerk.now)))] (Km [] [(0,0),(1,2),(2,0),(3,0),(4,0),(5,0),(6,0),(7,4),(8,0)] [] [(0,Pt b 0),(2,Pt b1 0),(29,Bo (decide (((V5 t).1).now=t.town.clerk.now)))] (Ha _) (Jb (Jl (decide (((V5 t).1).now=t.town.clerk.now)) (fun h1=>?_) (fun h1=>?_))))))))))))
 refine Jn (Jj (Jk 5 (Jk 5 (Jk 5 (Jk 5 (Jk 5 ?_))))))
 have hf1:Wu t=t:=by
  exact Jkp ‹_›
 refine Jo [] [] (KT (Lr:=Lr) [[Sg b 0 (J7 t a_1 c_1 a_5 c_5 a_6 c_6 a_7 c_7 a_8 c_8 a_10 c_10 a_12 c_12 a_13 c_13)],r_7,r_8,r_12,r_13] hl1 ?_)
 rw [hf1];try dsimp only
 exact ⟨a_1,c_1,a_5,c_5,a_6,c_6,a_7,c_7,a_8,c_8,a_10,c_10,a_12,c_12,a_13,c_13,r_7,r_8,r_12,r_13,rfl,h_0,(h_1.mono hl1),h_2,h_3,h_4,(h_5.mono hl1),(h_6.mono hl1),(h_7.mono hl1),(h_8.mono hl1),h_9,(h_10.mono hl1),h_11,(h_12.mono hl1),(h_13.mono hl1),rfl⟩
 refine Jq (Jb (QA [0,2,0,0,0,5] [] ([Sg b1 0 (KB (V5 t).1 a1 c1 a2 c2 a3 c3)]::[Sg b 0 (J7 (⟨(⟨(V5 t).1,t.town.owners,t.town.polls,t.town.net⟩:Q8),t.reach,t.fates,t.events⟩:JH) a1 c1 a2 c2 a3 c3 a_7 c_7 a_8 c_8 a_10 c_10 a_12 c_12 a_13 c_13)]::r_7::r_8::r_12::r_13::Lr) (Jf (Jd (Jc [0,0,0,0,4] [(40,.agg #[I t.town.net.now,Sl a_10 t.town.net.way.length c_10])] (JI 41 (JiW G1 [I t.town.net.now,Sl a_10 t.town.net.way.length c_10] t.town.net (⟨a_10,c_10,rfl,h_9,(h_10.mono hl1)⟩)) (fun v G2 L1 hl2 hp=>?_)))))))
 obtain ⟨a4,c4,a5,c5,rfl,w5,hs4,hs5,rfl⟩:=hp
 refine Jc [0,0,0,0] [(42,.agg #[I (((Kn t.town.net).1).now),Sl a4 ((((Kn t.town.net).1).way).length) c4]),(43,Sl a5 (((Kn t.town.net).2.1).length) c5),(44,I ((Kn t.town.net).2.2))] (Jv 5 #[I 0,Sl none 0 0] 65 (fun b2=>JV [3,0,0] [(6,Sl a5 (((Kn t.town.net).2.1).length) c5)] ([Sg b2 0 [I (((Kn t.town.net).1).now),Sl a4 ((((Kn t.town.net).1).way).length) c4]]::[Sg b1 0 (KB (V5 t).1 a1 c1 a2 c2 a3 c3)]::[Sg b 0 (J7 (⟨(⟨(V5 t).1,t.town.owners,t.town.polls,t.town.net⟩:Q8),t.reach,t.fates,t.events⟩:JH) a1 c1 a2 c2 a3 c3 a_7 c_7 a_8 c_8 a_10 c_10 a_12 c_12 a_13 c_13)]::r_7::r_8::r_12::r_13::Lr) (Je (Jb (QA [0,2,0,0,0,7] [] ([Sg b2 0 [I (((Kn t.town.net).1).now),Sl a4 ((((Kn t.town.net).1).way).length) c4]]::[Sg b1 0 (KB (V5 t).1 a1 c1 a2 c2 a3 c3)]::[Sg b 0 (J7 (⟨(⟨(V5 t).1,t.town.owners,t.town.polls,(Kn t.town.net).1⟩:Q8),t.reach,t.fates,t.events⟩:JH) a1 c1 a2 c2 a3 c3 a_7 c_7 a_8 c_8 a4 c4 a_12 c_12 a_13 c_13)]::r_7::r_8::r_12::r_13::Lr) (Jf (Jg [0,0,0] [(50,Sl a5 (((Kn t.town.net).2.1).length) c5),(51,I (((Kn t.town.net).2.1).length:Int)),(52,I 0)] (Jy ?_))))))))
 have hlm_hs5:((Kn t.town.net).2.1).length≤9223372036854775807:=Nat.le_trans (hs5).le (hs5).max
 refine Qh (σ:=Nat×JH×Option Addr×Nat×Option Addr×Nat×Option Addr×Nat×Option Addr×Nat×List Kh×Option Addr×Nat×List Kh×Option Addr×Nat×Option Addr×Nat×List Kh×Option Addr×Nat×List Kh×J4) (fun q_=>(J4.le G2 q_.2.2.2.2.2.2.2.2.2.2.2.2.2.2.2.2.2.2.2.2.2.2)∧(q_.1≤((Kn t.town.net).2.1).length)∧(RS QW q_.2.2.2.2.2.2.2.2.2.2.2.2.2.2.2.2.2.2.2.2.2.2 q_.2.2.1 q_.2.2.2.1 q_.2.1.town.clerk.queue.wait)∧(RS KA q_.2.2.2.2.2.2.2.2.2.2.2.2.2.2.2.2.2.2.2.2.2.2 q_.2.2.2.2.1 q_.2.2.2.2.2.1 q_.2.1.town.clerk.heads)∧(RS Qk q_.2.2.2.2.2.2.2.2.2.2.2.2.2.2.2.2.2.2.2.2.2.2 q_.2.2.2.2.2.2.1 q_.2.2.2.2.2.2.2.1 q_.2.1.town.clerk.books)∧(J1 QB q_.2.2.2.2.2.2.2.2.2.2.2.2.2.2.2.2.2.2.2.2.2.2 q_.2.2.2.2.2.2.2.2.1 q_.2.2.2.2.2.2.2.2.2.1 q_.2.1.town.owners q_.2.2.2.2.2.2.2.2.2.2.1)∧(J1 Wg q_.2.2.2.2.2.2.2.2.2.2.2.2.2.2.2.2.2.2.2.2.2.2 q_.2.2.2.2.2.2.2.2.2.2.2.1 q_.2.2.2.2.2.2.2.2.2.2.2.2.1 q_.2.1.town.polls q_.2.2.2.2.2.2.2.2.2.2.2.2.2.1)∧(RS Ke q_.2.2.2.2.2.2.2.2.2.2.2.2.2.2.2.2.2.2.2.2.2.2 q_.2.2.2.2.2.2.2.2.2.2.2.2.2.2.1 q_.2.2.2.2.2.2.2.2.2.2.2.2.2.2.2.1 q_.2.1.town.net.way)∧(J1 Vd q_.2.2.2.2.2.2.2.2.2.2.2.2.2.2.2.2.2.2.2.2.2.2 q_.2.2.2.2.2.2.2.2.2.2.2.2.2.2.2.2.1 q_.2.2.2.2.2.2.2.2.2.2.2.2.2.2.2.2.2.1 q_.2.1.fates q_.2.2.2.2.2.2.2.2.2.2.2.2.2.2.2.2.2.2.1)∧(J1 QU q_.2.2.2.2.2.2.2.2.2.2.2.2.2.2.2.2.2.2.2.2.2.2 q_.2.2.2.2.2.2.2.2.2.2.2.2.2.2.2.2.2.2.2.1 q_.2.2.2.2.2.2.2.2.2.2.2.2.2.2.2.2.2.2.2.2.1 q_.2.1.events q_.2.2.2.2.2.2.2.2.2.2.2.2.2.2.2.2.2.2.2.2.2.1)∧(rI q_.2.1.town.clerk.queue.most)∧(rI q_.2.1.town.clerk.batch)∧(rI q_.2.1.town.clerk.every)∧(rI q_.2.1.town.clerk.now)∧(rI q_.2.1.town.net.now)∧(rI q_.2.1.reach)∧(q_.2.1=W9 (Y6 t) ((Kn t.town.net).2.1.take q_.1))) (fun q_=>[(0,Pt b 0),(50,Sl a5 (((Kn t.town.net).2.1).length) c5),(51,I (((Kn t.town.net).2.1).length:Int)),(52,I (q_.1:Int))]) (fun q_=>q_.2.2.2.2.2.2.2.2.2.2.2.2.2.2.2.2.2.2.2.2.2.2) (fun q_=>([Sg b2 0 [I (((Kn t.town.net).1).now),Sl a4 ((((Kn t.town.net).1).way).length) c4]]::[Sg b1 0 (KB (V5 t).1 a1 c1 a2 c2 a3 c3)]::[Sg b 0 (J7 q_.2.1 q_.2.2.1 q_.2.2.2.1 q_.2.2.2.2.1 q_.2.2.2.2.2.1 q_.2.2.2.2.2.2.1 q_.2.2.2.2.2.2.2.1 q_.2.2.2.2.2.2.2.2.1 q_.2.2.2.2.2.2.2.2.2.1 q_.2.2.2.2.2.2.2.2.2.2.2.1 q_.2.2.2.2.2.2.2.2.2.2.2.2.1 q_.2.2.2.2.2.2.2.2.2.2.2.2.2.2.1 q_.2.2.2.2.2.2.2.2.2.2.2.2.2.2.2.1 q_.2.2.2.2.2.2.2.2.2.2.2.2.2.2.2.2.1 q_.2.2.2.2.2.2.2.2.2.2.2.2.2.2.2.2.2.1 q_.2.2.2.2.2.2.2.2.2.2.2.2.2.2.2.2.2.2.2.1 q_.2.2.2.2.2.2.2.2.2.2.2.2.2.2.2.2.2.2.2.2.1)]::q_.2.2.2.2.2.2.2.2.2.2.1::q_.2.2.2.2.2.2.2.2.2.2.2.2.2.1::q_.2.2.2.2.2.2.2.2.2.2.2.2.2.2.2.2.2.2.1::q_.2.2.2.2.2.2.2.2.2.2.2.2.2.2.2.2.2.2.2.2.2.1::Lr)) (fun q_=>((Kn t.town.net).2.1).length-q_.1) (0,(⟨(⟨((V5 t).1),t.town.owners,t.town.polls,((Kn t.town.net).1)⟩:Q8),t.reach,t.fates,t.events⟩:JH),a1,c1,a2,c2,a3,c3,a_7,c_7,r_7,a_8,c_8,r_8,a4,c4,a_12,c_12,r_12,a_13,c_13,r_13,G2) ⟨(Jh _),(by (try dsimp only);omega),(hs1.mono hl2),(hs2.mono hl2),(hs3.mono hl2),(h_7.mono (Ja hl1 hl2)),(h_8.mono (Ja hl1 hl2)),hs4,(h_12.mono (Ja hl1 hl2)),(h_13.mono (Ja hl1 hl2)),w1,w2,w3,w4,w5,h_11,(by (try dsimp only);rfl)⟩ (fun q_ hs=>?_)
 obtain ⟨i,jt,ajt0,cjt0,ajt1,cjt1,ajt2,cjt2,ajt3,cjt3,rjt7,ajt4,cjt4,rjt8,ajt5,cjt5,ajt6,cjt6,rjt12,ajt7,cjt7,rjt13,g⟩:=q_
 obtain ⟨hle,hi,hjt1,hjt5,hjt6,hjt7,hjt8,hjt10,hjt12,hjt13,hjt0,hjt2,hjt3,hjt4,hjt9,hjt11,hJ⟩:=hs
 dsimp only at hle hi hjt1 hjt5 hjt6 hjt7 hjt8 hjt10 hjt12 hjt13 hjt0 hjt2 hjt3 hjt4 hjt9 hjt11 hJ
 dsimp only
 refine Jg [0] [(53,Bo (decide ((i:Int)<(((Kn t.town.net).2.1).length:Int))))] (Jf (Jl (decide ((i:Int)<(((Kn t.town.net).2.1).length:Int))) (fun h2=>?_) (fun h2=>?_)))
 refine Jq (Jb (Jf (Jy (Jf (Jd ?_)))))
 obtain ⟨b3,o1,rfl⟩:=RS.addr (hs5.mono hle) (k:=i) (by omega)
 obtain ⟨x1,hx1⟩:=Wf (l:=(Kn t.town.net).2.1) (k:=i) (by omega)
 obtain ⟨_,⟨a6,c6,a7,c7,a8,c8,rfl,w6,w7,w8,w9,hs6,w10,w11,w12,w13,w14,hs7,hs8⟩,hc1⟩:=RS.get (hs5.mono hle) hx1
 refine J5 (b:=b3) (off:=o1) (len:=((Kn t.town.net).2.1).length) (cap:=c5) (ik:=.i64) 54 51 12 i J8 (JZ 55 51 (cs:=(Kq x1 a6 c6 a7 c7 a8 c8)) 0 (Q1 x1 a6 c6 a7 c7 a8 c8) hc1 (Jv 9 #[I 0,I 0,I 0,I 0,Sl none 0 0,I 0,U 0,U 0,I 0,Sr ([]),Sl none 0 0,Sl none 0 0] 51 (fun b4=>JV [3] [] ([Sg b4 0 (Kq x1 a6 c6 a7 c7 a8 c8)]::[Sg b2 0 [I (((Kn t.town.net).1).now),Sl a4 ((((Kn t.town.net).1).way).length) c4]]::[Sg b1 0 (KB (V5 t).1 a1 c1 a2 c2 a3 c3)]::[Sg b 0 (J7 jt ajt0 cjt0 ajt1 cjt1 ajt2 cjt2 ajt3 cjt3 ajt4 cjt4 ajt5 cjt5 ajt6 cjt6 ajt7 cjt7)]::rjt7::rjt8::rjt12::rjt13::Lr) (Je (Jb (Jg [0,2,0] [(58,Bo (decide (x1.to_<0)))] (Jl (decide (x1.to_<0)) (fun h3=>?_) (fun h3=>?_))))))))
 refine Jd (Jc [0,2] [(59,Pt b 0),(60,(Q1 x1 a6 c6 a7 c7 a8 c8))] (Jw 7 (Jw 7 (Jw 7 (Jw 7 (Jw 7 (Qp (Ls:=[[Sg b 0 (J7 jt ajt0 cjt0 ajt1 cjt1 ajt2 cjt2 ajt3 cjt3 ajt4 cjt4 ajt5 cjt5 ajt6 cjt6 ajt7 cjt7)],rjt7,rjt8,rjt12,rjt13]) (Lr:=([Sg b4 0 (Kq x1 a6 c6 a7 c7 a8 c8)]::[Sg b2 0 [I (((Kn t.town.net).1).now),Sl a4 ((((Kn t.town.net).1).way).length) c4]]::[Sg b1 0 (KB (V5 t).1 a1 c1 a2 c2 a3 c3)]::Lr)) 61 (Ji1 g b jt ajt0 cjt0 ajt1 cjt1 ajt2 cjt2 ajt3 cjt3 ajt4 cjt4 ajt5 cjt5 ajt6 cjt6 ajt7 cjt7 rjt7 rjt8 rjt12 rjt13 hjt0 hjt1 hjt2 hjt3 hjt4 hjt5 hjt6 hjt7 hjt8 hjt9 hjt10 hjt11 hjt12 hjt13 (Kq x1 a6 c6 a7 c7 a8 c8) x1 (⟨a6,c6,a7,c7,a8,c8,rfl,w6,w7,w8,w9,hs6,w10,w11,w12,w13,w14,hs7,hs8⟩) (by exact (Zk hH ‹_› hJ).1.reach)) (fun v G3 L1 hl3 hp=>?_))))))))
 obtain ⟨a9,c9,a10,c10,a11,c11,a12,c12,a13,c13,a14,c14,a15,c15,a16,c16,r1,r2,r3,r4,rfl,_,hs9,_,_,_,hs10,hs11,hr1,hr2,_,hs12,_,hr3,hr4,rfl⟩:=hp
 refine Je (JN (Jb (Jd (Jc [0,0] [(52,I (Hb.wrap ((i:Int)+1)))] (Kr 52 ((i:Int)+1) J8 (Je (Jk 4 (Jk 4 (Jk 4 (Jk 4 (Jk 4 (Jk 7 (Jk 7 ?_)))))))))))))
 exact Qr ([Sg b2 0 [I (((Kn t.town.net).1).now),Sl a4 ((((Kn t.town.net).1).way).length) c4]]::[Sg b1 0 (KB (V5 t).1 a1 c1 a2 c2 a3 c3)]::[Sg b 0 (J7 (Qn jt x1) a9 c9 a10 c10 a11 c11 a12 c12 a13 c13 a14 c14 a15 c15 a16 c16)]::r1::r2::r3::r4::Lr) (Qi (i+1,(Qn jt x1),a9,c9,a10,c10,a11,c11,a12,c12,r1,a13,c13,r2,a14,c14,a15,c15,r3,a16,c16,r4,G3) ⟨(Ja hle hl3),J8,hs9,hs10,hs11,hr1,hr2,hs12,hr3,hr4,‹_›,‹_›,‹_›,‹_›,‹_›,‹_›,(by (try dsimp only);rw [← Jck hx1,← hJ];unfold Z1;rw [if_pos (by omega)])⟩ (by (try dsimp only);omega))
 refine Jd (Jc [0,2] [(62,Pt b 0),(63,(Q1 x1 a6 c6 a7 c7 a8 c8))] (Jw 7 (Jw 7 (Jw 7 (Jw 7 (Jw 7 (Qp (Ls:=[[Sg b 0 (J7 jt ajt0 cjt0 ajt1 cjt1 ajt2 cjt2 ajt3 cjt3 ajt4 cjt4 ajt5 cjt5 ajt6 cjt6 ajt7 cjt7)],rjt7,rjt8,rjt12,rjt13]) (Lr:=([Sg b4 0 (Kq x1 a6 c6 a7 c7 a8 c8)]::[Sg b2 0 [I (((Kn t.town.net).1).now),Sl a4 ((((Kn t.town.net).1).way).length) c4]]::[Sg b1 0 (KB (V5 t).1 a1 c1 a2 c2 a3 c3)]::Lr)) 64 (Job g b jt ajt0 cjt0 ajt1 cjt1 ajt2 cjt2 ajt3 cjt3 ajt4 cjt4 ajt5 cjt5 ajt6 cjt6 ajt7 cjt7 rjt7 rjt8 rjt12 rjt13 hjt0 hjt1 hjt2 hjt3 hjt4 hjt5 hjt6 hjt7 hjt8 hjt9 hjt10 hjt11 hjt12 hjt13 (Kq x1 a6 c6 a7 c7 a8 c8) x1 (⟨a6,c6,a7,c7,a8,c8,rfl,w6,w7,w8,w9,hs6,w10,w11,w12,w13,w14,hs7,hs8⟩) (by (have q_:=(Zk hH ‹_› hJ);have q2_:=JfH hH ‹_›;omega)) (by (have q_:=(Zk hH ‹_› hJ);have q2_:=JfH hH ‹_›;omega)) (by exact (Zk hH ‹_› hJ).1.polls)) (fun v G4 L1 hl4 hp=>?_))))))))
 obtain ⟨a17,c17,a18,c18,a19,c19,a20,c20,a21,c21,a22,c22,a23,c23,a24,c24,r5,r6,r7,r8,rfl,_,hs13,_,_,_,hs14,hs15,hr5,hr6,_,hs16,_,hr7,hr8,rfl⟩:=hp
 refine Je (JN (Jb (Jd (Jc [0,0] [(52,I (Hb.wrap ((i:Int)+1)))] (Kr 52 ((i:Int)+1) J8 (Je (Jk 4 (Jk 4 (Jk 4 (Jk 4 (Jk 4 (Jk 7 (Jk 7 ?_)))))))))))))
 exact Qr ([Sg b2 0 [I (((Kn t.town.net).1).now),Sl a4 ((((Kn t.town.net).1).way).length) c4]]::[Sg b1 0 (KB (V5 t).1 a1 c1 a2 c2 a3 c3)]::[Sg b 0 (J7 (ZE jt x1) a17 c17 a18 c18 a19 c19 a20 c20 a21 c21 a22 c22 a23 c23 a24 c24)]::r5::r6::r7::r8::Lr) (Qi (i+1,(ZE jt x1),a17,c17,a18,c18,a19,c19,a20,c20,r5,a21,c21,r6,a22,c22,a23,c23,r7,a24,c24,r8,G4) ⟨(Ja hle hl4),J8,hs13,hs14,hs15,hr5,hr6,hs16,hr7,hr8,‹_›,‹_›,‹_›,‹_›,‹_›,‹_›,(by (try dsimp only);rw [← Jck hx1,← hJ];unfold Z1;rw [if_neg (by omega)])⟩ (by (try dsimp only);omega))
 refine KW (JY (J9 (JT (Jb (Jg [0,0,0,0,6,0,0] [(71,I (jt.town.owners.length:Int)),(72,I 0)] (Jy ?_))))))
 refine Qh (σ:=Nat×JH×Option Addr×Nat×Option Addr×Nat×Option Addr×Nat×Option Addr×Nat×List Kh×Option Addr×Nat×List Kh×Option Addr×Nat×Option Addr×Nat×List Kh×Option Addr×Nat×List Kh×J4) (fun q_=>(J4.le g q_.2.2.2.2.2.2.2.2.2.2.2.2.2.2.2.2.2.2.2.2.2.2)∧(q_.1≤jt.town.owners.length)∧(RS QW q_.2.2.2.2.2.2.2.2.2.2.2.2.2.2.2.2.2.2.2.2.2.2 q_.2.2.1 q_.2.2.2.1 q_.2.1.town.clerk.queue.wait)∧(RS KA q_.2.2.2.2.2.2.2.2.2.2.2.2.2.2.2.2.2.2.2.2.2.2 q_.2.2.2.2.1 q_.2.2.2.2.2.1 q_.2.1.town.clerk.heads)∧(RS Qk q_.2.2.2.2.2.2.2.2.2.2.2.2.2.2.2.2.2.2.2.2.2.2 q_.2.2.2.2.2.2.1 q_.2.2.2.2.2.2.2.1 q_.2.1.town.clerk.books)∧(J1 QB q_.2.2.2.2.2.2.2.2.2.2.2.2.2.2.2.2.2.2.2.2.2.2 q_.2.2.2.2.2.2.2.2.1 q_.2.2.2.2.2.2.2.2.2.1 q_.2.1.town.owners q_.2.2.2.2.2.2.2.2.2.2.1)∧(J1 Wg q_.2.2.2.2.2.2.2.2.2.2.2.2.2.2.2.2.2.2.2.2.2.2 q_.2.2.2.2.2.2.2.2.2.2.2.1 q_.2.2.2.2.2.2.2.2.2.2.2.2.1 q_.2.1.town.polls q_.2.2.2.2.2.2.2.2.2.2.2.2.2.1)∧(RS Ke q_.2.2.2.2.2.2.2.2.2.2.2.2.2.2.2.2.2.2.2.2.2.2 q_.2.2.2.2.2.2.2.2.2.2.2.2.2.2.1 q_.2.2.2.2.2.2.2.2.2.2.2.2.2.2.2.1 q_.2.1.town.net.way)∧(J1 Vd q_.2.2.2.2.2.2.2.2.2.2.2.2.2.2.2.2.2.2.2.2.2.2 q_.2.2.2.2.2.2.2.2.2.2.2.2.2.2.2.2.1 q_.2.2.2.2.2.2.2.2.2.2.2.2.2.2.2.2.2.1 q_.2.1.fates q_.2.2.2.2.2.2.2.2.2.2.2.2.2.2.2.2.2.2.1)∧(J1 QU q_.2.2.2.2.2.2.2.2.2.2.2.2.2.2.2.2.2.2.2.2.2.2 q_.2.2.2.2.2.2.2.2.2.2.2.2.2.2.2.2.2.2.2.1 q_.2.2.2.2.2.2.2.2.2.2.2.2.2.2.2.2.2.2.2.2.1 q_.2.1.events q_.2.2.2.2.2.2.2.2.2.2.2.2.2.2.2.2.2.2.2.2.2.1)∧(rI q_.2.1.town.clerk.queue.most)∧(rI q_.2.1.town.clerk.batch)∧(rI q_.2.1.town.clerk.every)∧(rI q_.2.1.town.clerk.now)∧(rI q_.2.1.town.net.now)∧(rI q_.2.1.reach)∧(q_.2.1=Jbu jt q_.1)) (fun q_=>[(0,Pt b 0),(71,I (jt.town.owners.length:Int)),(72,I (q_.1:Int))]) (fun q_=>q_.2.2.2.2.2.2.2.2.2.2.2.2.2.2.2.2.2.2.2.2.2.2) (fun q_=>([Sg b2 0 [I (((Kn t.town.net).1).now),Sl a4 ((((Kn t.town.net).1).way).length) c4]]::[Sg b1 0 (KB (V5 t).1 a1 c1 a2 c2 a3 c3)]::[Sg b 0 (J7 q_.2.1 q_.2.2.1 q_.2.2.2.1 q_.2.2.2.2.1 q_.2.2.2.2.2.1 q_.2.2.2.2.2.2.1 q_.2.2.2.2.2.2.2.1 q_.2.2.2.2.2.2.2.2.1 q_.2.2.2.2.2.2.2.2.2.1 q_.2.2.2.2.2.2.2.2.2.2.2.1 q_.2.2.2.2.2.2.2.2.2.2.2.2.1 q_.2.2.2.2.2.2.2.2.2.2.2.2.2.2.1 q_.2.2.2.2.2.2.2.2.2.2.2.2.2.2.2.1 q_.2.2.2.2.2.2.2.2.2.2.2.2.2.2.2.2.1 q_.2.2.2.2.2.2.2.2.2.2.2.2.2.2.2.2.2.1 q_.2.2.2.2.2.2.2.2.2.2.2.2.2.2.2.2.2.2.2.1 q_.2.2.2.2.2.2.2.2.2.2.2.2.2.2.2.2.2.2.2.2.1)]::q_.2.2.2.2.2.2.2.2.2.2.1::q_.2.2.2.2.2.2.2.2.2.2.2.2.2.1::q_.2.2.2.2.2.2.2.2.2.2.2.2.2.2.2.2.2.2.1::q_.2.2.2.2.2.2.2.2.2.2.2.2.2.2.2.2.2.2.2.2.2.1::Lr)) (fun q_=>jt.town.owners.length-q_.1) (0,jt,ajt0,cjt0,ajt1,cjt1,ajt2,cjt2,ajt3,cjt3,rjt7,ajt4,cjt4,rjt8,ajt5,cjt5,ajt6,cjt6,rjt12,ajt7,cjt7,rjt13,g) ⟨(Jh _),(by (try dsimp only);omega),hjt1,hjt5,hjt6,hjt7,hjt8,hjt10,hjt12,hjt13,hjt0,hjt2,hjt3,hjt4,hjt9,hjt11,(by (try dsimp only);rfl)⟩ (fun q_ hs=>?_)
 obtain ⟨k,kt,akt0,ckt0,akt1,ckt1,akt2,ckt2,akt3,ckt3,rkt7,akt4,ckt4,rkt8,akt5,ckt5,akt6,ckt6,rkt12,akt7,ckt7,rkt13,g1_⟩:=q_
 obtain ⟨hle1_,hi,hkt1,hkt5,hkt6,hkt7,hkt8,hkt10,hkt12,hkt13,hkt0,hkt2,hkt3,hkt4,hkt9,hkt11,hK⟩:=hs
 dsimp only at hle1_ hi hkt1 hkt5 hkt6 hkt7 hkt8 hkt10 hkt12 hkt13 hkt0 hkt2 hkt3 hkt4 hkt9 hkt11 hK
 dsimp only
 refine Jg [0] [(73,Bo (decide ((k:Int)<(jt.town.owners.length:Int))))] (Jf (Jl (decide ((k:Int)<(jt.town.owners.length:Int))) (fun h4=>?_) (fun h4=>?_)))
 refine Jq (Jb (Jf (Jy (Jg [0,0] [(10,I (k:Int))] (Jd (Jc [0,0] [(75,Pt b 0),(76,I (k:Int))] (Jw 6 (Jw 6 (Jw 6 (Jw 6 (Jw 6 (Qp (Ls:=[[Sg b 0 (J7 kt akt0 ckt0 akt1 ckt1 akt2 ckt2 akt3 ckt3 akt4 ckt4 akt5 ckt5 akt6 ckt6 akt7 ckt7)],rkt7,rkt8,rkt12,rkt13]) (Lr:=([Sg b2 0 [I (((Kn t.town.net).1).now),Sl a4 ((((Kn t.town.net).1).way).length) c4]]::[Sg b1 0 (KB (V5 t).1 a1 c1 a2 c2 a3 c3)]::Lr)) 77 (Joc g1_ b kt akt0 ckt0 akt1 ckt1 akt2 ckt2 akt3 ckt3 akt4 ckt4 akt5 ckt5 akt6 ckt6 akt7 ckt7 rkt7 rkt8 rkt12 rkt13 hkt0 hkt1 hkt2 hkt3 hkt4 hkt5 hkt6 hkt7 hkt8 hkt9 hkt10 hkt11 hkt12 hkt13 (k:Int) (by (have q_:=(Zk hH ‹_› hJ);have q2_:=(Jd1 (Zk hH ‹_› hJ).1 hK);have q3_:=hH.len;omega)) (by (have q_:=(Zk hH ‹_› hJ);have q2_:=(Jd1 (Zk hH ‹_› hJ).1 hK);have q3_:=hH.len;omega)) (by (have q_:=(Zk hH ‹_› hJ);have q2_:=(Jd1 (Zk hH ‹_› hJ).1 hK);have q3_:=hH.len;omega)) (by exact (Jd1 (Zk hH ‹_› hJ).1 hK).1.polls) (by exact (Jd1 (Zk hH ‹_› hJ).1 hK).1.epoch)) (fun v G5 L1 hl5 hp=>?_)))))))))))))
 obtain ⟨a25,c25,a26,c26,a27,c27,a28,c28,a29,c29,a30,c30,a31,c31,a32,c32,r9,r10,r11,r12,rfl,_,hs17,_,_,_,hs18,hs19,hr9,hr10,_,hs20,_,hr11,hr12,rfl⟩:=hp
 refine Je (JN (Jb (Jd (Jc [0,0] [(72,I (Hb.wrap ((k:Int)+1)))] (Kr 72 ((k:Int)+1) (by (have q_:=(Zk hH ‹_› hJ);have q2_:=(Jd1 (Zk hH ‹_› hJ).1 hK);have q3_:=hH.len;omega)) (Je (Jk 4 (Jk 4 (Jk 4 (Jk 4 (Jk 4 (Jk 6 (Jk 6 ?_)))))))))))))
 exact Qr ([Sg b2 0 [I (((Kn t.town.net).1).now),Sl a4 ((((Kn t.town.net).1).way).length) c4]]::[Sg b1 0 (KB (V5 t).1 a1 c1 a2 c2 a3 c3)]::[Sg b 0 (J7 (Zs kt (k:Int)) a25 c25 a26 c26 a27 c27 a28 c28 a29 c29 a30 c30 a31 c31 a32 c32)]::r9::r10::r11::r12::Lr) (Qi (k+1,(Zs kt (k:Int)),a25,c25,a26,c26,a27,c27,a28,c28,r9,a29,c29,r10,a30,c30,a31,c31,r11,a32,c32,r12,G5) ⟨(Ja hle1_ hl5),J8,hs17,hs18,hs19,hr9,hr10,hs20,hr11,hr12,‹_›,‹_›,‹_›,‹_›,‹_›,‹_›,(by (try dsimp only);rw [← Vz,← hK])⟩ (by (try dsimp only);omega))
 refine KW (JY (J9 (JT (Jk 6 (Jk 6 (Jk 6 (Jk 6 (Jk 6 ?_))))))))
 have hf2:Wu t=kt:=by
  exact Jod ‹_› hJ J8 hK (by omega)
 refine ZD [] [] (KT (Lr:=Lr) [[Sg b 0 (J7 kt akt0 ckt0 akt1 ckt1 akt2 ckt2 akt3 ckt3 akt4 ckt4 akt5 ckt5 akt6 ckt6 akt7 ckt7)],rkt7,rkt8,rkt12,rkt13] (Ja (Ja (Ja hl1 hl2) hle) hle1_) ?_)
 rw [hf2];try dsimp only
 exact ⟨akt0,ckt0,akt1,ckt1,akt2,ckt2,akt3,ckt3,akt4,ckt4,akt5,ckt5,akt6,ckt6,akt7,ckt7,rkt7,rkt8,rkt12,rkt13,rfl,hkt0,hkt1,hkt2,hkt3,hkt4,hkt5,hkt6,hkt7,hkt8,hkt9,hkt10,hkt11,hkt12,hkt13,rfl⟩
theorem tDo1 {t:JH} {d:K6} (h:d.kind=1):YJ t d=Wc t d:=by unfold YJ;rw [if_pos h]
theorem tDo2 {t:JH} {d:K6} (h:d.kind=2):YJ t d=⟨t.town,t.reach,t.fates++[d.fates],t.events⟩:=by unfold YJ;rw [if_neg (by omega),if_pos h]
theorem tDo30 {t:JH} {d:K6} (h:d.kind=3) (ho:W4 t d.who=false):YJ t d=t:=by unfold YJ;rw [if_neg (by omega),if_neg (by omega),if_pos h];unfold JfF;rw [if_pos ho]
theorem tDo31 {t:JH} {d:K6} (h:d.kind=3) (ho:W4 t d.who=true) (hs:(Ku t.town.net (JiX d.letter d.who) [1]).2=0):YJ t d=⟨⟨t.town.clerk,t.town.owners,t.town.polls,(Ku t.town.net (JiX d.letter d.who) [1]).1⟩,t.reach,t.fates,t.events⟩:=by
 unfold YJ;rw [if_neg (by omega),if_neg (by omega),if_pos h];unfold JfF;rw [if_neg (by rw [ho];simp),if_pos hs]
theorem tDo32 {t:JH} {d:K6} (h:d.kind=3) (ho:W4 t d.who=true) (hs:¬ (Ku t.town.net (JiX d.letter d.who) [1]).2=0):YJ t d=t:=by
 unfold YJ;rw [if_neg (by omega),if_neg (by omega),if_pos h];unfold JfF;rw [if_neg (by rw [ho];simp),if_neg hs]
theorem tDo4 {t:JH} {d:K6} (h:d.kind=4):YJ t d=Wu t:=by unfold YJ;rw [if_neg (by omega),if_neg (by omega),if_neg (by omega),if_pos h]
theorem tDo5 {t:JH} {d:K6} (h1:¬ d.kind=1) (h2:¬ d.kind=2) (h3:¬ d.kind=3) (h4:¬ d.kind=4):YJ t d=t:=by unfold YJ;rw [if_neg h1,if_neg h2,if_neg h3,if_neg h4]
set_option maxRecDepth 20000 in
abbrev JbP (d:K6):=(⟨d.who,d.letter.from_,d.letter.since,d.letter.due,d.letter.heads,d.letter.reply⟩:JQ)
abbrev W5 (d:K6) (t:JH):=Ku t.town.net (JbP d) ([1])
theorem Jli (G:J4) (b:Nat) (t:JH) (a_1:Option Addr) (c_1:Nat) (a_5:Option Addr) (c_5:Nat) (a_6:Option Addr) (c_6:Nat) (a_7:Option Addr) (c_7:Nat) (a_8:Option Addr) (c_8:Nat) (a_10:Option Addr) (c_10:Nat) (a_12:Option Addr) (c_12:Nat) (a_13:Option Addr) (c_13:Nat) (r_7:List Kh) (r_8:List Kh) (r_12:List Kh) (r_13:List Kh) (h_0:rI t.town.clerk.queue.most) (h_1:RS QW G a_1 c_1 t.town.clerk.queue.wait) (h_2:rI t.town.clerk.batch) (h_3:rI t.town.clerk.every) (h_4:rI t.town.clerk.now) (h_5:RS KA G a_5 c_5 t.town.clerk.heads) (h_6:RS Qk G a_6 c_6 t.town.clerk.books) (h_7:J1 QB G a_7 c_7 t.town.owners r_7) (h_8:J1 Wg G a_8 c_8 t.town.polls r_8) (h_9:rI t.town.net.now) (h_10:RS Ke G a_10 c_10 t.town.net.way) (h_11:rI t.reach) (h_12:J1 Vd G a_12 c_12 t.fates r_12) (h_13:J1 QU G a_13 c_13 t.events r_13) (vs_d:List Value) (d:K6) (h_d:WO.R G vs_d d) (hH:Vu t) (hev:t.events.length≤900000) (hfl:t.fates.length≤1000000):Jcc 35 #[Pt b 0,.agg vs_d.toArray] G [[Sg b 0 [I t.town.clerk.queue.most,Sl a_1 t.town.clerk.queue.wait.length c_1,I t.town.clerk.batch,I t.town.clerk.every,I t.town.clerk.now,Sl a_5 t.town.clerk.heads.length c_5,Sl a_6 t.town.clerk.books.length c_6,Sl a_7 t.town.owners.length c_7,Sl a_8 t.town.polls.length c_8,I t.town.net.now,Sl a_10 t.town.net.way.length c_10,I t.reach,Sl a_12 t.fates.length c_12,Sl a_13 t.events.length c_13]],r_7,r_8,r_12,r_13] (fun u G' L'=>∃ (a_z1:Option Addr) (c_z1:Nat) (a_z5:Option Addr) (c_z5:Nat) (a_z6:Option Addr) (c_z6:Nat) (a_z7:Option Addr) (c_z7:Nat) (a_z8:Option Addr) (c_z8:Nat) (a_z10:Option Addr) (c_z10:Nat) (a_z12:Option Addr) (c_z12:Nat) (a_z13:Option Addr) (c_z13:Nat) (r_z7:List Kh) (r_z8:List Kh) (r_z12:List Kh) (r_z13:List Kh),u=.tuple #[]∧(rI ((YJ t d).town.clerk.queue.most))∧(RS QW G' a_z1 c_z1 ((YJ t d).town.clerk.queue.wait))∧(rI ((YJ t d).town.clerk.batch))∧(rI ((YJ t d).town.clerk.every))∧(rI ((YJ t d).town.clerk.now))∧(RS KA G' a_z5 c_z5 ((YJ t d).town.clerk.heads))∧(RS Qk G' a_z6 c_z6 ((YJ t d).town.clerk.books))∧(J1 QB G' a_z7 c_z7 ((YJ t d).town.owners) r_z7)∧(J1 Wg G' a_z8 c_z8 ((YJ t d).town.polls) r_z8)∧(rI ((YJ t d).town.net.now))∧(RS Ke G' a_z10 c_z10 ((YJ t d).town.net.way))∧(rI ((YJ t d).reach))∧(J1 Vd G' a_z12 c_z12 ((YJ t d).fates) r_z12)∧(J1 QU G' a_z13 c_z13 ((YJ t d).events) r_z13)∧L'=[[Sg b 0 [I ((YJ t d).town.clerk.queue.most),Sl a_z1 (((YJ t d).town.clerk.queue.wait).length) c_z1,I ((YJ t d).town.clerk.batch),I ((YJ t d).town.clerk.every),I ((YJ t d).town.clerk.now),Sl a_z5 (((YJ t d).town.clerk.heads).length) c_z5,Sl a_z6 (((YJ t d).town.clerk.books).length) c_z6,Sl a_z7 (((YJ t d).town.owners).length) c_z7,Sl a_z8 (((YJ t d).town.polls).length) c_z8,I ((YJ t d).town.net.now),Sl a_z10 (((YJ t d).town.net.way).length) c_z10,I ((YJ t d).reach),Sl a_z12 (((YJ t d).fates).length) c_z12,Sl a_z13 (((YJ t d).events).length) c_z13]],r_z7,r_z8,r_z12,r_z13]):=by
 obtain ⟨a1,c1,a2,c2,a3,c3,a4,c4,rfl,w1,w2,w3,hs1,w4,w5,w6,w7,hs2,w8,w9,w10,w11,w12,hs3,hs4⟩:=h_d
 intro Lr
 refine JR Tryz.func35 61 [(0,Pt b 0),(1,(JcV d a1 c1 a2 c2 a3 c3 a4 c4))] rfl (fun w0 G0=>?_)
 show TC _ _ _ _ _ ([Sg b 0 (J7 t a_1 c_1 a_5 c_5 a_6 c_6 a_7 c_7 a_8 c_8 a_10 c_10 a_12 c_12 a_13 c_13)]::r_7::r_8::r_12::r_13::Lr)
 refine Jf (Jd (Jv 3 #[I d.kind,I d.who,Sr d.value,Sl a1 d.fates.length c1,I d.letter.to_,I d.letter.from_,I d.letter.since,I d.letter.due,Sl a2 d.letter.heads.length c2,I d.letter.reply.head.epoch,U d.letter.reply.head.root,U d.letter.reply.head.prev,I d.letter.reply.head.at_,Sr d.letter.reply.proof.name,Sl a3 d.letter.reply.proof.entries.length c3,Sl a4 d.letter.reply.proof.sides.length c4] 53 (fun b1=>Je (Jb (Jg [0,2] [(8,I d.kind)] (Jy (Jg [0,0] [(9,Bo (decide (d.kind=1)))] (Jl (decide (d.kind=1)) (fun h1=>?_) (fun h1=>?_)))))))))
 refine Jd (Jc [0,2] [(11,Pt b 0),(12,(JcV d a1 c1 a2 c2 a3 c3 a4 c4))] (Jw 5 (Jw 5 (Jw 5 (Jw 5 (Jw 5 (Qp (Ls:=[[Sg b 0 (J7 t a_1 c_1 a_5 c_5 a_6 c_6 a_7 c_7 a_8 c_8 a_10 c_10 a_12 c_12 a_13 c_13)],r_7,r_8,r_12,r_13]) (Lr:=([Sg b1 0 (WI d a1 c1 a2 c2 a3 c3 a4 c4)]::Lr)) 13 (Jmq G b t a_1 c_1 a_5 c_5 a_6 c_6 a_7 c_7 a_8 c_8 a_10 c_10 a_12 c_12 a_13 c_13 r_7 r_8 r_12 r_13 h_0 h_1 h_2 h_3 h_4 h_5 h_6 h_7 h_8 h_9 h_10 h_11 h_12 h_13 (WI d a1 c1 a2 c2 a3 c3 a4 c4) d (⟨a1,c1,a2,c2,a3,c3,a4,c4,rfl,w1,w2,w3,hs1,w4,w5,w6,w7,hs2,w8,w9,w10,w11,w12,hs3,hs4⟩) J8) (fun v G1 L1 hl1 hp=>?_))))))))
 obtain ⟨a5,c5,a6,c6,a7,c7,a8,c8,a9,c9,a10,c10,a11,c11,a12,c12,r1,r2,r3,r4,rfl,w13,hs5,w14,w15,w16,hs6,hs7,hr1,hr2,w17,hs8,w18,hr3,hr4,rfl⟩:=hp
 refine Je (JN (Jk 4 (Jk 4 (Jk 4 (Jk 4 (Jk 4 ?_))))))
 have hf1:YJ t d=(Wc t d):=by
  exact tDo1 ‹_›
 refine ZD [] [] (KT (Lr:=Lr) [[Sg b 0 (J7 (Wc t d) a5 c5 a6 c6 a7 c7 a8 c8 a9 c9 a10 c10 a11 c11 a12 c12)],r1,r2,r3,r4] hl1 ?_)
 rw [hf1];try dsimp only
 exact ⟨a5,c5,a6,c6,a7,c7,a8,c8,a9,c9,a10,c10,a11,c11,a12,c12,r1,r2,r3,r4,rfl,w13,hs5,w14,w15,w16,hs6,hs7,hr1,hr2,w17,hs8,w18,hr3,hr4,rfl⟩
 refine Jg [0,0] [(14,Bo (decide (d.kind=2)))] (Jl (decide (d.kind=2)) (fun h2=>?_) (fun h2=>?_))
 refine Kp [7,8,9,12] (Wl [(0,Pt b 0),(1,Pt b 0),(2,Pt b 0),(3,Pt b 12),(4,Sl a_12 t.fates.length c_12),(5,Pt b1 3),(6,Sl a1 d.fates.length c1)] (JK [] [(0,0),(1,0),(2,0),(3,0),(4,4),(5,0),(6,2)] [] [7] (Ha _) (Ki ?_ K8)))
 refine JC 7 [(22,Sl a1 d.fates.length c1)] (fun X=>?_)
 refine JI 23 (JlW G a1 c1 d.fates hs1) (fun v G2 L1 hl2 hp=>?_)
 obtain ⟨a13,c13,_,rfl,hr5,rfl⟩:=hp
 refine JD [(7,Sl a13 d.fates.length c13)] (JK [5,6] [(0,0),(1,0),(2,0),(3,0),(4,6)] [] [8] (Ha _) (Ki ?_ K8))
 refine JC 8 [(23,Sl a13 d.fates.length c13)] (fun X=>?_)
 refine Kt 24 1 #[Sl a13 d.fates.length c13] 39 (fun b2=>JD [(8,Sl (At b2 0) 1 1)] (JK [5,6] [(0,0),(1,0),(2,0),(3,0),(4,8)] [] [9] (Ha _) (Ki ?_ K8)))
 refine JC 9 [(20,Sl a_12 t.fates.length c_12),(24,Sl (At b2 0) 1 1)] (fun X=>?_)
 refine WL (E:=EI) 1 hr5 (by exact (hs1).fit) (fun G3 hl3 hs9=>Qy (b:=b2) (cs:=[Sl a13 d.fates.length c13]) 25 39 6 0 (E:=Vd) d.fates (h_12.mono (Ja hl2 hl3)) ⟨a13,c13,rfl,hs9⟩ (by (try simp only [Vd,List.length_append,List.length_cons,List.length_nil]);omega) (by (try simp only [Vd,List.length_append,List.length_cons,List.length_nil]);omega) (fun a14 c14 r6 hr6=>JD [(9,Sl a14 ((t.fates++[d.fates]).length) c14),(10,Pt b 0),(11,Pt b 12)] (JK [1,2,3,4,5,6] [(0,0),(10,0),(11,0)] [] [12] (Ha _) (Ki ?_ K8))))
 refine JC 12 [(25,Sl a14 ((t.fates++[d.fates]).length) c14),(27,Pt b 12)] (fun X=>?_)
 refine KN 3 ([Sg b2 0 [Sl a13 d.fates.length c13]]::[]::[Sg b1 0 (WI d a1 c1 a2 c2 a3 c3 a4 c4)]::[Sg b 0 (J7 (⟨t.town,t.reach,(t.fates++[d.fates]),t.events⟩:JH) a_1 c_1 a_5 c_5 a_6 c_6 a_7 c_7 a_8 c_8 a_10 c_10 a14 c14 a_13 c_13)]::r_7::r_8::r6::r_13::Lr) (Ka [] (Km [0,1,2,3,4,5,6,10,11] [] [] [] (Ha _) (JN (Jk 7 (Jk 7 (Jk 7 (Jk 7 (Jk 7 ?_))))))))
 have hf2:YJ t d=(⟨t.town,t.reach,t.fates++[d.fates],t.events⟩:JH):=by
  exact tDo2 ‹_›
 refine ZD [] [] (KT (Lr:=Lr) [[Sg b 0 (J7 (⟨t.town,t.reach,(t.fates++[d.fates]),t.events⟩:JH) a_1 c_1 a_5 c_5 a_6 c_6 a_7 c_7 a_8 c_8 a_10 c_10 a14 c14 a_13 c_13)],r_7,r_8,r6,r_13] (Ja hl2 hl3) ?_)
 rw [hf2];try dsimp only
 exact ⟨a_1,c_1,a_5,c_5,a_6,c_6,a_7,c_7,a_8,c_8,a_10,c_10,a14,c14,a_13,c_13,r_7,r_8,r6,r_13,rfl,h_0,(h_1.mono (Ja hl2 hl3)),h_2,h_3,h_4,(h_5.mono (Ja hl2 hl3)),(h_6.mono (Ja hl2 hl3)),(h_7.mono (Ja hl2 hl3)),(h_8.mono (Ja hl2 hl3)),h_9,(h_10.mono (Ja hl2 hl3)),h_11,hr6,(h_13.mono (Ja hl2 hl3)),rfl⟩
 refine Jg [0,0] [(28,Bo (decide (d.kind=3)))] (Jl (decide (d.kind=3)) (fun h3=>?_) (fun h3=>?_))
 refine Jf (Jd (Jc [0,0,2] [(30,Pt b 0),(32,I d.who)] (Jw 5 (Jw 5 (Jw 5 (Jw 5 (Jw 5 (Qp (Ls:=[[Sg b 0 (J7 t a_1 c_1 a_5 c_5 a_6 c_6 a_7 c_7 a_8 c_8 a_10 c_10 a_12 c_12 a_13 c_13)],r_7,r_8,r_12,r_13]) (Lr:=([Sg b1 0 (WI d a1 c1 a2 c2 a3 c3 a4 c4)]::Lr)) 33 (JbO G b t a_1 c_1 a_5 c_5 a_6 c_6 a_7 c_7 a_8 c_8 a_10 c_10 a_12 c_12 a_13 c_13 r_7 r_8 r_12 r_13 h_0 h_1 h_2 h_3 h_4 h_5 h_6 h_7 h_8 h_9 h_10 h_11 h_12 h_13 d.who) (fun v G4 L1 hl4 hp=>?_)))))))))
 obtain ⟨a15,c15,a16,c16,a17,c17,a18,c18,a19,c19,a20,c20,a21,c21,a22,c22,r7,r8,r9,r10,rfl,w19,hs10,w20,w21,w22,hs11,hs12,hr7,hr8,w23,hs13,w24,hr9,hr10,rfl⟩:=hp
 refine Je (Jb (Jl (W4 t d.who) (fun h4=>?_) (fun h4=>?_)))
 refine Jf (Jd (Jc [0,12] [(35,(Q1 d.letter a2 c2 a3 c3 a4 c4))] (Jv 4 #[I 0,I 0,I 0,I 0,Sl none 0 0,I 0,U 0,U 0,I 0,Sr ([]),Sl none 0 0,Sl none 0 0] 51 (fun b3=>JV [3] [] ([Sg b3 0 (Kq d.letter a2 c2 a3 c3 a4 c4)]::[Sg b 0 (J7 t a15 c15 a16 c16 a17 c17 a18 c18 a19 c19 a20 c20 a21 c21 a22 c22)]::r7::r8::r9::r10::[Sg b1 0 (WI d a1 c1 a2 c2 a3 c3 a4 c4)]::Lr) (Je (Jb (QA [0,14,0,3] [] ([Sg b3 0 (Kq (JbP d) a2 c2 a3 c3 a4 c4)]::[Sg b 0 (J7 t a15 c15 a16 c16 a17 c17 a18 c18 a19 c19 a20 c20 a21 c21 a22 c22)]::r7::r8::r9::r10::[Sg b1 0 (WI d a1 c1 a2 c2 a3 c3 a4 c4)]::Lr) ?_)))))))
 refine Yv (σ:=Nat×(Option Addr)×Nat×J4) (fun q_=>(J4.le G4 q_.2.2.2)∧(rI (((W5 d t).1).now))∧(RS Ke q_.2.2.2 q_.2.1 q_.2.2.1 (((W5 d t).1).way))) (fun q_=>[(0,Pt b 0),(5,Pt q_.1 0),(6,I ((W5 d t).2))]) (fun q_=>q_.2.2.2) (fun q_=>([Sg q_.1 0 [I (((W5 d t).1).now),Sl q_.2.1 ((((W5 d t).1).way).length) q_.2.2.1]]::[]::[Sg b3 0 (Kq (JbP d) a2 c2 a3 c3 a4 c4)]::[Sg b 0 (J7 t a15 c15 a16 c16 a17 c17 a18 c18 a19 c19 a20 c20 a21 c21 a22 c22)]::r7::r8::r9::r10::[Sg b1 0 (WI d a1 c1 a2 c2 a3 c3 a4 c4)]::Lr)) ?_ (fun q_ hs=>?_)
 refine Kp [6,7,11,12] (Wl [(0,Pt b 0),(1,Pt b 0),(2,Pt b 0),(3,Pt b 9),(4,.agg #[I t.town.net.now,Sl a20 t.town.net.way.length c20]),(5,(Q1 (JbP d) a2 c2 a3 c3 a4 c4))] (JK [] [(0,0),(1,0),(2,0),(3,0),(4,4),(5,2)] [] [6,11] (Ha _) (Ki ?_ (Ki ?_ K8))))
 refine JC 6 [] (fun X=>?_)
 refine Kt 46 1 #[I 1] 3 (fun b4=>JD [(6,Sl (At b4 0) 1 1)] (JK [] [(0,0),(1,0),(2,0),(3,0),(4,6),(5,4)] [] [7,11] (Ha _) (Ki ?_ (Ki ?_ K8))))
 refine JC 7 [(44,.agg #[I t.town.net.now,Sl a20 t.town.net.way.length c20]),(45,(Q1 (JbP d) a2 c2 a3 c3 a4 c4)),(46,Sl (At b4 0) 1 1)] (fun X=>?_)
 refine QZ (b:=b4) (o:=0) (cs:=[I 1]) 0 (fun G5 hl5 hz1=>?_)
 have hs14:RS EI G5 (At b4 0) 1 [1]:=RS.lit [[I 1]] [1] ⟨⟨rfl,(by omega)⟩,trivial⟩ hz1 (Hc rfl) (Hc rfl)
 refine JI 47 (YH G5 [I t.town.net.now,Sl a20 t.town.net.way.length c20] t.town.net (⟨a20,c20,rfl,w23,(hs13.mono hl5)⟩) (Kq (JbP d) a2 c2 a3 c3 a4 c4) (JbP d) (⟨a2,c2,a3,c3,a4,c4,rfl,w2,w5,w6,w7,(hs2.mono (Ja hl4 hl5)),w8,w9,w10,w11,w12,(hs3.mono (Ja hl4 hl5)),(hs4.mono (Ja hl4 hl5))⟩) (At b4 0) 1 ([1]) hs14) (fun v G6 L1 hl6 hp=>?_)
 obtain ⟨a23,c23,rfl,w25,hs15,rfl⟩:=hp
 refine JD [(7,.tuple #[.agg #[I (((W5 d t).1).now),Sl a23 ((((W5 d t).1).way).length) c23],I ((W5 d t).2)]),(8,.tuple #[.agg #[I (((W5 d t).1).now),Sl a23 ((((W5 d t).1).way).length) c23],I ((W5 d t).2)]),(9,.agg #[I (((W5 d t).1).now),Sl a23 ((((W5 d t).1).way).length) c23]),(10,I ((W5 d t).2))] (JK [0,1,2,3,4,5] [(8,0),(9,0),(10,0)] [] [11] (Ha _) (Ki ?_ K8))
 refine JC 11 [] (fun X=>?_)
 refine Jv 5 #[I 0,Sl none 0 0] 65 (fun b5=>JD [(11,Pt b5 0)] (JK [0,1,2,3,4,5] [(8,0),(9,0),(10,0)] [] [12] (Ha _) (Ki ?_ K8)))
 refine JC 12 [(5,Pt b5 0),(48,.agg #[I (((W5 d t).1).now),Sl a23 ((((W5 d t).1).way).length) c23])] (fun X=>?_)
 exact KN 0 ([Sg b5 0 [I (((W5 d t).1).now),Sl a23 ((((W5 d t).1).way).length) c23]]::[]::[Sg b3 0 (Kq (JbP d) a2 c2 a3 c3 a4 c4)]::[Sg b 0 (J7 t a15 c15 a16 c16 a17 c17 a18 c18 a19 c19 a20 c20 a21 c21 a22 c22)]::r7::r8::r9::r10::[Sg b1 0 (WI d a1 c1 a2 c2 a3 c3 a4 c4)]::Lr) (Ka [(13,I ((W5 d t).2))] (Km [0,1,2,3,4,5,8,9] [(10,0),(13,0)] [] [(0,Pt b 0),(5,Pt b5 0),(6,I ((W5 d t).2))] (Ha _) (Wd (b5,a23,c23,G6) ⟨(Ja hl5 hl6),w25,hs15⟩)))
 refine JC 11 [] (fun X=>?_)
 refine Jv 5 #[I 0,Sl none 0 0] 65 (fun b6=>JD [(11,Pt b6 0)] (JK [] [(0,0),(1,0),(2,0),(3,0),(4,8),(5,6)] [] [7] (Ha _) (Ki ?_ K8)))
 refine JC 7 [(44,.agg #[I t.town.net.now,Sl a20 t.town.net.way.length c20]),(45,(Q1 (JbP d) a2 c2 a3 c3 a4 c4)),(46,Sl (At b4 0) 1 1)] (fun X=>?_)
 refine QZ (b:=b4) (o:=0) (cs:=[I 1]) 1 (fun G7 hl7 hz2=>?_)
 have hs16:RS EI G7 (At b4 0) 1 [1]:=RS.lit [[I 1]] [1] ⟨⟨rfl,(by omega)⟩,trivial⟩ hz2 (Hc rfl) (Hc rfl)
 refine JI 47 (YH G7 [I t.town.net.now,Sl a20 t.town.net.way.length c20] t.town.net (⟨a20,c20,rfl,w23,(hs13.mono hl7)⟩) (Kq (JbP d) a2 c2 a3 c3 a4 c4) (JbP d) (⟨a2,c2,a3,c3,a4,c4,rfl,w2,w5,w6,w7,(hs2.mono (Ja hl4 hl7)),w8,w9,w10,w11,w12,(hs3.mono (Ja hl4 hl7)),(hs4.mono (Ja hl4 hl7))⟩) (At b4 0) 1 ([1]) hs16) (fun v G8 L1 hl8 hp=>?_)
 obtain ⟨a24,c24,rfl,w26,hs17,rfl⟩:=hp
 refine JD [(7,.tuple #[.agg #[I (((W5 d t).1).now),Sl a24 ((((W5 d t).1).way).length) c24],I ((W5 d t).2)]),(8,.tuple #[.agg #[I (((W5 d t).1).now),Sl a24 ((((W5 d t).1).way).length) c24],I ((W5 d t).2)]),(9,.agg #[I (((W5 d t).1).now),Sl a24 ((((W5 d t).1).way).length) c24]),(10,I ((W5 d t).2))] (JK [0,1,2,3,4,5] [(8,0),(9,0),(10,0)] [] [12] (Ha _) (Ki ?_ K8))
 refine JC 12 [(5,Pt b6 0),(48,.agg #[I (((W5 d t).1).now),Sl a24 ((((W5 d t).1).way).length) c24])] (fun X=>?_)
 exact KN 0 ([Sg b6 0 [I (((W5 d t).1).now),Sl a24 ((((W5 d t).1).way).length) c24]]::[]::[Sg b3 0 (Kq (JbP d) a2 c2 a3 c3 a4 c4)]::[Sg b 0 (J7 t a15 c15 a16 c16 a17 c17 a18 c18 a19 c19 a20 c20 a21 c21 a22 c22)]::r7::r8::r9::r10::[Sg b1 0 (WI d a1 c1 a2 c2 a3 c3 a4 c4)]::Lr) (Ka [(13,I ((W5 d t).2))] (Km [0,1,2,3,4,5,8,9] [(10,0),(13,0)] [] [(0,Pt b 0),(5,Pt b6 0),(6,I ((W5 d t).2))] (Ha _) (Wd (b6,a24,c24,G8) ⟨(Ja hl7 hl8),w26,hs17⟩)))
 refine JC 11 [] (fun X=>?_)
 refine Jv 5 #[I 0,Sl none 0 0] 65 (fun b7=>JD [(11,Pt b7 0)] (JK [] [(0,0),(1,0),(2,0),(3,0),(4,6),(5,4)] [] [6] (Ha _) (Ki ?_ K8)))
 refine JC 6 [] (fun X=>?_)
 refine Kt 46 1 #[I 1] 3 (fun b8=>JD [(6,Sl (At b8 0) 1 1)] (JK [] [(0,0),(1,0),(2,0),(3,0),(4,8),(5,6)] [] [7] (Ha _) (Ki ?_ K8)))
 refine JC 7 [(44,.agg #[I t.town.net.now,Sl a20 t.town.net.way.length c20]),(45,(Q1 (JbP d) a2 c2 a3 c3 a4 c4)),(46,Sl (At b8 0) 1 1)] (fun X=>?_)
 refine QZ (b:=b8) (o:=0) (cs:=[I 1]) 0 (fun G9 hl9 hz3=>?_)
 have hs18:RS EI G9 (At b8 0) 1 [1]:=RS.lit [[I 1]] [1] ⟨⟨rfl,(by omega)⟩,trivial⟩ hz3 (Hc rfl) (Hc rfl)
 refine JI 47 (YH G9 [I t.town.net.now,Sl a20 t.town.net.way.length c20] t.town.net (⟨a20,c20,rfl,w23,(hs13.mono hl9)⟩) (Kq (JbP d) a2 c2 a3 c3 a4 c4) (JbP d) (⟨a2,c2,a3,c3,a4,c4,rfl,w2,w5,w6,w7,(hs2.mono (Ja hl4 hl9)),w8,w9,w10,w11,w12,(hs3.mono (Ja hl4 hl9)),(hs4.mono (Ja hl4 hl9))⟩) (At b8 0) 1 ([1]) hs18) (fun v G10 L1 hl10 hp=>?_)
 obtain ⟨a25,c25,rfl,w27,hs19,rfl⟩:=hp
 refine JD [(7,.tuple #[.agg #[I (((W5 d t).1).now),Sl a25 ((((W5 d t).1).way).length) c25],I ((W5 d t).2)]),(8,.tuple #[.agg #[I (((W5 d t).1).now),Sl a25 ((((W5 d t).1).way).length) c25],I ((W5 d t).2)]),(9,.agg #[I (((W5 d t).1).now),Sl a25 ((((W5 d t).1).way).length) c25]),(10,I ((W5 d t).2))] (JK [0,1,2,3,4,5] [(8,0),(9,0),(10,0)] [] [12] (Ha _) (Ki ?_ K8))
 refine JC 12 [(5,Pt b7 0),(48,.agg #[I (((W5 d t).1).now),Sl a25 ((((W5 d t).1).way).length) c25])] (fun X=>?_)
 refine KN 1 ([]::[Sg b7 0 [I (((W5 d t).1).now),Sl a25 ((((W5 d t).1).way).length) c25]]::[Sg b3 0 (Kq (JbP d) a2 c2 a3 c3 a4 c4)]::[Sg b 0 (J7 t a15 c15 a16 c16 a17 c17 a18 c18 a19 c19 a20 c20 a21 c21 a22 c22)]::r7::r8::r9::r10::[Sg b1 0 (WI d a1 c1 a2 c2 a3 c3 a4 c4)]::Lr) (Ka [(13,I ((W5 d t).2))] (Km [0,1,2,3,4,5,8,9] [(10,0),(13,0)] [] [(0,Pt b 0),(5,Pt b7 0),(6,I ((W5 d t).2))] (Ha _) (Jk 8 (Jk 8 (Jk 8 (Jk 8 (Jk 8 (Jk 8 (Jk 8 (Jk 7 ?_))))))))))
 exact Jk 8 (Wd (b7,a25,c25,G10) ⟨(Ja hl9 hl10),w27,hs19⟩)
 obtain ⟨b5,a23,c23,G6⟩:=q_
 obtain ⟨hle1,hj1,hj2⟩:=hs
 dsimp only at hle1 hj1 hj2
 dsimp only
 refine Jg [0,0] [(51,Bo (decide ((W5 d t).2=0)))] (Jl (decide ((W5 d t).2=0)) (fun h5=>?_) (fun h5=>?_))
 refine Jd (JV [0,2,0,0,0,9] [] ([Sg b5 0 [I (((W5 d t).1).now),Sl a23 ((((W5 d t).1).way).length) c23]]::[]::[Sg b3 0 (Kq (JbP d) a2 c2 a3 c3 a4 c4)]::[Sg b 0 (J7 (⟨(⟨t.town.clerk,t.town.owners,t.town.polls,(W5 d t).1⟩:Q8),t.reach,t.fates,t.events⟩:JH) a15 c15 a16 c16 a17 c17 a18 c18 a19 c19 a23 c23 a21 c21 a22 c22)]::r7::r8::r9::r10::[Sg b1 0 (WI d a1 c1 a2 c2 a3 c3 a4 c4)]::Lr) (Je (JN (Jk 7 (Jk 7 (Jk 7 (Jk 7 (Jk 7 ?_))))))))
 have hf3:YJ t d=(⟨(⟨t.town.clerk,t.town.owners,t.town.polls,((W5 d t).1)⟩:Q8),t.reach,t.fates,t.events⟩:JH):=by
  exact tDo31 ‹_› ‹_› ‹_›
 refine ZD [] [] (KT (Lr:=Lr) [[Sg b 0 (J7 (⟨(⟨t.town.clerk,t.town.owners,t.town.polls,(W5 d t).1⟩:Q8),t.reach,t.fates,t.events⟩:JH) a15 c15 a16 c16 a17 c17 a18 c18 a19 c19 a23 c23 a21 c21 a22 c22)],r7,r8,r9,r10] (Ja hl4 hle1) ?_)
 rw [hf3];try dsimp only
 exact ⟨a15,c15,a16,c16,a17,c17,a18,c18,a19,c19,a23,c23,a21,c21,a22,c22,r7,r8,r9,r10,rfl,w19,(hs10.mono hle1),w20,w21,w22,(hs11.mono hle1),(hs12.mono hle1),(hr7.mono hle1),(hr8.mono hle1),hj1,hj2,w24,(hr9.mono hle1),(hr10.mono hle1),rfl⟩
 refine Jq (JN (Jk 7 (Jk 7 (Jk 7 (Jk 7 (Jk 7 ?_))))))
 have hf4:YJ t d=t:=by
  exact tDo32 ‹_› ‹_› ‹_›
 refine ZD [] [] (KT (Lr:=Lr) [[Sg b 0 (J7 t a15 c15 a16 c16 a17 c17 a18 c18 a19 c19 a20 c20 a21 c21 a22 c22)],r7,r8,r9,r10] (Ja hl4 hle1) ?_)
 rw [hf4];try dsimp only
 exact ⟨a15,c15,a16,c16,a17,c17,a18,c18,a19,c19,a20,c20,a21,c21,a22,c22,r7,r8,r9,r10,rfl,w19,(hs10.mono hle1),w20,w21,w22,(hs11.mono hle1),(hs12.mono hle1),(hr7.mono hle1),(hr8.mono hle1),w23,(hs13.mono hle1),w24,(hr9.mono hle1),(hr10.mono hle1),rfl⟩
 refine Jq (JN (Jk 4 (Jk 4 (Jk 4 (Jk 4 (Jk 4 ?_))))))
 have hf5:YJ t d=t:=by
  exact tDo30 ‹_› ‹_›
 refine ZD [] [] (KT (Lr:=Lr) [[Sg b 0 (J7 t a15 c15 a16 c16 a17 c17 a18 c18 a19 c19 a20 c20 a21 c21 a22 c22)],r7,r8,r9,r10] hl4 ?_)
 rw [hf5];try dsimp only
 exact ⟨a15,c15,a16,c16,a17,c17,a18,c18,a19,c19,a20,c20,a21,c21,a22,c22,r7,r8,r9,r10,rfl,w19,hs10,w20,w21,w22,hs11,hs12,hr7,hr8,w23,hs13,w24,hr9,hr10,rfl⟩
 refine Jg [0,0] [(57,Bo (decide (d.kind=4)))] (Jl (decide (d.kind=4)) (fun h6=>?_) (fun h6=>?_))
 refine Jd (Jc [0] [(59,Pt b 0)] (Jw 5 (Jw 5 (Jw 5 (Jw 5 (Jw 5 (Qp (Ls:=[[Sg b 0 (J7 t a_1 c_1 a_5 c_5 a_6 c_6 a_7 c_7 a_8 c_8 a_10 c_10 a_12 c_12 a_13 c_13)],r_7,r_8,r_12,r_13]) (Lr:=([Sg b1 0 (WI d a1 c1 a2 c2 a3 c3 a4 c4)]::Lr)) 60 (Jmr G b t a_1 c_1 a_5 c_5 a_6 c_6 a_7 c_7 a_8 c_8 a_10 c_10 a_12 c_12 a_13 c_13 r_7 r_8 r_12 r_13 h_0 h_1 h_2 h_3 h_4 h_5 h_6 h_7 h_8 h_9 h_10 h_11 h_12 h_13 ‹_› ‹_›) (fun v G11 L1 hl11 hp=>?_))))))))
 obtain ⟨a26,c26,a27,c27,a28,c28,a29,c29,a30,c30,a31,c31,a32,c32,a33,c33,r11,r12,r13,r14,rfl,w28,hs20,w29,w30,w31,hs21,hs22,hr11,hr12,w32,hs23,w33,hr13,hr14,rfl⟩:=hp
 refine Je (JN (Jk 4 (Jk 4 (Jk 4 (Jk 4 (Jk 4 ?_))))))
 have hf6:YJ t d=(Wu t):=by
  exact tDo4 ‹_›
 refine ZD [] [] (KT (Lr:=Lr) [[Sg b 0 (J7 (Wu t) a26 c26 a27 c27 a28 c28 a29 c29 a30 c30 a31 c31 a32 c32 a33 c33)],r11,r12,r13,r14] hl11 ?_)
 rw [hf6];try dsimp only
 exact ⟨a26,c26,a27,c27,a28,c28,a29,c29,a30,c30,a31,c31,a32,c32,a33,c33,r11,r12,r13,r14,rfl,w28,hs20,w29,w30,w31,hs21,hs22,hr11,hr12,w32,hs23,w33,hr13,hr14,rfl⟩
 refine Jq (JN (Jk 5 (Jk 5 (Jk 5 (Jk 5 (Jk 5 ?_))))))
 have hf7:YJ t d=t:=by
  exact tDo5 ‹_› ‹_› ‹_› ‹_›
 refine ZD [] [] (KT (Lr:=Lr) [[Sg b 0 (J7 t a_1 c_1 a_5 c_5 a_6 c_6 a_7 c_7 a_8 c_8 a_10 c_10 a_12 c_12 a_13 c_13)],r_7,r_8,r_12,r_13] (Jh _) ?_)
 rw [hf7];try dsimp only
 exact ⟨a_1,c_1,a_5,c_5,a_6,c_6,a_7,c_7,a_8,c_8,a_10,c_10,a_12,c_12,a_13,c_13,r_7,r_8,r_12,r_13,rfl,h_0,h_1,h_2,h_3,h_4,h_5,h_6,h_7,h_8,h_9,h_10,h_11,h_12,h_13,rfl⟩
end Go.Proofs.YteaampgpgokjmaaGreatDoor
namespace Go.Tx
open Go.RowKit Go.Proofs Go.Shelf
open _root_.List renaming replicate → Ha, take_of_length_le → Hb, replicate_append_replicate → Hc, take_append_of_le_length → Hf, getElem?_eq_some_iff → Hg, getElem?_replicate → Hh, length_replicate → Hi
open _root_.Nat renaming min → Hd, mul_le_mul_right → He
section
variable {C:Cx} {Q:Exit→Act→World→Prop} {fr:List (Nat×Value)} {G:J4} {L:List (List Kh)} {ops:Array Oper} {rest:List Oper} {o:Oper}
theorem JfI {x y:Code} (h:TC C y Q fr G L):TC C (.cond (.const (.bool false)) x y) Q fr G L :=
 fun a w ha hw=>wp_cond_false (by simp [Act.eval]) (h a w ha hw)
theorem JfJ (d t e n sz:Nat) {z:Value} {lo co:Operand} {bytes:Nat} (h63:n≤9223372036854775807) (hby:n*bytes≤281474976710656)
  (hi:(C.P.info? e).map (fun i=>(i.zero,i.size,i.bytes))=some (some z,sz,bytes))
  (h:∀ b F,F.length=n*sz→Kx C ops Q rest ((d,Sl (At b 0) n n)::fr) G ([Sg b 0 F]::L))
  (hb:base C.n ops fr o d=true:=by as_aux_lemma=>kernel_rfl)
  (hop:o.op=.makeSlice t lo co:=by rfl) (ht:C.P.underlying t=some (.slice e):=by as_aux_lemma=>kernel_rfl)
  (hlo:WX fr lo=I (n:Int):=by as_aux_lemma=>kernel_rfl) (hco:WX fr co=I (n:Int):=by as_aux_lemma=>kernel_rfl):Kx C ops Q (o::rest) fr G L:=by
 refine QI d hb (fun w hw=>?_)
 obtain ⟨inf,hinf,hz,hsz,hbs⟩:=info_parts hi
 have hbn:(inf.bytes:Int)*(n:Int)≤281474976710656:=by
  have h2:(inf.bytes:Int)*n=((n*bytes:Nat):Int):=by rw [Int.natCast_mul,Int.mul_comm,hbs]
  omega
 have hm:=run_make (P:=C.P) w t e inf z ht hinf hz .i64 .i64 n n (by omega) (Int.le_refl _) hbn (by omega)
 simp only [Int.toNat_natCast,hsz] at hm
 refine ⟨_,_,G,_,?_,hw.alloc (madeCells z.cells (n*sz)) e,h w.heap.size _ (by simp [size_madeCells])⟩
 unfold execOp
 simp only [hop,hlo,hco,Sem.run_bind,hm,Result.andThen_ok,Sem.run_pure]
end
theorem JeX (k:Nat) (cs:List Value):(Ha k cs).flatten.length=k*cs.length:=by simp
theorem Joe {k m:Nat} {cs:List Value} (h:m≤k):(Ha k cs).flatten.take (m*cs.length)=(Ha m cs).flatten:=by
 obtain ⟨j,rfl⟩:=Nat.exists_eq_add_of_le h
 rw [← Hc,List.flatten_append,Hf (by rw [JeX];exact Nat.le_refl _),Hb (by rw [JeX];exact Nat.le_refl _)]
theorem Z2 (a b:Nat):Hd a b≤a∧Hd a b≤b∧(1≤a→1≤b→1≤Hd a b):=by
 show min a b≤a∧min a b≤b∧(1≤a→1≤b→1≤min a b)
 omega
structure JcE (cs:List Value) (n k:Nat) (F:List Value):Prop where
 le:k≤n
 pos:n=0∨1≤k
 len:F.length=n*cs.length
 eq:F.take (k*cs.length)=(Ha k cs).flatten
theorem JcE.x {cs F:List Value} {n k m:Nat} (h:JcE cs n k F) (hm:m≤k):F.take (m*cs.length)=(Ha m cs).flatten:=by
 rw [← Joe hm,← h.eq,List.take_take,Nat.min_eq_left (He _ hm)]
theorem JcE.xlen {cs F:List Value} {n k m:Nat} (h:JcE cs n k F) (hm:m≤k):(F.take (m*cs.length)).length=m*cs.length:=by rw [h.x hm,JeX]
theorem JcE.one {cs F:List Value} {n k m:Nat} (h:JcE cs n k F) (hm:m≤k) (h1:∀ u∈cs,u.oneCell'=true):∀ u∈F.take (m*cs.length),u.oneCell'=true:=by
 rw [h.x hm]
 intro u hu
 obtain ⟨l,hl,hu⟩:=List.mem_flatten.1 hu
 rw [(List.mem_replicate.1 hl).2] at hu
 exact h1 u hu
theorem Jeu {F X:List Value} {p:Nat} (hp:p≤F.length):(QP F p X).take (p+X.length)=F.take p++X:=by
 unfold QP
 rw [← List.append_assoc,Hf (by simp;omega),Hb (by simp;omega)]
theorem JcE.next {cs F:List Value} {n k m:Nat} (h:JcE cs n k F) (hm:m≤k) (hmn:k+m≤n):JcE cs n (k+m) (QP F (k*cs.length) (F.take (m*cs.length))):=by
 have hkl:k*cs.length+m*cs.length≤n*cs.length:=by rw [← Nat.add_mul];exact He _ hmn
 have hx:=h.xlen hm
 refine ⟨hmn,?_,?_,?_⟩
 ·
  rcases h.pos with q | q
  · exact .inl q
  · exact .inr (by omega)
 · rw [ZS (by rw [hx,h.len];exact hkl)];exact h.len
 ·
  have:=Jeu (F:=F) (X:=F.take (m*cs.length)) (p:=k*cs.length) (by rw [h.len];omega)
  rw [hx,← Nat.add_mul] at this
  rw [this,h.eq,h.x hm,← List.flatten_append,Hc]
def JfK (cs:List Value) (n:Nat):List Value:=(Ha (Hd 1 n) cs).flatten
theorem JbQ (cs:List Value) (n:Nat):(JfK cs n).length=Hd 1 n*cs.length:=JeX _ _
theorem Ji3 {cs:List Value} {n:Nat} {u:Value} (h:u∈JfK cs n):u∈cs:=by
 obtain ⟨l,hl,hu⟩:=List.mem_flatten.1 h
 rw [(List.mem_replicate.1 hl).2] at hu;exact hu
theorem Jof {cs:List Value} {n j:Nat} {v:Value} (h:(JfK cs n)[j]? = some v):cs[j]? = some v:=by
 unfold JfK at h
 have h2:=(Nat.min_def (m:=n) (n:=1))
 by_cases e:1≤n
 ·
  rw [show Hd 1 n=1 from Nat.min_eq_left e] at h
  simpa using h
 ·
  rw [show Hd 1 n=0 from by show min 1 n=0;omega] at h
  simp at h
theorem JcE.start {cs F:List Value} {n:Nat} (hF:F.length=n*cs.length):JcE cs n (Hd 1 n) (QP F 0 (JfK cs n)):=by
 have hl:=JbQ cs n
 have hle:Hd 1 n≤n:=Nat.min_le_right 1 n
 have hk:Hd 1 n*cs.length≤n*cs.length:=He _ hle
 refine ⟨hle,?_,?_,?_⟩
 ·
  by_cases e:n=0
  · exact .inl e
  · exact .inr (by show 1≤min 1 n;omega)
 · rw [ZS (by rw [hl,hF];omega)];exact hF
 ·
  have:=Jeu (F:=F) (X:=JfK cs n) (p:=0) (Nat.zero_le _)
  rw [hl] at this
  simp only [Nat.zero_add,List.take_zero,List.nil_append] at this
  rw [this];rfl
theorem JcE.row {α:Type} {E:YK α} {G:J4} {cs F:List Value} {n k b:Nat} {x:α} (h:JcE cs n k F) (hk:n≤k) (hR:E.R G cs x) (h63:n≤9223372036854775807):J1 E G (At b 0) n (Ha n x) [Sg b 0 F]:=by
 have hkn:k=n:=Nat.le_antisymm h.le hk
 subst hkn
 have hF:F=(Ha k cs).flatten:=by rw [← h.eq,Hb (by rw [h.len];exact Nat.le_refl _)]
 have hsz:=E.len hR
 refine ⟨⟨Ha k cs,by simp,fun i y hy=>?_,?_⟩⟩
 ·
  have hi:=(Hg.1 hy).1
  simp only [Hi] at hi
  rw [Hh,if_pos hi] at hy
  cases hy
  exact ⟨cs,by rw [Hh,if_pos hi],hR⟩
 ·
  rw [Hi,← hF]
  exact Row.lit (by rw [h.len,hsz]) h63
theorem Jlj {G:J4} {L:List (List Kh)} {b o n:Nat} {cs:List Value} (h:∀ j v,cs[j]? = some v→G b (o+j)=some v):Jm0 G L b o (JfK cs n):=.inl fun j v hv=>h j v (Jof hv)
theorem Jlk {G:J4} {L:List (List Kh)} {b:Nat} {F:List Value} {m:Nat} (k:Nat) (hL:L[k]? = some [Sg b 0 F]):Jm0 G L b 0 (F.take m):=.inr ⟨k,0,F,0,hL,rfl,fun j v hv=>by
 rw [Nat.zero_add]
 have hj:=(Hg.1 hv).1
 simp only [List.length_take] at hj
 rw [List.getElem?_take] at hv
 split at hv
 · exact hv
 · cases hv⟩
end Go.Tx
namespace Go.Proofs.YteaampgpgokjmaaGreatDoor
open Go.Tx
open Go.Proofs
open _root_.List renaming forall_mem_nil → Ha, replicate → Hb, length_cons → Hd, length_append → He, length_nil → Hg, mem_of_getElem? → Hi, getElem?_cons_zero → Hj, getElem?_cons_succ → Hk, length_replicate → Hl, getElem?_eq_some_iff → Hq, drop_eq_getElem_cons → Hr, take_of_length_le → Hs
open _root_.Nat renaming le_of_ble_eq_true → Hc, min → Hf, le_refl → Hn, le_trans → Hp, zero_le → Ht
open IntKind renaming i64 → Hh, u64 → Hm
open _root_.Option renaming getD_some → Ho
open IntWalk renaming i64_in → Hu
theorem Ji4 (y:Int) (hy:0≤y∧y<9223372036854775808) (G:J4):Vp Tryz.prog 33 #[U 1,U y] G [] (fun u G' L'=>u=.tuple #[U 0,U y]):=by
 refine JR Tryz.func33 30 [(0,U 1),(1,U y)] rfl (fun w0 G0=>?_)
 exact Jg [0,0] [] (Jf (JfI (Jq (Jb (Jf (Jd (Jc [0,0] [(23,U 1),(24,U y)] (Jm 25 (.tuple #[U (1*y / 18446744073709551616),U (1*y % 18446744073709551616)]) (JgF 1 y J8 J8 G) (Jc [0,0,0,0,0] [(8,U (1*y / 18446744073709551616)),(9,U (1*y % 18446744073709551616))] (Je (Jb (Jg [0,0,0,0] [(4,U (1*y / 18446744073709551616)),(5,U (1*y % 18446744073709551616))] (Jn (Jo [0,0] [U (1*y / 18446744073709551616),U (1*y % 18446744073709551616)] (Jx (Jh _) (congr (congrArg (fun a b=>Value.tuple #[U a,U b]) J8) J8))))))))))))))))
theorem Ji5 (G:J4) (a_l:Option Addr) (c_l:Nat) (p:Wb) (h_l:RS Wg G a_l c_l [p]) (n:Nat) (hn:n≤1000):Vp Tryz.prog 59 #[Sl a_l 1 c_l,I (n:Int)] G [] (fun u G' L'=>∃ a' c' r,u=Sl a' (Hb n p).length c'∧J1 Wg G' a' c' (Hb n p) r∧L'=[r]):=by
 obtain ⟨bx,ox,rfl⟩:=RS.addr h_l (k:=0) (by simp)
 obtain ⟨csx,h_p,hcx⟩:=RS.get h_l (k:=0) (x:=p) rfl
 have h1x:=Wg.one h_p
 obtain ⟨rfl,_,_,_,_,_,_⟩:=id h_p
 rw [Nat.zero_mul,Nat.add_zero] at hcx
 refine JR Tryz.func59 48 [(0,Sl (At bx ox) 1 c_l),(1,I (n:Int))] rfl (fun w0 G0=>?_)
 refine Jg [0] [] (Jf (Jg [0,0] [(10,Bo (decide ((n:Int)<0)))] (Jl (decide ((n:Int)<0)) (fun h1=>?_) (fun h1=>?_))))
 exfalso;omega
 refine Jq (Jb (Jf (Jd (Jc [0,0,0,0,0] [(15,U (Hm.wrap (1:Int))),(17,U (Hm.wrap (n:Int)))] (JaU 17 (n:Int) J8 (Jm 18 (.tuple #[U 0,U (n:Int)]) (Ji4 (n:Int) J8 G) (Jc [0,0,0,0,0] [(5,U 0),(6,U (n:Int))] (Je (Jb (Jf (Jg [0,0,0,0,0,0] [(26,Bo (decide ((n:Int) > 9223372036854775807)))] (Jl (decide ((n:Int) > 9223372036854775807)) (fun h2=>?_) (fun h2=>?_)))))))))))))
 exfalso;omega
 refine Jq (Jb (Jf (Jd (Jc [0,0] [(29,I (Hh.wrap (n:Int)))] (Kr 29 (n:Int) J8 (JfJ (z:=(.agg #[I 0,I 0,I 0,I 0,I 0,I 0])) (bytes:=48) 30 62 143 n 6 J8 J8 (by kernel_rfl) (fun bz Fz hFz=>Jc [0] [(7,Sl (At bz 0) n n)] (Je (Jb (Jf (Jd (Jc [0,0] [(31,Sl (At bz 0) n n),(32,Sl (At bx ox) 1 c_l)] (VI (b:=bz) (off:=0) (p:=0) (nd:=n) (cd:=n) (bs:=bx) (os:=ox) (ns:=1) (cs:=c_l) (F:=Fz) 33 0 6 (JfK [I p.least,I p.most,I p.lost,I p.gap,I p.next,I p.asked] n) (JbQ _ _) (by rw [JbQ,hFz,Nat.zero_add];exact Nat.mul_le_mul_right _ (Nat.min_le_right 1 n)) (fun u hu=>h1x u (Ji3 hu)) (Jlj hcx) (Jc [0] [(8,I ((Hf 1 n:Nat):Int))] (Je (Jb (Jf (Jy ?_))))))))))))))))))
 refine Qh (σ:=Nat×List Value) (fun q_=>(JcE [I p.least,I p.most,I p.lost,I p.gap,I p.next,I p.asked] n q_.1 q_.2)) (fun q_=>[(7,Sl (At bz 0) n n),(8,I (q_.1:Int))]) (fun q_=>G) (fun q_=>[[Sg bz 0 q_.2]]) (fun q_=>n-q_.1) ((Hf 1 n),(QP Fz 0 (JfK [I p.least,I p.most,I p.lost,I p.gap,I p.next,I p.asked] n))) (.start hFz) (fun q_ hs=>?_)
 obtain ⟨k,F⟩:=q_
 have hI:=hs
 dsimp only at hI
 dsimp only
 refine Jf (Jg [0,0,0,0] [(37,Bo (decide ((k:Int)<(n:Int))))] (Jl (decide ((k:Int)<(n:Int))) (fun h3=>?_) (fun h3=>?_)))
 refine Jq (Jb (Jy (Kp [7] (Wl [(0,I (k:Int)),(1,Sl (At bz 0) n n),(2,I (k:Int)),(3,Sl (At bz (0+k*6)) (n-k) (n-k)),(4,Sl (At bz 0) n n),(5,I (k:Int)),(6,Sl (At bz 0) k n)] (JK [] [(0,0),(1,0),(2,0),(4,0),(5,0)] [3,6] [7] (Ki ?_ (Ki ?_ K8)) (Ki ?_ K8))))))
 refine Jt 3 41 (Sl (At bz (0+k*6)) (n-k) (n-k)) [(39,Sl (At bz 0) n n),(40,I (k:Int))] (fun X=>?_)
 exact Vh (b:=bz) (off:=0) (len:=n) (cap:=n) 41 6 (some (I (k:Int))) none k n (.inr ⟨_,rfl⟩) (.inl ⟨rfl,rfl⟩) J8 J8 J8 Jp
 refine Jt 6 44 (Sl (At bz 0) k n) [(42,Sl (At bz 0) n n),(43,I (k:Int))] (fun X=>?_)
 exact JbV (b:=bz) (off:=0) (len:=n) (cap:=n) 44 6 (some (I (k:Int))) k (.inr ⟨_,rfl⟩) J8 Jp
 refine JC 7 [(41,Sl (At bz (0+k*6)) (n-k) (n-k)),(44,Sl (At bz 0) k n)] (fun X=>?_)
 refine VI (b:=bz) (off:=0) (p:=k*6) (nd:=n-k) (cd:=n-k) (bs:=bz) (os:=0) (ns:=k) (cs:=n) (F:=F) 45 0 6 (F.take (Hf k (n-k)*6)) (hI.xlen (Z2 _ _).1) (by have q_:(F.take (Hf k (n-k)*6)).length=Hf k (n-k)*6:=hI.xlen (Z2 _ _).1;have q1_:F.length=n*6:=hI.len;have q2_:=Z2 k (n-k);omega) (hI.one (Z2 _ _).1 h1x) (Jlk 0 rfl) ?_
 have e1:Hh.wrap ((k:Int)+((Hf k (n-k):Nat):Int))=((k+Hf k (n-k):Nat):Int):=(Hu _ (by (have q_:=Z2 k (n-k);have q2_:=hI.le;omega))).trans (show (k:Int)+((Hf k (n-k):Nat):Int)=((k+Hf k (n-k):Nat):Int) from (Int.natCast_add _ _).symm)
 refine JD [(7,I ((Hf k (n-k):Nat):Int)),(8,I ((k+Hf k (n-k):Nat):Int)),(9,I ((k+Hf k (n-k):Nat):Int))] (Km [1,2,3,4,5,6] [(0,0),(9,0)] [8] [(7,Sl (At bz 0) n n),(8,I ((k+Hf k (n-k):Nat):Int))] (Ki ?_ K8) ?_)
 refine Jt 8 46 (I ((k+Hf k (n-k):Nat):Int)) [(38,I (k:Int)),(45,I ((Hf k (n-k):Nat):Int))] (fun X=>?_)
 exact KV 46 (I (Hh.wrap ((k:Int)+((Hf k (n-k):Nat):Int)))) (I ((k+Hf k (n-k):Nat):Int)) (by simp only [e1]) Jp
 exact JN (Qi (k+Hf k (n-k),(QP F (k*6) (F.take (Hf k (n-k)*6)))) (hI.next (Z2 _ _).1 (by (try dsimp only);have q_:=Z2 k (n-k);have q2_:=hI.le;omega)) (by (try dsimp only);have q_:=hI.pos;have q2_:=Z2 k (n-k);omega))
 refine KW (JY (J9 (JT (Jb (Jg [0,0] [(4,Sl (At bz 0) n n)] (Jn ?_))))))
 have hrw:=hI.row (E:=Wg) (G:=G) (x:=p) (b:=bz) (by omega) h_p (by omega)
 refine Jdt 4 (Sl (At bz 0) ((Hb n p).length) n) (show (Sl (At bz 0) n n:Value)=Sl (At bz 0) ((Hb n p).length) n by simp only [Hl]) (Jk 0 ?_)
 have hf1:Hb n p=(Hb n p):=by
  rfl
 refine Jo [0] [Sl (At bz 0) ((Hb n p).length) n] (JA [[Sg bz 0 F]] (Jh _) ?_)
 rw [hf1]
 try dsimp only
 exact ⟨(At bz 0),n,([Sg bz 0 F]),rfl,hrw,rfl⟩
def Jll (s:Kv):JU:=WS (J3 s.most s.batch s.every).1.heads
def JbR (s:Kv) (i:Nat):JH:=⟨⟨(J3 s.most s.batch s.every).1,(ZQ s (Jll s)).take i,[],⟨0,[]⟩⟩,s.reach,[],[]⟩
theorem Jgk {s:Kv} {h:JU} {i:Nat} {n:List UInt8} {k:Int} (hn:s.names[i]? = some n) (hk:s.keys[i]? = some k):(ZQ s h).take i++[(Kg n k h).1]=(ZQ s h).take (i+1):=by
 have:(ZQ s h)[i]? = some (Kg n k h).1:=by
  have hz:(s.names.zip s.keys)[i]? = some (n,k):=List.getElem?_zip_eq_some.2 ⟨hn,hk⟩
  unfold ZQ
  rw [List.getElem?_map,hz];rfl
 rw [List.take_add_one,this];rfl
theorem Ji6 {s:Kv} {bt:JH} {i:Nat} {n:List UInt8} {k:Int} {x:JU} (hB:bt=JbR s i) (hn:s.names[i]? = some n) (hk:s.keys[i]? = some k) (hx:(J3 s.most s.batch s.every).1.heads[0]? = some x) :
  (⟨⟨bt.town.clerk,bt.town.owners++[(Kg n k x).1],bt.town.polls,bt.town.net⟩,bt.reach,bt.fates,bt.events⟩:JH)=JbR s (i+1):=by
 subst hB
 have e:=WT hx
 subst e
 unfold JbR
 simp only
 congr 2
 exact Jgk hn hk
theorem Jog {s:Kv} {i:Nat} {n:List UInt8} (hN:nmE (s.names.take i) (s.names.drop i)=nmE [] s.names) (hn:s.names[i]? = some n) (h1:KJ n=true) (h2:((s.names.take i).any fun x=>decide (n=x))=false):nmE (s.names.take (i+1)) (s.names.drop (i+1))=nmE [] s.names:=by
 have hl:=(Hq.1 hn)
 rw [← hN,Hr hl.1,hl.2]
 show _=if _ then _ else _
 rw [if_neg (by rw [h1,h2];simp),List.take_add_one,hn];rfl
theorem Jlm {s:Kv} {i:Nat} {n:List UInt8} (hN:nmE (s.names.take i) (s.names.drop i)=nmE [] s.names) (hn:s.names[i]? = some n) (h:KJ n=false∨((s.names.take i).any fun x=>decide (n=x))=true):nmE [] s.names=3:=by
 have hl:=(Hq.1 hn)
 rw [← hN,Hr hl.1,hl.2]
 show (if _ then _ else _)=_
 rw [if_pos h]
theorem JhL {s:Kv} (h:¬ (J3 s.most s.batch s.every).2=0):Qo s=(J3 s.most s.batch s.every).2∧¬ (J3 s.most s.batch s.every).2=0:=⟨by unfold Qo;rw [if_pos h],h⟩
theorem Ji7 {s:Kv} (h:(J3 s.most s.batch s.every).2=0) (h1:s.names.length > 4):Qo s=2∧¬ (2:Int)=0:=⟨by unfold Qo;rw [if_neg (by omega),if_pos h1],by decide⟩
theorem Ji8 {s:Kv} (h:(J3 s.most s.batch s.every).2=0) (h1:¬ s.names.length > 4) (h2:¬ s.keys.length=s.names.length):Qo s=3∧¬ (3:Int)=0:=⟨by unfold Qo;rw [if_neg (by omega),if_neg h1,if_pos h2],by decide⟩
theorem Jev {s:Kv} (h:(J3 s.most s.batch s.every).2=0) (h1:¬ s.names.length > 4) (h2:s.keys.length=s.names.length) (h3:nmE [] s.names=3):Qo s=3∧¬ (3:Int)=0:=⟨by unfold Qo;rw [if_neg (by omega),if_neg h1,if_neg (by omega),if_pos (by omega),h3],by decide⟩
theorem JfL {s:Kv} {i:Nat} (hN:nmE (s.names.take i) (s.names.drop i)=nmE [] s.names) (hi:s.names.length≤i):nmE [] s.names=0:=by rw [← hN,List.drop_of_length_le hi];unfold nmE;rfl
theorem Ji9 {s:Kv} (h:(J3 s.most s.batch s.every).2=0) (h1:¬ s.names.length > 4) (h2:s.keys.length=s.names.length) (h3:nmE [] s.names=0) (h4:¬ (KQ s.least s.top s.lost).2=0):Qo s=(KQ s.least s.top s.lost).2∧¬ (KQ s.least s.top s.lost).2=0:=⟨by unfold Qo;rw [if_neg (by omega),if_neg h1,if_neg (by omega),if_neg (by omega),if_pos h4],h4⟩
theorem JhM {s:Kv} (h:(J3 s.most s.batch s.every).2=0) (h1:¬ s.names.length > 4) (h2:s.keys.length=s.names.length) (h3:nmE [] s.names=0) (h4:(KQ s.least s.top s.lost).2=0) (h5:s.reach<1∨s.reach > 40):Qo s=4∧¬ (4:Int)=0:=⟨by unfold Qo;rw [if_neg (by omega),if_neg h1,if_neg (by omega),if_neg (by omega),if_neg (by omega),if_pos h5],by decide⟩
theorem Jms {s:Kv} (h:(J3 s.most s.batch s.every).2=0) (h1:¬ s.names.length > 4) (h2:s.keys.length=s.names.length) (h3:nmE [] s.names=0) (h4:(KQ s.least s.top s.lost).2=0) (h5:¬ (s.reach<1∨s.reach > 40)):Qo s=0:=by unfold Qo;rw [if_neg (by omega),if_neg h1,if_neg (by omega),if_neg (by omega),if_neg (by omega),if_neg h5]
theorem Jmt {s:Kv} {bt:JH} {i:Nat} (hB:bt=JbR s i) (hi:s.names.length≤i):Qw s=(⟨⟨bt.town.clerk,bt.town.owners,Hb bt.town.owners.length (KQ s.least s.top s.lost).1,bt.town.net⟩,bt.reach,bt.fates,bt.events⟩:JH):=by
 subst hB
 have hl:(ZQ s (Jll s)).length≤i:=by unfold ZQ;rw [List.length_map,List.length_zip];omega
 unfold JbR Qw Jll
 unfold Jll at hl
 simp only
 rw [Hs hl]
theorem JhN {s:Kv} (h:(J3 s.most s.batch s.every).2=0):(J3 s.most s.batch s.every).1.heads.length=1:=(JbN h).2.2.2.2
theorem JcF {s:Kv} {bt:JH} {i:Nat} (hB:bt=JbR s i):bt.town.owners.length≤s.names.length:=by
 subst hB
 unfold JbR ZQ
 simp only [List.length_take,List.length_map,List.length_zip];omega
theorem JgT (a b c:Int):JgS (KQ a b c).1:=by
 by_cases h:(KQ a b c).2=0
 ·
  obtain ⟨q1,q2⟩:=JfD h
  rw [q2];exact .ok q1
 · rw [JiS h];exact JhJ
set_option maxRecDepth 20000 in
set_option maxHeartbeats 1600000 in
theorem JgU (G:J4) (vs_s:List Value) (s:Kv) (h_s:JdF.R G vs_s s):Vp Tryz.prog 34 #[.agg vs_s.toArray] G [] (fun u G' L'=>(¬ Qo s=0∧u=.tuple #[.pointer none,I (Qo s)]∧L'=[])∨(Qo s=0∧∃ (b:Nat) (a_1:Option Addr) (c_1:Nat) (a_5:Option Addr) (c_5:Nat) (a_6:Option Addr) (c_6:Nat) (a_7:Option Addr) (c_7:Nat) (a_8:Option Addr) (c_8:Nat) (a_10:Option Addr) (c_10:Nat) (a_12:Option Addr) (c_12:Nat) (a_13:Option Addr) (c_13:Nat) (r_7:List Kh) (r_8:List Kh) (r_12:List Kh) (r_13:List Kh),u=.tuple #[Pt b 0,I 0]∧(rI ((Qw s).town.clerk.queue.most))∧(RS QW G' a_1 c_1 ((Qw s).town.clerk.queue.wait))∧(rI ((Qw s).town.clerk.batch))∧(rI ((Qw s).town.clerk.every))∧(rI ((Qw s).town.clerk.now))∧(RS KA G' a_5 c_5 ((Qw s).town.clerk.heads))∧(RS Qk G' a_6 c_6 ((Qw s).town.clerk.books))∧(J1 QB G' a_7 c_7 ((Qw s).town.owners) r_7)∧(J1 Wg G' a_8 c_8 ((Qw s).town.polls) r_8)∧(rI ((Qw s).town.net.now))∧(RS Ke G' a_10 c_10 ((Qw s).town.net.way))∧(rI ((Qw s).reach))∧(J1 Vd G' a_12 c_12 ((Qw s).fates) r_12)∧(J1 QU G' a_13 c_13 ((Qw s).events) r_13)∧L'=[[Sg b 0 [I ((Qw s).town.clerk.queue.most),Sl a_1 (((Qw s).town.clerk.queue.wait).length) c_1,I ((Qw s).town.clerk.batch),I ((Qw s).town.clerk.every),I ((Qw s).town.clerk.now),Sl a_5 (((Qw s).town.clerk.heads).length) c_5,Sl a_6 (((Qw s).town.clerk.books).length) c_6,Sl a_7 (((Qw s).town.owners).length) c_7,Sl a_8 (((Qw s).town.polls).length) c_8,I ((Qw s).town.net.now),Sl a_10 (((Qw s).town.net.way).length) c_10,I ((Qw s).reach),Sl a_12 (((Qw s).fates).length) c_12,Sl a_13 (((Qw s).events).length) c_13]],r_7,r_8,r_12,r_13])):=by
 obtain ⟨a1,c1,a2,c2,rfl,hs1,hs2,w1,w2,w3,w4,w5,w6,w7⟩:=h_s
 refine JR Tryz.func34 130 [(0,(Yz s a1 c1 a2 c2))] rfl (fun w0 G0=>?_)
 refine Jf (Jd (Jv 1 #[Sl a1 s.names.length c1,Sl a2 s.keys.length c2,I s.most,I s.batch,I s.every,I s.least,I s.top,I s.lost,I s.reach] 72 (fun b1=>Jc [0,0] [] (Je (Jb (Jf (Jd (Jc [0,2,0,2,0,2] [(14,I s.most),(16,I s.batch),(18,I s.every)] (JI 19 (JhD G s.most w1 s.batch w2 s.every w3) (fun v G1 L1 hl1 hp=>?_))))))))))
 obtain ⟨a3,c3,a4,c4,a5,c5,rfl,w8,hs3,w9,w10,w11,hs4,hs5,rfl⟩:=hp
 refine Jc [0,0,0] [(20,(Qt (J3 s.most s.batch s.every).1 a3 c3 a4 c4 a5 c5)),(21,I ((J3 s.most s.batch s.every).2))] (Jv 4 #[I 0,Sl none 0 0,I 0,I 0,I 0,Sl none 0 0,Sl none 0 0] 60 (fun b2=>JV [3,0] [(5,I ((J3 s.most s.batch s.every).2))] [[Sg b2 0 (KB (J3 s.most s.batch s.every).1 a3 c3 a4 c4 a5 c5)],[Sg b1 0 (QJ s a1 c1 a2 c2)]] (Je (Jb (Jf (Jg [0,0] [(23,Bo (!decide ((J3 s.most s.batch s.every).2=0)))] (Jl (!decide ((J3 s.most s.batch s.every).2=0)) (fun h1=>?_) (fun h1=>?_))))))))
 refine Jg [0,0,0] [(2,.pointer none),(3,I ((J3 s.most s.batch s.every).2))] (Jn (Jj ?_))
 have hf1:Qo s=(J3 s.most s.batch s.every).2∧¬ ((J3 s.most s.batch s.every).2)=0:=by
  exact JhL ‹_›
 refine Jo [0,0] [.pointer none,I ((J3 s.most s.batch s.every).2)] (JA [] hl1 ?_)
 rw [← hf1.1];exact .inl ⟨by rw [hf1.1];exact hf1.2,rfl,rfl⟩
 refine Jq (Jb (Jf (Jy (Jg [0,4,0,0,0] [(25,Bo (decide ((s.names.length:Int) > 4)))] (Jl (decide ((s.names.length:Int) > 4)) (fun h2=>?_) (fun h2=>?_))))))
 refine Jg [0,0] [(2,.pointer none),(3,I 2)] (Jn (Js (Jj ?_)))
 have hf2:Qo s=2∧¬ (2:Int)=0:=by
  exact Ji7 ‹_› (by omega)
 refine Jo [0,0] [.pointer none,I 2] (JA [] hl1 ?_)
 rw [← hf2.1];exact .inl ⟨by rw [hf2.1];exact hf2.2,rfl,rfl⟩
 refine Jg [0,4,0,0,4,0,0,0] [(30,Bo (!decide ((s.keys.length:Int)=(s.names.length:Int))))] (Jl (!decide ((s.keys.length:Int)=(s.names.length:Int))) (fun h3=>?_) (fun h3=>?_))
 refine Jg [0,0] [(2,.pointer none),(3,I 3)] (Jn (Js (Jj ?_)))
 have hf3:Qo s=3∧¬ (3:Int)=0:=by
  exact Ji8 ‹_› J8 (by omega)
 refine Jo [0,0] [.pointer none,I 3] (JA [] hl1 ?_)
 rw [← hf3.1];exact .inl ⟨by rw [hf3.1];exact hf3.2,rfl,rfl⟩
 refine Jq (JN (Jb (Jf (Jd (Jc [0,4,0] [(40,.agg #[I 0,Sl none 0 0,I 0,I 0,I 0,Sl none 0 0,Sl none 0 0,Sl none 0 0,Sl none 0 0,I 0,Sl none 0 0,I s.reach,Sl none 0 0,Sl none 0 0])] (Jv 41 #[I 0,Sl none 0 0,I 0,I 0,I 0,Sl none 0 0,Sl none 0 0,Sl none 0 0,Sl none 0 0,I 0,Sl none 0 0,I s.reach,Sl none 0 0,Sl none 0 0] 107 (fun b3=>Jc [0] [(6,Pt b3 0)] (Je (Jb (QA [0,4,0,0,0,3] [] [[Sg b3 0 [I (((J3 s.most s.batch s.every).1).queue.most),Sl a3 ((((J3 s.most s.batch s.every).1).queue.wait).length) c3,I (((J3 s.most s.batch s.every).1).batch),I (((J3 s.most s.batch s.every).1).every),I (((J3 s.most s.batch s.every).1).now),Sl a4 ((((J3 s.most s.batch s.every).1).heads).length) c4,Sl a5 ((((J3 s.most s.batch s.every).1).books).length) c5,Sl none 0 0,Sl none 0 0,I 0,Sl none 0 0,I s.reach,Sl none 0 0,Sl none 0 0]],[Sg b2 0 (KB (J3 s.most s.batch s.every).1 a3 c3 a4 c4 a5 c5)],[Sg b1 0 (QJ s a1 c1 a2 c2)]] (Jf (Jg [0,6,0,0] [(48,Sl a1 s.names.length c1),(49,I (s.names.length:Int)),(50,I 0)] (Jy (Yk (Yk (Yk (Yk ?_)))))))))))))))))
 have hlm_hs1:s.names.length≤9223372036854775807:=Hp (hs1).le (hs1).max
 refine Qh (σ:=Nat×JH×Option Addr×Nat×Option Addr×Nat×Option Addr×Nat×Option Addr×Nat×List Kh×Option Addr×Nat×List Kh×Option Addr×Nat×Option Addr×Nat×List Kh×Option Addr×Nat×List Kh×J4) (fun q_=>(J4.le G1 q_.2.2.2.2.2.2.2.2.2.2.2.2.2.2.2.2.2.2.2.2.2.2)∧(q_.1≤s.names.length)∧(RS QW q_.2.2.2.2.2.2.2.2.2.2.2.2.2.2.2.2.2.2.2.2.2.2 q_.2.2.1 q_.2.2.2.1 q_.2.1.town.clerk.queue.wait)∧(RS KA q_.2.2.2.2.2.2.2.2.2.2.2.2.2.2.2.2.2.2.2.2.2.2 q_.2.2.2.2.1 q_.2.2.2.2.2.1 q_.2.1.town.clerk.heads)∧(RS Qk q_.2.2.2.2.2.2.2.2.2.2.2.2.2.2.2.2.2.2.2.2.2.2 q_.2.2.2.2.2.2.1 q_.2.2.2.2.2.2.2.1 q_.2.1.town.clerk.books)∧(J1 QB q_.2.2.2.2.2.2.2.2.2.2.2.2.2.2.2.2.2.2.2.2.2.2 q_.2.2.2.2.2.2.2.2.1 q_.2.2.2.2.2.2.2.2.2.1 q_.2.1.town.owners q_.2.2.2.2.2.2.2.2.2.2.1)∧(J1 Wg q_.2.2.2.2.2.2.2.2.2.2.2.2.2.2.2.2.2.2.2.2.2.2 q_.2.2.2.2.2.2.2.2.2.2.2.1 q_.2.2.2.2.2.2.2.2.2.2.2.2.1 q_.2.1.town.polls q_.2.2.2.2.2.2.2.2.2.2.2.2.2.1)∧(RS Ke q_.2.2.2.2.2.2.2.2.2.2.2.2.2.2.2.2.2.2.2.2.2.2 q_.2.2.2.2.2.2.2.2.2.2.2.2.2.2.1 q_.2.2.2.2.2.2.2.2.2.2.2.2.2.2.2.1 q_.2.1.town.net.way)∧(J1 Vd q_.2.2.2.2.2.2.2.2.2.2.2.2.2.2.2.2.2.2.2.2.2.2 q_.2.2.2.2.2.2.2.2.2.2.2.2.2.2.2.2.1 q_.2.2.2.2.2.2.2.2.2.2.2.2.2.2.2.2.2.1 q_.2.1.fates q_.2.2.2.2.2.2.2.2.2.2.2.2.2.2.2.2.2.2.1)∧(J1 QU q_.2.2.2.2.2.2.2.2.2.2.2.2.2.2.2.2.2.2.2.2.2.2 q_.2.2.2.2.2.2.2.2.2.2.2.2.2.2.2.2.2.2.2.1 q_.2.2.2.2.2.2.2.2.2.2.2.2.2.2.2.2.2.2.2.2.1 q_.2.1.events q_.2.2.2.2.2.2.2.2.2.2.2.2.2.2.2.2.2.2.2.2.2.1)∧(rI q_.2.1.town.clerk.queue.most)∧(rI q_.2.1.town.clerk.batch)∧(rI q_.2.1.town.clerk.every)∧(rI q_.2.1.town.clerk.now)∧(rI q_.2.1.town.net.now)∧(rI q_.2.1.reach)∧(q_.2.1=JbR s q_.1)∧(nmE (s.names.take q_.1) (s.names.drop q_.1)=nmE [] s.names)) (fun q_=>[(1,Pt b1 0),(4,Pt b2 0),(6,Pt b3 0),(48,Sl a1 s.names.length c1),(49,I (s.names.length:Int)),(50,I (q_.1:Int))]) (fun q_=>q_.2.2.2.2.2.2.2.2.2.2.2.2.2.2.2.2.2.2.2.2.2.2) (fun q_=>[q_.2.2.2.2.2.2.2.2.2.2.2.2.2.2.2.2.2.2.2.2.2.1,q_.2.2.2.2.2.2.2.2.2.2.2.2.2.2.2.2.2.2.1,q_.2.2.2.2.2.2.2.2.2.2.2.2.2.1,q_.2.2.2.2.2.2.2.2.2.2.1,[Sg b3 0 (J7 q_.2.1 q_.2.2.1 q_.2.2.2.1 q_.2.2.2.2.1 q_.2.2.2.2.2.1 q_.2.2.2.2.2.2.1 q_.2.2.2.2.2.2.2.1 q_.2.2.2.2.2.2.2.2.1 q_.2.2.2.2.2.2.2.2.2.1 q_.2.2.2.2.2.2.2.2.2.2.2.1 q_.2.2.2.2.2.2.2.2.2.2.2.2.1 q_.2.2.2.2.2.2.2.2.2.2.2.2.2.2.1 q_.2.2.2.2.2.2.2.2.2.2.2.2.2.2.2.1 q_.2.2.2.2.2.2.2.2.2.2.2.2.2.2.2.2.1 q_.2.2.2.2.2.2.2.2.2.2.2.2.2.2.2.2.2.1 q_.2.2.2.2.2.2.2.2.2.2.2.2.2.2.2.2.2.2.2.1 q_.2.2.2.2.2.2.2.2.2.2.2.2.2.2.2.2.2.2.2.2.1)],[Sg b2 0 (KB (J3 s.most s.batch s.every).1 a3 c3 a4 c4 a5 c5)],[Sg b1 0 (QJ s a1 c1 a2 c2)]]) (fun q_=>s.names.length-q_.1) (0,(⟨(⟨((J3 s.most s.batch s.every).1),([]:List K9),([]:List Wb),(⟨0,[]⟩:Yx)⟩:Q8),s.reach,([]:List (List Int)),([]:List VR)⟩:JH),a3,c3,a4,c4,a5,c5,none,0,[],none,0,[],none,0,none,0,[],none,0,[],G1) ⟨(Jh _),(by (try dsimp only);exact Ht _),hs3,hs4,hs5,(J1.none QB _),(J1.none Wg _),(JP Ke G1),(J1.none Vd _),(J1.none QU _),w8,w9,w10,w11,(by (try dsimp only);omega),w7,(by (try dsimp only);rfl),rfl⟩ (fun q_ hs=>?_)
 obtain ⟨i,bt,abt0,cbt0,abt1,cbt1,abt2,cbt2,abt3,cbt3,rbt7,abt4,cbt4,rbt8,abt5,cbt5,abt6,cbt6,rbt12,abt7,cbt7,rbt13,g⟩:=q_
 obtain ⟨hle,hi,hbt1,hbt5,hbt6,hbt7,hbt8,hbt10,hbt12,hbt13,hbt0,hbt2,hbt3,hbt4,hbt9,hbt11,hB,hN⟩:=hs
 dsimp only at hle hi hbt1 hbt5 hbt6 hbt7 hbt8 hbt10 hbt12 hbt13 hbt0 hbt2 hbt3 hbt4 hbt9 hbt11 hB hN
 dsimp only
 refine Jg [0] [(51,Bo (decide ((i:Int)<(s.names.length:Int))))] (Jf (Jl (decide ((i:Int)<(s.names.length:Int))) (fun h4=>?_) (fun h4=>?_)))
 refine Jq (Jb (Jf (Jy (Jf (Jd (Jc [0] [(52,I (i:Int))] ?_))))))
 obtain ⟨b4,o1,rfl⟩:=RS.addr (hs1.mono (Ja hl1 hle)) (k:=i) (by omega)
 obtain ⟨x1,hx1⟩:=Wf (l:=s.names) (k:=i) (by omega)
 obtain ⟨_,⟨rfl,w12⟩,hc1⟩:=RS.get (hs1.mono (Ja hl1 hle)) hx1
 refine J5 (b:=b4) (off:=o1) (len:=s.names.length) (cap:=c1) (ik:=.i64) 53 9 1 i J8 (JZ 54 9 (cs:=[Sr x1]) 0 (Sr x1) hc1 (Jc [0,0] [(7,I (i:Int)),(8,Sr x1)] (Je (Jb (Jf (Jf (Jd (Jc [0] [(55,Sr x1)] (Jm 56 (Bo (KJ x1)) (ZN g x1) (Jc [0,0] [(58,Bo (!(KJ x1)))] (QY [58] (!(KJ x1)) (fun h5=>?_) (fun h5=>?_))))))))))))
 refine Jc [1,1,1,1,1,1,0] [(65,Bo true)] (Je (Jb (JW (Jg [0,0] [(2,.pointer none),(3,I 3)] (Jn (Jj (Js (Jj (Qj (Js (Jj ?_)))))))))))
 have hf4:Qo s=3∧¬ (3:Int)=0:=by
  exact Jev ‹_› J8 J8 (Jlm hN ‹_› (.inl ‹_›))
 refine Jo [0,0] [.pointer none,I 3] (JA [] (Ja hl1 hle) ?_)
 rw [← hf4.1];exact .inl ⟨by rw [hf4.1];exact hf4.2,rfl,rfl⟩
 refine Jc [0,14,0] [(60,Sl (At b4 o1) s.names.length c1),(61,I (i:Int))] ?_
 obtain ⟨a6,c6,ea1,ec1,en1,eh1,hs6⟩:=RS.reslXT (hs1.mono (Ja hl1 hle)) i (by omega)
 refine Wz (a:=At b4 o1) (len:=s.names.length) (cap:=c1) 62 1 none (some (I (i:Int))) 0 i (.inl ⟨rfl,rfl⟩) (.inr ⟨_,rfl⟩) (by exact Ht _) ea1 ec1 en1 eh1 (Jc [0] [(63,Sr x1)] (Jm 64 (Bo ((s.names.take i).any (fun x=>decide (x1=x)))) (JkX g a6 c6 (s.names.take i) hs6 x1) (Jc [0] [(65,Bo ((s.names.take i).any (fun x=>decide (x1=x))))] (Je (Jb (Jl ((s.names.take i).any (fun x=>decide (x1=x))) (fun h6=>?_) (fun h6=>?_)))))))
 refine Jg [0,0] [(2,.pointer none),(3,I 3)] (Jn (Jj (Js (Jj (Qj (Js (Jj ?_)))))))
 have hf5:Qo s=3∧¬ (3:Int)=0:=by
  exact Jev ‹_› J8 J8 (Jlm hN ‹_› (.inr ‹_›))
 refine Jo [0,0] [.pointer none,I 3] (JA [] (Ja hl1 hle) ?_)
 rw [← hf5.1];exact .inl ⟨by rw [hf5.1];exact hf5.2,rfl,rfl⟩
 refine Jq (Jb ?_)
 obtain ⟨b5,o2,rfl⟩:=RS.addr (hs2.mono (Ja hl1 hle)) (k:=i) (by omega)
 obtain ⟨x2,hx2⟩:=Wf (l:=s.keys) (k:=i) (by omega)
 obtain ⟨_,⟨rfl,w13⟩,hc2⟩:=RS.get (hs2.mono (Ja hl1 hle)) hx2
 obtain ⟨b6,o3,rfl⟩:=RS.addr (hs4.mono hle) (k:=0) (by (have q_:=JhN ‹_›;omega))
 obtain ⟨x3,hx3⟩:=Wf (l:=((J3 s.most s.batch s.every).1).heads) (k:=0) (by (have q_:=JhN ‹_›;omega))
 obtain ⟨_,⟨rfl,w14,w15,w16,w17⟩,hc3⟩:=RS.get (hs4.mono hle) hx3
 refine Yv (σ:=Nat×(Option Addr)×Nat×J4) (fun q_=>(J4.le g q_.2.2.2)∧((((Kg x1 x2 x3).1).name).length≤140737488351232)∧(rU (((Kg x1 x2 x3).1).key))∧(rI (((Kg x1 x2 x3).1).head.epoch))∧(rU (((Kg x1 x2 x3).1).head.root))∧(rU (((Kg x1 x2 x3).1).head.prev))∧(rI (((Kg x1 x2 x3).1).head.at_))∧(RS ES q_.2.2.2 q_.2.1 q_.2.2.1 (((Kg x1 x2 x3).1).wanted))∧(rI (((Kg x1 x2 x3).1).had))∧(RS QW q_.2.2.2 abt0 cbt0 bt.town.clerk.queue.wait)∧(rI bt.town.clerk.batch)∧(rI bt.town.clerk.every)∧(rI bt.town.clerk.now)∧(RS KA q_.2.2.2 abt1 cbt1 bt.town.clerk.heads)∧(RS Qk q_.2.2.2 abt2 cbt2 bt.town.clerk.books)∧(J1 QB q_.2.2.2 abt3 cbt3 bt.town.owners rbt7)∧(J1 Wg q_.2.2.2 abt4 cbt4 bt.town.polls rbt8)∧(rI bt.town.net.now)∧(RS Ke q_.2.2.2 abt5 cbt5 bt.town.net.way)∧(rI bt.reach)∧(J1 Vd q_.2.2.2 abt6 cbt6 bt.fates rbt12)∧(J1 QU q_.2.2.2 abt7 cbt7 bt.events rbt13)) (fun q_=>[(1,Pt b1 0),(4,Pt b2 0),(6,Pt b3 0),(9,Pt q_.1 0),(48,Sl (At b4 o1) s.names.length c1),(49,I (s.names.length:Int)),(50,I (i:Int))]) (fun q_=>q_.2.2.2) (fun q_=>[[Sg q_.1 0 (KH (Kg x1 x2 x3).1 q_.2.1 q_.2.2.1)],rbt13,rbt12,rbt8,rbt7,[Sg b3 0 (J7 bt abt0 cbt0 abt1 cbt1 abt2 cbt2 abt3 cbt3 abt4 cbt4 abt5 cbt5 abt6 cbt6 abt7 cbt7)],[Sg b2 0 (KB (J3 s.most s.batch s.every).1 a3 c3 (At b6 o3) c4 a5 c5)],[Sg b1 0 (QJ s (At b4 o1) c1 (At b5 o2) c2)]]) ?_ (fun q_ hs=>?_)
 refine Kp [10,14,15] (Wl [(0,Sr x1),(1,Pt b1 1),(2,Sl (At b5 o2) s.keys.length c2),(3,I (i:Int)),(4,Pt b5 (o2+i*1)),(5,U x2),(6,Pt b2 5),(7,Sl (At b6 o3) ((((J3 s.most s.batch s.every).1).heads).length) c4),(8,Pt b6 (o3+0*4)),(9,.agg #[I x3.epoch,U x3.root,U x3.prev,I x3.at_])] (JK [] [(0,0),(1,0),(2,14),(3,0),(6,0),(7,12)] [4,5,8,9] [10,14] (Ki ?_ (Ki ?_ (Ki ?_ (Ki ?_ K8)))) (Ki ?_ (Ki ?_ K8))))
 refine Jt 4 71 (Pt b5 (o2+i*1)) [(69,Sl (At b5 o2) s.keys.length c2),(70,I (i:Int))] (fun X=>?_)
 exact J5 (b:=b5) (off:=o2) (len:=s.keys.length) (cap:=c2) (ik:=.i64) 71 41 1 i J8 Jp
 refine Jt 5 72 (U x2) [(71,Pt b5 (o2+i*1))] (fun X=>?_)
 exact JZ 72 41 (cs:=[U x2]) 0 (U x2) hc2 Jp
 refine Jt 8 75 (Pt b6 (o3+0*4)) [(74,Sl (At b6 o3) ((((J3 s.most s.batch s.every).1).heads).length) c4)] (fun X=>?_)
 exact J5 (b:=b6) (off:=o3) (len:=(((J3 s.most s.batch s.every).1).heads).length) (cap:=c4) (ik:=.i64) 75 43 4 0 (by (have q_:=JhN ‹_›;omega)) Jp
 refine Jt 9 76 (.agg #[I x3.epoch,U x3.root,U x3.prev,I x3.at_]) [(75,Pt b6 (o3+0*4))] (fun X=>?_)
 exact JZ 76 43 (cs:=[I x3.epoch,U x3.root,U x3.prev,I x3.at_]) 0 (.agg #[I x3.epoch,U x3.root,U x3.prev,I x3.at_]) hc3 Jp
 refine JC 10 [(67,Sr x1),(72,U x2),(76,.agg #[I x3.epoch,U x3.root,U x3.prev,I x3.at_])] (fun X=>?_)
 refine JI 77 (Jda g x1 w12 x2 w13 [I x3.epoch,U x3.root,U x3.prev,I x3.at_] x3 (⟨rfl,w14,w15,w16,w17⟩)) (fun v G2 L1 hl2 hp=>?_)
 obtain ⟨a7,c7,rfl,w18,w19,w20,w21,w22,w23,hs7,w24,rfl⟩:=hp
 refine JD [(10,.tuple #[(Ky (Kg x1 x2 x3).1 a7 c7),I ((Kg x1 x2 x3).2)]),(11,.tuple #[(Ky (Kg x1 x2 x3).1 a7 c7),I ((Kg x1 x2 x3).2)]),(12,(Ky (Kg x1 x2 x3).1 a7 c7)),(13,I ((Kg x1 x2 x3).2))] (JK [0,1,2,3,4,5,6,7,8,9] [(11,0),(12,0),(13,0)] [] [14] (Ha _) (Ki ?_ K8))
 refine JC 14 [] (fun X=>?_)
 refine Jv 9 #[Sr ([]),U 0,I 0,U 0,U 0,I 0,Sl none 0 0,I 0] 76 (fun b7=>JD [(14,Pt b7 0)] (JK [0,1,2,3,4,5,6,7,8,9] [(11,0),(12,0),(13,0)] [] [15] (Ha _) (Ki ?_ K8)))
 refine JC 15 [(9,Pt b7 0),(78,(Ky (Kg x1 x2 x3).1 a7 c7))] (fun X=>?_)
 exact KN 0 [[Sg b7 0 (KH (Kg x1 x2 x3).1 a7 c7)],rbt13,rbt12,rbt8,rbt7,[Sg b3 0 (J7 bt abt0 cbt0 abt1 cbt1 abt2 cbt2 abt3 cbt3 abt4 cbt4 abt5 cbt5 abt6 cbt6 abt7 cbt7)],[Sg b2 0 (KB (J3 s.most s.batch s.every).1 a3 c3 (At b6 o3) c4 a5 c5)],[Sg b1 0 (QJ s (At b4 o1) c1 (At b5 o2) c2)]] (Ka [(16,I ((Kg x1 x2 x3).2))] (Km [0,1,2,3,4,5,6,7,8,9,11,12] [(13,0),(16,0)] [] [(1,Pt b1 0),(4,Pt b2 0),(6,Pt b3 0),(9,Pt b7 0),(48,Sl (At b4 o1) s.names.length c1),(49,I (s.names.length:Int)),(50,I (i:Int))] (Ha _) (Wd (b7,a7,c7,G2) ⟨hl2,w18,w19,w20,w21,w22,w23,hs7,w24,(hbt1.mono hl2),hbt2,hbt3,hbt4,(hbt5.mono hl2),(hbt6.mono hl2),(hbt7.mono hl2),(hbt8.mono hl2),hbt9,(hbt10.mono hl2),hbt11,(hbt12.mono hl2),(hbt13.mono hl2)⟩)))
 refine JC 14 [] (fun X=>?_)
 refine Jv 9 #[Sr ([]),U 0,I 0,U 0,U 0,I 0,Sl none 0 0,I 0] 76 (fun b8=>JD [(14,Pt b8 0)] (JK [] [(0,0),(1,0),(2,16),(3,0),(6,0),(7,14)] [4,5,8,9] [10] (Ki ?_ (Ki ?_ (Ki ?_ (Ki ?_ K8)))) (Ki ?_ K8)))
 refine Jt 4 71 (Pt b5 (o2+i*1)) [(69,Sl (At b5 o2) s.keys.length c2),(70,I (i:Int))] (fun X=>?_)
 exact J5 (b:=b5) (off:=o2) (len:=s.keys.length) (cap:=c2) (ik:=.i64) 71 41 1 i J8 Jp
 refine Jt 5 72 (U x2) [(71,Pt b5 (o2+i*1))] (fun X=>?_)
 exact JZ 72 41 (cs:=[U x2]) 0 (U x2) hc2 Jp
 refine Jt 8 75 (Pt b6 (o3+0*4)) [(74,Sl (At b6 o3) ((((J3 s.most s.batch s.every).1).heads).length) c4)] (fun X=>?_)
 exact J5 (b:=b6) (off:=o3) (len:=(((J3 s.most s.batch s.every).1).heads).length) (cap:=c4) (ik:=.i64) 75 43 4 0 (by (have q_:=JhN ‹_›;omega)) Jp
 refine Jt 9 76 (.agg #[I x3.epoch,U x3.root,U x3.prev,I x3.at_]) [(75,Pt b6 (o3+0*4))] (fun X=>?_)
 exact JZ 76 43 (cs:=[I x3.epoch,U x3.root,U x3.prev,I x3.at_]) 0 (.agg #[I x3.epoch,U x3.root,U x3.prev,I x3.at_]) hc3 Jp
 refine JC 10 [(67,Sr x1),(72,U x2),(76,.agg #[I x3.epoch,U x3.root,U x3.prev,I x3.at_])] (fun X=>?_)
 refine JI 77 (Jda g x1 w12 x2 w13 [I x3.epoch,U x3.root,U x3.prev,I x3.at_] x3 (⟨rfl,w14,w15,w16,w17⟩)) (fun v G3 L1 hl3 hp=>?_)
 obtain ⟨a8,c8,rfl,w25,w26,w27,w28,w29,w30,hs8,w31,rfl⟩:=hp
 refine JD [(10,.tuple #[(Ky (Kg x1 x2 x3).1 a8 c8),I ((Kg x1 x2 x3).2)]),(11,.tuple #[(Ky (Kg x1 x2 x3).1 a8 c8),I ((Kg x1 x2 x3).2)]),(12,(Ky (Kg x1 x2 x3).1 a8 c8)),(13,I ((Kg x1 x2 x3).2))] (JK [0,1,2,3,4,5,6,7,8,9] [(11,0),(12,0),(13,0)] [] [15] (Ha _) (Ki ?_ K8))
 refine JC 15 [(9,Pt b8 0),(78,(Ky (Kg x1 x2 x3).1 a8 c8))] (fun X=>?_)
 exact KN 0 [[Sg b8 0 (KH (Kg x1 x2 x3).1 a8 c8)],rbt13,rbt12,rbt8,rbt7,[Sg b3 0 (J7 bt abt0 cbt0 abt1 cbt1 abt2 cbt2 abt3 cbt3 abt4 cbt4 abt5 cbt5 abt6 cbt6 abt7 cbt7)],[Sg b2 0 (KB (J3 s.most s.batch s.every).1 a3 c3 (At b6 o3) c4 a5 c5)],[Sg b1 0 (QJ s (At b4 o1) c1 (At b5 o2) c2)]] (Ka [(16,I ((Kg x1 x2 x3).2))] (Km [0,1,2,3,4,5,6,7,8,9,11,12] [(13,0),(16,0)] [] [(1,Pt b1 0),(4,Pt b2 0),(6,Pt b3 0),(9,Pt b8 0),(48,Sl (At b4 o1) s.names.length c1),(49,I (s.names.length:Int)),(50,I (i:Int))] (Ha _) (Wd (b8,a8,c8,G3) ⟨hl3,w25,w26,w27,w28,w29,w30,hs8,w31,(hbt1.mono hl3),hbt2,hbt3,hbt4,(hbt5.mono hl3),(hbt6.mono hl3),(hbt7.mono hl3),(hbt8.mono hl3),hbt9,(hbt10.mono hl3),hbt11,(hbt12.mono hl3),(hbt13.mono hl3)⟩)))
 obtain ⟨b7,a7,c7,G2⟩:=q_
 obtain ⟨hle1,hj1,hj2,hj3,hj4,hj5,hj6,hj7,hj8,hj9,hj10,hj11,hj12,hj13,hj14,hj15,hj16,hj17,hj18,hj19,hj20,hj21⟩:=hs
 dsimp only at hle1 hj1 hj2 hj3 hj4 hj5 hj6 hj7 hj8 hj9 hj10 hj11 hj12 hj13 hj14 hj15 hj16 hj17 hj18 hj19 hj20 hj21
 dsimp only
 refine Kp [7,8,12] (Wl [(0,Pt b3 0),(1,Pt b3 0),(2,Pt b3 0),(3,Pt b3 0),(4,Pt b3 7),(5,Sl abt3 bt.town.owners.length cbt3),(6,(Ky (Kg x1 x2 x3).1 a7 c7))] (JK [] [(0,0),(1,0),(2,0),(3,0),(4,0),(5,12),(6,2)] [] [7] (Ha _) (Ki ?_ K8)))
 refine JC 7 [(86,(Ky (Kg x1 x2 x3).1 a7 c7))] (fun X=>?_)
 refine Kt 87 1 #[Sr (((Kg x1 x2 x3).1).name),U (((Kg x1 x2 x3).1).key),I (((Kg x1 x2 x3).1).head.epoch),U (((Kg x1 x2 x3).1).head.root),U (((Kg x1 x2 x3).1).head.prev),I (((Kg x1 x2 x3).1).head.at_),Sl a7 ((((Kg x1 x2 x3).1).wanted).length) c7,I (((Kg x1 x2 x3).1).had)] 76 (fun b9=>JD [(7,Sl (At b9 0) 1 1)] (JK [6] [(0,0),(1,0),(2,0),(3,0),(4,0),(5,14)] [] [8] (Ha _) (Ki ?_ K8)))
 refine JC 8 [(85,Sl abt3 bt.town.owners.length cbt3),(87,Sl (At b9 0) 1 1)] (fun X=>?_)
 refine Qy (b:=b9) (cs:=(KH (Kg x1 x2 x3).1 a7 c7)) 88 76 5 0 (E:=QB) ((Kg x1 x2 x3).1) hj15 ⟨a7,c7,rfl,hj1,hj2,hj3,hj4,hj5,hj6,hj7,hj8⟩ (by (try simp only [QB,He,Hd,Hg]);(have q_:=JcF hB);omega) (by (try simp only [QB,He,Hd,Hg]);(have q_:=JcF hB);omega) (fun a9 c9 r1 hr1=>JD [(8,Sl a9 ((bt.town.owners++[((Kg x1 x2 x3).1)]).length) c9),(9,Pt b3 0),(10,Pt b3 0),(11,Pt b3 7)] (JK [1,2,3,4,5,6] [(0,0),(9,0),(10,0),(11,0)] [] [12] (Ha _) (Ki ?_ K8)))
 refine JC 12 [(88,Sl a9 ((bt.town.owners++[((Kg x1 x2 x3).1)]).length) c9),(91,Pt b3 7)] (fun X=>?_)
 refine KN 6 [[Sg b9 0 (KH (Kg x1 x2 x3).1 a7 c7)],[Sg b7 0 (KH (Kg x1 x2 x3).1 a7 c7)],rbt13,rbt12,rbt8,r1,[Sg b3 0 (J7 (⟨(⟨bt.town.clerk,(bt.town.owners++[((Kg x1 x2 x3).1)]),bt.town.polls,bt.town.net⟩:Q8),bt.reach,bt.fates,bt.events⟩:JH) abt0 cbt0 abt1 cbt1 abt2 cbt2 a9 c9 abt4 cbt4 abt5 cbt5 abt6 cbt6 abt7 cbt7)],[Sg b2 0 (KB (J3 s.most s.batch s.every).1 a3 c3 (At b6 o3) c4 a5 c5)],[Sg b1 0 (QJ s (At b4 o1) c1 (At b5 o2) c2)]] (Ka [] (Km [0,1,2,3,4,5,6,9,10,11] [] [] [(1,Pt b1 0),(4,Pt b2 0),(6,Pt b3 0),(48,Sl (At b4 o1) s.names.length c1),(49,I (s.names.length:Int)),(50,I (i:Int))] (Ha _) (JN (Jb (Jd (Jc [0,0] [(50,I (Hh.wrap ((i:Int)+1)))] (Kr 50 ((i:Int)+1) J8 (Je (Jk 8 (Jk 8 (Jk 8 (Jk 8 ?_))))))))))))
 refine Jk 8 (Jk 8 (Jk 8 ?_))
 exact Qr [rbt13,rbt12,rbt8,r1,[Sg b3 0 (J7 (⟨(⟨bt.town.clerk,(bt.town.owners++[((Kg x1 x2 x3).1)]),bt.town.polls,bt.town.net⟩:Q8),bt.reach,bt.fates,bt.events⟩:JH) abt0 cbt0 abt1 cbt1 abt2 cbt2 a9 c9 abt4 cbt4 abt5 cbt5 abt6 cbt6 abt7 cbt7)],[Sg b2 0 (KB (J3 s.most s.batch s.every).1 a3 c3 (At b6 o3) c4 a5 c5)],[Sg b1 0 (QJ s (At b4 o1) c1 (At b5 o2) c2)]] (Qi (i+1,(⟨(⟨bt.town.clerk,bt.town.owners++[((Kg x1 x2 x3).1)],bt.town.polls,bt.town.net⟩:Q8),bt.reach,bt.fates,bt.events⟩:JH),abt0,cbt0,abt1,cbt1,abt2,cbt2,a9,c9,r1,abt4,cbt4,rbt8,abt5,cbt5,abt6,cbt6,rbt12,abt7,cbt7,rbt13,G2) ⟨(Ja hle hle1),J8,hj9,hj13,hj14,hr1,hj16,hj18,hj20,hj21,‹_›,‹_›,‹_›,‹_›,‹_›,‹_›,(by (try dsimp only);exact Ji6 hB ‹_› ‹_› ‹_›),(by (try dsimp only);exact Jog hN ‹_› ‹_› ‹_›)⟩ (by (try dsimp only);omega))
 refine KW (JY (J9 (JT (Jb (Jf (Jd (Jc [0,14,0,14,0,14] [(95,I s.least),(97,I s.top),(99,I s.lost)] (Jm 100 (.tuple #[(Zv (KQ s.least s.top s.lost).1),I ((KQ s.least s.top s.lost).2)]) (JiU g s.least w4 s.top w5 s.lost w6) (Jc [0,0,0] [(101,(Zv (KQ s.least s.top s.lost).1)),(102,I ((KQ s.least s.top s.lost).2))] (Jv 11 #[I 0,I 0,I 0,I 0,I 0,I 0] 143 (fun b10=>JV [3,0] [(5,I ((KQ s.least s.top s.lost).2))] [[Sg b10 0 (YQ (KQ s.least s.top s.lost).1)],rbt13,rbt12,rbt8,rbt7,[Sg b3 0 (J7 bt abt0 cbt0 abt1 cbt1 abt2 cbt2 abt3 cbt3 abt4 cbt4 abt5 cbt5 abt6 cbt6 abt7 cbt7)],[Sg b2 0 (KB (J3 s.most s.batch s.every).1 a3 c3 a4 c4 a5 c5)],[Sg b1 0 (QJ s a1 c1 a2 c2)]] (Je (Jb (Jf (Jy (Jg [0,0,0] [(103,Bo (!decide ((KQ s.least s.top s.lost).2=0)))] (Jl (!decide ((KQ s.least s.top s.lost).2=0)) (fun h7=>?_) (fun h7=>?_))))))))))))))))))
 refine Jg [0,0,0] [(2,.pointer none),(3,I ((KQ s.least s.top s.lost).2))] (Jn (Js (Jj ?_)))
 have hf6:Qo s=(KQ s.least s.top s.lost).2∧¬ ((KQ s.least s.top s.lost).2)=0:=by
  exact Ji9 ‹_› J8 J8 (JfL hN J8) ‹_›
 refine Jo [0,0] [.pointer none,I ((KQ s.least s.top s.lost).2)] (JA [] (Ja hl1 hle) ?_)
 rw [← hf6.1];exact .inl ⟨by rw [hf6.1];exact hf6.2,rfl,rfl⟩
 refine Jf (Jd (Jc [0,16,0,0] [(111,Bo (decide (s.reach<1)))] (Ks (decide (s.reach<1)) [111] [1,1,1,0] [0,16,0,0] (fun bb=>[(115,Bo (bb || (decide (s.reach > 40))))]) (Jc [0] [(107,Bo ((decide (s.reach<1)) || (decide (s.reach > 40))))] (Je (Jb (Jl ((decide (s.reach<1)) || (decide (s.reach > 40))) (fun h8=>?_) (fun h8=>?_))))))))
 refine Jg [0,0] [(2,.pointer none),(3,I 4)] (Jn (Js (Jj ?_)))
 have hf7:Qo s=4∧¬ (4:Int)=0:=by
  exact JhM ‹_› J8 J8 (JfL hN J8) ‹_› (by omega)
 refine Jo [0,0] [.pointer none,I 4] (JA [] (Ja hl1 hle) ?_)
 rw [← hf7.1];exact .inl ⟨by rw [hf7.1];exact hf7.2,rfl,rfl⟩
 refine Jq (JN (Jb (Jf (Kp [2,9,13] (Wl [(0,Pt b3 0),(1,(Zv (KQ s.least s.top s.lost).1)),(3,Pt b3 0),(4,Pt b3 0),(5,Pt b3 0),(6,Pt b3 7),(7,Sl abt3 bt.town.owners.length cbt3),(8,I (bt.town.owners.length:Int))] (JK [] [(0,0),(1,2),(3,0),(4,0),(5,0),(6,0),(7,12),(8,0)] [] [2] (Ha _) (Ki ?_ K8)))))))
 refine JC 2 [(117,(Zv (KQ s.least s.top s.lost).1))] (fun X=>?_)
 refine Kt 118 1 #[I (((KQ s.least s.top s.lost).1).least),I (((KQ s.least s.top s.lost).1).most),I (((KQ s.least s.top s.lost).1).lost),I (((KQ s.least s.top s.lost).1).gap),I (((KQ s.least s.top s.lost).1).next),I (((KQ s.least s.top s.lost).1).asked)] 143 (fun b11=>JD [(2,Sl (At b11 0) 1 1)] (JK [1] [(0,0),(3,0),(4,0),(5,0),(6,0),(7,14),(8,0)] [] [9] (Ha _) (Ki ?_ K8)))
 refine JC 9 [(118,Sl (At b11 0) 1 1),(124,I (bt.town.owners.length:Int))] (fun X=>?_)
 refine QZ (b:=b11) (o:=0) (cs:=(YQ (KQ s.least s.top s.lost).1)) 0 (fun G4 hl4 hz1=>?_)
 have hs9:RS Wg G4 (At b11 0) 1 [((KQ s.least s.top s.lost).1)]:=RS.lit [(YQ (KQ s.least s.top s.lost).1)] [((KQ s.least s.top s.lost).1)] ⟨⟨rfl,(JgT _ _ _).least,(JgT _ _ _).most,(JgT _ _ _).lost,(JgT _ _ _).gap,(JgT _ _ _).next,(JgT _ _ _).asked⟩,trivial⟩ hz1 (Hc rfl) (Hc rfl)
 refine JI 125 (Ji5 G4 (At b11 0) 1 ((KQ s.least s.top s.lost).1) hs9 bt.town.owners.length (by (have q_:=JcF hB;omega))) (fun v G5 L1 hl5 hp=>?_)
 obtain ⟨a10,c10,r2,rfl,hr2,rfl⟩:=hp
 refine JD [(9,Sl a10 ((Hb bt.town.owners.length ((KQ s.least s.top s.lost).1)).length) c10),(10,Pt b3 0),(11,Pt b3 0),(12,Pt b3 8)] (JK [1,3,4,5,6,7,8] [(0,0),(10,0),(11,0),(12,0)] [] [13] (Ha _) (Ki ?_ K8))
 refine JC 13 [(125,Sl a10 ((Hb bt.town.owners.length ((KQ s.least s.top s.lost).1)).length) c10),(128,Pt b3 8)] (fun X=>?_)
 refine KN 7 [r2,[],[Sg b10 0 (YQ (KQ s.least s.top s.lost).1)],rbt13,rbt12,rbt8,rbt7,[Sg b3 0 (J7 (⟨(⟨bt.town.clerk,bt.town.owners,(Hb bt.town.owners.length ((KQ s.least s.top s.lost).1)),bt.town.net⟩:Q8),bt.reach,bt.fates,bt.events⟩:JH) abt0 cbt0 abt1 cbt1 abt2 cbt2 abt3 cbt3 a10 c10 abt5 cbt5 abt6 cbt6 abt7 cbt7)],[Sg b2 0 (KB (J3 s.most s.batch s.every).1 a3 c3 a4 c4 a5 c5)],[Sg b1 0 (QJ s a1 c1 a2 c2)]] (Ka [] (Km [0,1,3,4,5,6,7,8,10,11,12] [] [] [(6,Pt b3 0)] (Ha _) (Jb (Jg [0,0,0] [(2,Pt b3 0),(3,I 0)] (Jn (Jk 3 (Jk 4 (Jk 2 (Jk 6 (Jk 7 ?_))))))))))
 have hok:=Jms ‹_› (by omega) (by omega) (JfL hN (by omega)) ‹_› (by omega)
 have hbt:=Jmt hB (by omega)
 refine Jo [0,0] [Pt b3 0,I 0] (JA [[Sg b3 0 (J7 (⟨(⟨bt.town.clerk,bt.town.owners,(Hb bt.town.owners.length ((KQ s.least s.top s.lost).1)),bt.town.net⟩:Q8),bt.reach,bt.fates,bt.events⟩:JH) abt0 cbt0 abt1 cbt1 abt2 cbt2 abt3 cbt3 a10 c10 abt5 cbt5 abt6 cbt6 abt7 cbt7)],rbt7,r2,rbt12,rbt13] (Ja (Ja (Ja hl1 hle) hl4) hl5) ?_)
 rw [hbt];refine .inr ⟨hok,?_⟩;try dsimp only
 exact ⟨b3,abt0,cbt0,abt1,cbt1,abt2,cbt2,abt3,cbt3,a10,c10,abt5,cbt5,abt6,cbt6,abt7,cbt7,rbt7,r2,rbt12,rbt13,rfl,hbt0,(hbt1.mono (Ja hl4 hl5)),hbt2,hbt3,hbt4,(hbt5.mono (Ja hl4 hl5)),(hbt6.mono (Ja hl4 hl5)),(hbt7.mono (Ja hl4 hl5)),hr2,hbt9,(hbt10.mono (Ja hl4 hl5)),hbt11,(hbt12.mono (Ja hl4 hl5)),(hbt13.mono (Ja hl4 hl5)),rfl⟩
structure Ext (c d:Kz):Prop where
 ok:W6 c
 ok2:W6 d
 heads:∃ m,d.heads=c.heads++m
 books:∃ m,d.books=c.books++m
theorem Ext.trans {c d e:Kz} (h:Ext c d) (h2:Ext d e):Ext c e:=by
 obtain ⟨m,e1⟩:=h.heads;obtain ⟨n,e2⟩:=h2.heads
 obtain ⟨p,e3⟩:=h.books;obtain ⟨q,e4⟩:=h2.books
 exact ⟨h.ok,h2.ok2,⟨m++n,by rw [e2,e1,List.append_assoc]⟩,⟨p++q,by rw [e4,e3,List.append_assoc]⟩⟩
structure Fwd (t u:JH):Prop where
 ext:Ext t.town.clerk u.town.clerk
 own:∀ (i:Nat) o,u.town.owners[i]? = some o→∃ p,t.town.owners[i]? = some p∧p.name=o.name∧p.head.epoch≤o.head.epoch
theorem Fwd.trans {t u v:JH} (h:Fwd t u) (h2:Fwd u v):Fwd t v:=by
 refine ⟨h.ext.trans h2.ext,fun i o ho=>?_⟩
 obtain ⟨p,hp,e1,l1⟩:=h2.own i o ho
 obtain ⟨q,hq,e2,l2⟩:=h.own i p hp
 exact ⟨q,hq,e2.trans e1,by omega⟩
theorem Jo9 {s:Kv} (h:Qo s=0):Vu (Qw s):=by
 obtain ⟨b1,b2,b3,b4⟩:=JaG h
 obtain ⟨e1,e2,e3,e4,e5,e6,e7⟩:=VB h
 exact ⟨⟨s,b1⟩,b2,by rw [b3,b4],by rw [b3];exact e1,e6,e7⟩
theorem f_do (t:JH) (d:K6):(YJ t d).fates.length≤t.fates.length+1:=by
 have hs:∀ (t:JH) l,(Wi t l).fates.length≤t.fates.length:=fun t l=>by simp [Wi]
 have hl:∀ (l:List JQ) (t:JH),(W9 t l).fates.length≤t.fates.length:=by
  intro l
  induction l with
  | nil=>intro t;exact Hn _
  | cons x l ih =>
   intro t
   refine Hp (ih (Z1 t x)) ?_
   unfold Z1
   split
   ·
    unfold Qn
    split
    · exact Hn _
    · exact hs _ _
   · exact Hn _
 have ha:∀ n (t:JH),(Jbu t n).fates.length≤t.fates.length:=by
  intro n t
  induction n with
  | zero=>exact Hn _
  | succ n ih =>
   rw [← Vz]
   refine Hp ?_ ih
   have hq:∀ u k,(JaE u k).fates.length≤u.fates.length:=fun u k=>by unfold JaE;exact hs _ _
   unfold Zs
   split
   · exact Hn _
   split
   · exact hq _ _
   · exact hq _ _
 have ht:(Wu t).fates.length≤t.fates.length:=by
  unfold Wu
  split
  · exact Hn _
  · exact Hp (ha _ _) (hl _ _)
 unfold YJ
 split
 · unfold Wc;(repeat' split) <;> simp
 split
 · simp
 split
 · unfold JfF;split <;> simp
 split
 · omega
 · omega
theorem Jbw {s:Kv} (h:Qo s=0) {jt:JH} {l:List K6} {i:Nat} (hJ:jt=JaP (Qw s) (l.take i)):Vu jt∧jt.events.length≤64*i∧jt.fates.length≤i:=by
 subst hJ
 have key:∀ (m:List K6) (t:JH),Vu t→Vu (JaP t m)∧(JaP t m).events.length≤t.events.length+64*m.length∧(JaP t m).fates.length≤t.fates.length+m.length:=by
  intro m
  induction m with
  | nil=>intro t h;exact ⟨h,by simp [JaP],by simp [JaP]⟩
  | cons d m ih =>
   intro t h
   obtain ⟨q1,q2⟩:=do_H h d
   obtain ⟨r1,r2,r3⟩:=ih (YJ t d) q1
   have:=f_do t d
   refine ⟨r1,?_,?_⟩
   · show (JaP (YJ t d) m).events.length≤_;simp only [Hd];omega
   · show (JaP (YJ t d) m).fates.length≤_;simp only [Hd];omega
 obtain ⟨k1,k2,k3⟩:=key (l.take i) (Qw s) (Jo9 h)
 have e1:(Qw s).events.length=0:=rfl
 have e2:(Qw s).fates.length=0:=rfl
 have e3:(l.take i).length≤i:=by rw [List.length_take];omega
 exact ⟨k1,by omega,by omega⟩
theorem Jew {s:Kv} {l:List K6} (h:¬ Qo s=0):Jr s l=(Jle,[],Qo s):=by
 have e:Jbv s l=Qo s:=by unfold Jbv;rw [if_pos h]
 unfold Jr;rw [e,if_pos h]
theorem JfM {s:Kv} {l:List K6} (h:Qo s=0) (hl:l.length > 200):Jr s l=(Jle,[],2):=by
 have e:Jbv s l=2:=by unfold Jbv;rw [if_neg (by omega),if_pos hl]
 unfold Jr;rw [e,if_pos (by decide)]
theorem Jja {s:Kv} {l:List K6} {jt:JH} {i:Nat} (h:Qo s=0) (hl:¬ l.length > 200) (hJ:jt=JaP (Qw s) (l.take i)) (hi:l.length≤i):Jr s l=(⟨jt.town.clerk,jt.town.owners,jt.town.polls,jt.town.net⟩,jt.events,0):=by
 rw [Hs hi] at hJ
 subst hJ
 have e:Jbv s l=0:=by unfold Jbv;rw [if_neg (by omega),if_neg hl]
 unfold Jr;rw [e,if_neg (by decide)]
set_option maxHeartbeats 1600000 in
theorem Jmu (G:J4) (vs_s:List Value) (s:Kv) (h_s:JdF.R G vs_s s) (a_l:Option Addr) (c_l:Nat) (l:List K6) (h_l:RS WO G a_l c_l l) :Yw 20 #[.agg vs_s.toArray,Sl a_l l.length c_l] G [] (fun u G' L'=>∃ (a1:Option Addr) (c2:Nat) (a3:Option Addr) (c4:Nat) (a5:Option Addr) (c6:Nat) (a7:Option Addr) (c8:Nat) (a9:Option Addr) (c10:Nat) (a11:Option Addr) (c12:Nat) (a13:Option Addr) (c14:Nat),u=.tuple #[.agg #[I (((Jr s l).1).clerk.queue.most),Sl a1 ((((Jr s l).1).clerk.queue.wait).length) c2,I (((Jr s l).1).clerk.batch),I (((Jr s l).1).clerk.every),I (((Jr s l).1).clerk.now),Sl a3 ((((Jr s l).1).clerk.heads).length) c4,Sl a5 ((((Jr s l).1).clerk.books).length) c6,Sl a7 ((((Jr s l).1).owners).length) c8,Sl a9 ((((Jr s l).1).polls).length) c10,I (((Jr s l).1).net.now),Sl a11 ((((Jr s l).1).net.way).length) c12],Sl a13 (((Jr s l).2.1).length) c14,I ((Jr s l).2.2)]∧(rI (((Jr s l).1).clerk.queue.most))∧(RS QW G' a1 c2 (((Jr s l).1).clerk.queue.wait))∧(rI (((Jr s l).1).clerk.batch))∧(rI (((Jr s l).1).clerk.every))∧(rI (((Jr s l).1).clerk.now))∧(RS KA G' a3 c4 (((Jr s l).1).clerk.heads))∧(RS Qk G' a5 c6 (((Jr s l).1).clerk.books))∧(RS QB G' a7 c8 (((Jr s l).1).owners))∧(RS Wg G' a9 c10 (((Jr s l).1).polls))∧(rI (((Jr s l).1).net.now))∧(RS Ke G' a11 c12 (((Jr s l).1).net.way))∧(RS QU G' a13 c14 ((Jr s l).2.1))∧L'=[]):=by
 obtain ⟨a1,c1,a2,c2,rfl,hs1,hs2,w1,w2,w3,w4,w5,w6,w7⟩:=h_s
 refine JR Tryz.func20 45 [(0,(Yz s a1 c1 a2 c2)),(1,Sl a_l l.length c_l)] rfl (fun w0 G0=>?_)
 refine Jf (Jd (Jv 2 #[Sl a1 s.names.length c1,Sl a2 s.keys.length c2,I s.most,I s.batch,I s.every,I s.least,I s.top,I s.lost,I s.reach] 72 (fun b1=>Jv 4 #[I 0,Sl none 0 0,I 0,I 0,I 0,Sl none 0 0,Sl none 0 0,Sl none 0 0,Sl none 0 0,I 0,Sl none 0 0] 67 (fun b2=>Jc [0,0] [] (Je (Jb (Jf (Jd (Jc [4] [(12,(Yz s a1 c1 a2 c2))] (JI 13 (JgU G (QJ s a1 c1 a2 c2) s (⟨a1,c1,a2,c2,rfl,hs1,hs2,w1,w2,w3,w4,w5,w6,w7⟩)) (fun v G1 L1 hl1 hp=>?_)))))))))))
 rcases hp with ⟨hbe,rfl,rfl⟩ | ⟨hbe,b3,a3,c3,a4,c4,a5,c5,a6,c6,a7,c7,a8,c8,a9,c9,a10,c10,r1,r2,r3,r4,rfl,w8,hs3,w9,w10,w11,hs4,hs5,hr1,hr2,w12,hs6,w13,hr3,hr4,rfl⟩
 refine Jc [0,0,0,0,0] [(7,.pointer none),(8,I (Qo s))] (Je (Jb (Jf (Jf (Jd (Jc [0,0,0] [(18,Bo (decide (Qo s=0)))] (Ks (decide (Qo s=0)) [18] [0,0,0,0] [1,1,1,0] (fun bb=>[(22,Bo (bb && (decide ((l.length:Int) > 200))))]) (Je (Jb (Jl ((decide (Qo s=0)) && (decide ((l.length:Int) > 200))) (fun h1=>?_) (fun h1=>?_)))))))))))
 refine Jd (Jc [0] [(8,I 2)] (Je (Jb (Jf (Jg [0,0] [(24,Bo true)] (JW (Jg [0,0,3,0,0] [(5,Sl none 0 0),(6,I 2)] (Jn (Jj ?_)))))))))
 have hf1:Jr s l=((⟨(⟨(⟨0,[]⟩:QR),0,0,0,[],[]⟩:Kz),[],[],(⟨0,[]⟩:Yx)⟩:Q8),[],2):=by
  (exfalso;omega)
 refine Jo [0,0,0] [.agg #[I 0,Sl none 0 0,I 0,I 0,I 0,Sl none 0 0,Sl none 0 0,Sl none 0 0,Sl none 0 0,I 0,Sl none 0 0],Sl none 0 0,I 2] (JA [] hl1 ?_)
 rw [hf1]
 try dsimp only
 exact ⟨none,0,none,0,none,0,none,0,none,0,none,0,none,0,rfl,J8,(JP QW G1),J8,J8,J8,(JP KA G1),(JP Qk G1),(JP QB G1),(JP Wg G1),J8,(JP Ke G1),(JP QU G1),rfl⟩
 refine Jq (Jb (Jf (Jg [0,0] [(24,Bo (!decide (Qo s=0)))] (Jl (!decide (Qo s=0)) (fun h2=>?_) (fun h2=>?_)))))
 refine Jg [0,0,3,0,0] [(5,Sl none 0 0),(6,I (Qo s))] (Jn (Jj ?_))
 have hf2:Jr s l=((⟨(⟨(⟨0,[]⟩:QR),0,0,0,[],[]⟩:Kz),[],[],(⟨0,[]⟩:Yx)⟩:Q8),[],Qo s):=by
  (rw [Jew ‹_›];rfl)
 refine Jo [0,0,0] [.agg #[I 0,Sl none 0 0,I 0,I 0,I 0,Sl none 0 0,Sl none 0 0,Sl none 0 0,Sl none 0 0,I 0,Sl none 0 0],Sl none 0 0,I (Qo s)] (JA [] hl1 ?_)
 rw [hf2]
 try dsimp only
 exact ⟨none,0,none,0,none,0,none,0,none,0,none,0,none,0,rfl,J8,(JP QW G1),J8,J8,J8,(JP KA G1),(JP Qk G1),(JP QB G1),(JP Wg G1),J8,(JP Ke G1),(JP QU G1),rfl⟩
 refine Jq (Jb (Jf ?_))
 exfalso;omega
 refine Jc [0,0,0,0,0] [(7,Pt b3 0),(8,I 0)] (Je (Jb (Jf (Jg [0,0,0,0,0,0,0] [(22,Bo (decide ((l.length:Int) > 200)))] (Jl (decide ((l.length:Int) > 200)) (fun h3=>?_) (fun h3=>?_))))))
 refine Jd (Jc [0] [(8,I 2)] (Je (Jb (Jf (Jg [0,0] [(24,Bo true)] (JW (Jg [0,0,13,0,0] [(5,Sl none 0 0),(6,I 2)] (Jn (Jj ?_)))))))))
 have hf3:Jr s l=((⟨(⟨(⟨0,[]⟩:QR),0,0,0,[],[]⟩:Kz),[],[],(⟨0,[]⟩:Yx)⟩:Q8),[],2):=by
  (rw [JfM ‹_› (by omega)];rfl)
 refine Jo [5,0,0] [.agg #[I 0,Sl none 0 0,I 0,I 0,I 0,Sl none 0 0,Sl none 0 0,Sl none 0 0,Sl none 0 0,I 0,Sl none 0 0],Sl none 0 0,I 2] (JA [] hl1 ?_)
 rw [hf3]
 try dsimp only
 exact ⟨none,0,none,0,none,0,none,0,none,0,none,0,none,0,rfl,‹_›,(JP QW G1),‹_›,‹_›,‹_›,(JP KA G1),(JP Qk G1),(JP QB G1),(JP Wg G1),‹_›,(JP Ke G1),(JP QU G1),rfl⟩
 refine Jq (Jb (Jf (Jg [0,0] [(24,Bo false)] (Qq (Jq (Jb (Jf (Jg [0,0,0] [(27,Sl a_l l.length c_l),(28,I (l.length:Int)),(29,I 0)] (Jy ?_)))))))))
 have hlm_h_l:l.length≤9223372036854775807:=Hp (h_l).le (h_l).max
 refine Qh (σ:=Nat×JH×Option Addr×Nat×Option Addr×Nat×Option Addr×Nat×Option Addr×Nat×List Kh×Option Addr×Nat×List Kh×Option Addr×Nat×Option Addr×Nat×List Kh×Option Addr×Nat×List Kh×J4) (fun q_=>(J4.le G1 q_.2.2.2.2.2.2.2.2.2.2.2.2.2.2.2.2.2.2.2.2.2.2)∧(q_.1≤l.length)∧(RS QW q_.2.2.2.2.2.2.2.2.2.2.2.2.2.2.2.2.2.2.2.2.2.2 q_.2.2.1 q_.2.2.2.1 q_.2.1.town.clerk.queue.wait)∧(RS KA q_.2.2.2.2.2.2.2.2.2.2.2.2.2.2.2.2.2.2.2.2.2.2 q_.2.2.2.2.1 q_.2.2.2.2.2.1 q_.2.1.town.clerk.heads)∧(RS Qk q_.2.2.2.2.2.2.2.2.2.2.2.2.2.2.2.2.2.2.2.2.2.2 q_.2.2.2.2.2.2.1 q_.2.2.2.2.2.2.2.1 q_.2.1.town.clerk.books)∧(J1 QB q_.2.2.2.2.2.2.2.2.2.2.2.2.2.2.2.2.2.2.2.2.2.2 q_.2.2.2.2.2.2.2.2.1 q_.2.2.2.2.2.2.2.2.2.1 q_.2.1.town.owners q_.2.2.2.2.2.2.2.2.2.2.1)∧(J1 Wg q_.2.2.2.2.2.2.2.2.2.2.2.2.2.2.2.2.2.2.2.2.2.2 q_.2.2.2.2.2.2.2.2.2.2.2.1 q_.2.2.2.2.2.2.2.2.2.2.2.2.1 q_.2.1.town.polls q_.2.2.2.2.2.2.2.2.2.2.2.2.2.1)∧(RS Ke q_.2.2.2.2.2.2.2.2.2.2.2.2.2.2.2.2.2.2.2.2.2.2 q_.2.2.2.2.2.2.2.2.2.2.2.2.2.2.1 q_.2.2.2.2.2.2.2.2.2.2.2.2.2.2.2.1 q_.2.1.town.net.way)∧(J1 Vd q_.2.2.2.2.2.2.2.2.2.2.2.2.2.2.2.2.2.2.2.2.2.2 q_.2.2.2.2.2.2.2.2.2.2.2.2.2.2.2.2.1 q_.2.2.2.2.2.2.2.2.2.2.2.2.2.2.2.2.2.1 q_.2.1.fates q_.2.2.2.2.2.2.2.2.2.2.2.2.2.2.2.2.2.2.1)∧(J1 QU q_.2.2.2.2.2.2.2.2.2.2.2.2.2.2.2.2.2.2.2.2.2.2 q_.2.2.2.2.2.2.2.2.2.2.2.2.2.2.2.2.2.2.2.1 q_.2.2.2.2.2.2.2.2.2.2.2.2.2.2.2.2.2.2.2.2.1 q_.2.1.events q_.2.2.2.2.2.2.2.2.2.2.2.2.2.2.2.2.2.2.2.2.2.1)∧(rI q_.2.1.town.clerk.queue.most)∧(rI q_.2.1.town.clerk.batch)∧(rI q_.2.1.town.clerk.every)∧(rI q_.2.1.town.clerk.now)∧(rI q_.2.1.town.net.now)∧(rI q_.2.1.reach)∧(q_.2.1=JaP (Qw s) (l.take q_.1))) (fun q_=>[(4,Pt b2 0),(7,Pt b3 0),(27,Sl a_l l.length c_l),(28,I (l.length:Int)),(29,I (q_.1:Int))]) (fun q_=>q_.2.2.2.2.2.2.2.2.2.2.2.2.2.2.2.2.2.2.2.2.2.2) (fun q_=>[[Sg b3 0 (J7 q_.2.1 q_.2.2.1 q_.2.2.2.1 q_.2.2.2.2.1 q_.2.2.2.2.2.1 q_.2.2.2.2.2.2.1 q_.2.2.2.2.2.2.2.1 q_.2.2.2.2.2.2.2.2.1 q_.2.2.2.2.2.2.2.2.2.1 q_.2.2.2.2.2.2.2.2.2.2.2.1 q_.2.2.2.2.2.2.2.2.2.2.2.2.1 q_.2.2.2.2.2.2.2.2.2.2.2.2.2.2.1 q_.2.2.2.2.2.2.2.2.2.2.2.2.2.2.2.1 q_.2.2.2.2.2.2.2.2.2.2.2.2.2.2.2.2.1 q_.2.2.2.2.2.2.2.2.2.2.2.2.2.2.2.2.2.1 q_.2.2.2.2.2.2.2.2.2.2.2.2.2.2.2.2.2.2.2.1 q_.2.2.2.2.2.2.2.2.2.2.2.2.2.2.2.2.2.2.2.2.1)],q_.2.2.2.2.2.2.2.2.2.2.1,q_.2.2.2.2.2.2.2.2.2.2.2.2.2.1,q_.2.2.2.2.2.2.2.2.2.2.2.2.2.2.2.2.2.2.1,q_.2.2.2.2.2.2.2.2.2.2.2.2.2.2.2.2.2.2.2.2.2.1,[Sg b2 0 [I 0,Sl none 0 0,I 0,I 0,I 0,Sl none 0 0,Sl none 0 0,Sl none 0 0,Sl none 0 0,I 0,Sl none 0 0]],[Sg b1 0 (QJ s a1 c1 a2 c2)]]) (fun q_=>l.length-q_.1) (0,(Qw s),a3,c3,a4,c4,a5,c5,a6,c6,r1,a7,c7,r2,a8,c8,a9,c9,r3,a10,c10,r4,G1) ⟨(Jh _),(by (try dsimp only);exact Ht _),hs3,hs4,hs5,hr1,hr2,hs6,hr3,hr4,w8,w9,w10,w11,w12,w13,(by (try dsimp only);rfl)⟩ (fun q_ hs=>?_)
 obtain ⟨i,jt,ajt0,cjt0,ajt1,cjt1,ajt2,cjt2,ajt3,cjt3,rjt7,ajt4,cjt4,rjt8,ajt5,cjt5,ajt6,cjt6,rjt12,ajt7,cjt7,rjt13,g⟩:=q_
 obtain ⟨hle,hi,hjt1,hjt5,hjt6,hjt7,hjt8,hjt10,hjt12,hjt13,hjt0,hjt2,hjt3,hjt4,hjt9,hjt11,hJ⟩:=hs
 dsimp only at hle hi hjt1 hjt5 hjt6 hjt7 hjt8 hjt10 hjt12 hjt13 hjt0 hjt2 hjt3 hjt4 hjt9 hjt11 hJ
 dsimp only
 refine Jg [0] [(30,Bo (decide ((i:Int)<(l.length:Int))))] (Jf (Jl (decide ((i:Int)<(l.length:Int))) (fun h4=>?_) (fun h4=>?_)))
 refine Jq (Jb (Jf (Jy (Jf (Jd ?_)))))
 obtain ⟨b4,o1,rfl⟩:=RS.addr (h_l.mono (Ja hl1 hle)) (k:=i) (by omega)
 obtain ⟨x1,hx1⟩:=Wf (l:=l) (k:=i) (by omega)
 obtain ⟨_,⟨a11,c11,a12,c12,a13,c13,a14,c14,rfl,w14,w15,w16,hs7,w17,w18,w19,w20,hs8,w21,w22,w23,w24,w25,hs9,hs10⟩,hc1⟩:=RS.get (h_l.mono (Ja hl1 hle)) hx1
 refine J5 (b:=b4) (off:=o1) (len:=l.length) (cap:=c_l) (ik:=.i64) 31 53 16 i J8 (JZ 32 53 (cs:=(WI x1 a11 c11 a12 c12 a13 c13 a14 c14)) 0 (JcV x1 a11 c11 a12 c12 a13 c13 a14 c14) hc1 (Jv 10 #[I 0,I 0,Sr ([]),Sl none 0 0,I 0,I 0,I 0,I 0,Sl none 0 0,I 0,U 0,U 0,I 0,Sr ([]),Sl none 0 0,Sl none 0 0] 53 (fun b5=>JV [3] [] [[Sg b5 0 (WI x1 a11 c11 a12 c12 a13 c13 a14 c14)],[Sg b3 0 (J7 jt ajt0 cjt0 ajt1 cjt1 ajt2 cjt2 ajt3 cjt3 ajt4 cjt4 ajt5 cjt5 ajt6 cjt6 ajt7 cjt7)],rjt7,rjt8,rjt12,rjt13,[Sg b2 0 [I 0,Sl none 0 0,I 0,I 0,I 0,Sl none 0 0,Sl none 0 0,Sl none 0 0,Sl none 0 0,I 0,Sl none 0 0]],[Sg b1 0 (QJ s a1 c1 a2 c2)]] (Je (Jb (Jd (Jc [0,2] [(33,Pt b3 0),(34,(JcV x1 a11 c11 a12 c12 a13 c13 a14 c14))] (Jw 5 (Jw 5 (Jw 5 (Jw 5 (Jw 5 (Qp (Ls:=[[Sg b3 0 (J7 jt ajt0 cjt0 ajt1 cjt1 ajt2 cjt2 ajt3 cjt3 ajt4 cjt4 ajt5 cjt5 ajt6 cjt6 ajt7 cjt7)],rjt7,rjt8,rjt12,rjt13]) (Lr:=[[Sg b5 0 (WI x1 a11 c11 a12 c12 a13 c13 a14 c14)],[Sg b2 0 [I 0,Sl none 0 0,I 0,I 0,I 0,Sl none 0 0,Sl none 0 0,Sl none 0 0,Sl none 0 0,I 0,Sl none 0 0]],[Sg b1 0 (QJ s a1 c1 a2 c2)]]) 35 (Jli g b3 jt ajt0 cjt0 ajt1 cjt1 ajt2 cjt2 ajt3 cjt3 ajt4 cjt4 ajt5 cjt5 ajt6 cjt6 ajt7 cjt7 rjt7 rjt8 rjt12 rjt13 hjt0 hjt1 hjt2 hjt3 hjt4 hjt5 hjt6 hjt7 hjt8 hjt9 hjt10 hjt11 hjt12 hjt13 (WI x1 a11 c11 a12 c12 a13 c13 a14 c14) x1 (⟨a11,c11,a12,c12,a13,c13,a14,c14,rfl,w14,w15,w16,hs7,w17,w18,w19,w20,hs8,w21,w22,w23,w24,w25,hs9,hs10⟩) (by exact (Jbw hbe hJ).1) (by (have q_:=(Jbw hbe hJ);omega)) (by (have q_:=(Jbw hbe hJ);omega))) (fun v G2 L1 hl2 hp=>?_))))))))))))))
 obtain ⟨a15,c15,a16,c16,a17,c17,a18,c18,a19,c19,a20,c20,a21,c21,a22,c22,r5,r6,r7,r8,rfl,_,hs11,_,_,_,hs12,hs13,hr5,hr6,_,hs14,_,hr7,hr8,rfl⟩:=hp
 refine Je (JN (Jb (Jd (Jc [0,0] [(29,I (Hh.wrap ((i:Int)+1)))] (Kr 29 ((i:Int)+1) J8 (Je (Jk 7 (Jk 7 (Jk 6 (Jk 6 (Jk 6 (Jk 6 (Jk 6 ?_)))))))))))))
 exact Qr [[Sg b3 0 (J7 (YJ jt x1) a15 c15 a16 c16 a17 c17 a18 c18 a19 c19 a20 c20 a21 c21 a22 c22)],r5,r6,r7,r8,[Sg b2 0 [I 0,Sl none 0 0,I 0,I 0,I 0,Sl none 0 0,Sl none 0 0,Sl none 0 0,Sl none 0 0,I 0,Sl none 0 0]],[Sg b1 0 (QJ s a1 c1 a2 c2)]] (Qi (i+1,(YJ jt x1),a15,c15,a16,c16,a17,c17,a18,c18,r5,a19,c19,r6,a20,c20,a21,c21,r7,a22,c22,r8,G2) ⟨(Ja hle hl2),J8,hs11,hs12,hs13,hr5,hr6,hs14,hr7,hr8,‹_›,‹_›,‹_›,‹_›,‹_›,‹_›,(by (try dsimp only);rw [← JgO hx1,← hJ])⟩ (by (try dsimp only);omega))
 refine KW (JY (J9 (JT (Jb (Jf (Kp [8] (Wl [(0,Pt b3 0),(1,Pt b3 0),(2,Pt b3 0),(3,(Y8 jt.town ajt0 cjt0 ajt1 cjt1 ajt2 cjt2 ajt3 cjt3 ajt4 cjt4 ajt5 cjt5)),(4,Pt b3 0),(5,Pt b3 0),(6,Pt b3 13),(7,Sl ajt7 jt.events.length cjt7)] (JK [] [(0,0),(1,0),(2,0),(3,2),(4,0),(5,0),(6,0),(7,2)] [] [8] (Ha _) (Ki ?_ K8)))))))))
 refine JC 8 [(4,Pt b2 0),(40,(Y8 jt.town ajt0 cjt0 ajt1 cjt1 ajt2 cjt2 ajt3 cjt3 ajt4 cjt4 ajt5 cjt5))] (fun X=>?_)
 refine KN 5 [[Sg b3 0 (J7 jt ajt0 cjt0 ajt1 cjt1 ajt2 cjt2 ajt3 cjt3 ajt4 cjt4 ajt5 cjt5 ajt6 cjt6 ajt7 cjt7)],rjt7,rjt8,rjt12,rjt13,[Sg b2 0 (Zq jt.town ajt0 cjt0 ajt1 cjt1 ajt2 cjt2 ajt3 cjt3 ajt4 cjt4 ajt5 cjt5)],[Sg b1 0 (QJ s a1 c1 a2 c2)]] (Ka [(9,Sl ajt7 jt.events.length cjt7),(10,I 0)] (Km [0,1,2,3] [(4,0),(5,0),(6,0),(7,2),(9,0),(10,0)] [] [(4,Pt b2 0),(5,Sl ajt7 jt.events.length cjt7),(6,I 0)] (Ha _) (Jb (Jn (Wp (E:=QB) 1 hjt7 (by have q_:=(Jbw hbe hJ);have q1_:=q_.1.len;have q2_:=q_.1.polls;simp only [QB,Wg,QU];omega) (fun G3 hl3 hs15=>Wp (E:=Wg) 2 (hjt8.mono hl3) (by have q_:=(Jbw hbe hJ);have q1_:=q_.1.len;have q2_:=q_.1.polls;simp only [QB,Wg,QU];omega) (fun G4 hl4 hs16=>Wp (E:=QU) 4 (hjt13.mono (Ja hl3 hl4)) (by have q_:=(Jbw hbe hJ);have q1_:=q_.1.len;have q2_:=q_.1.polls;simp only [QB,Wg,QU];omega) (fun G5 hl5 hs17=>?_))))))))
 have hf4:Jr s l=(jt.town,jt.events,0):=by
  (rw [Jja ‹_› (by omega) hJ (by omega)];done)
 refine Jo [5,0,0] [(Y8 jt.town ajt0 cjt0 ajt1 cjt1 ajt2 cjt2 ajt3 cjt3 ajt4 cjt4 ajt5 cjt5),Sl ajt7 jt.events.length cjt7,I 0] (JA [] (Ja (Ja (Ja (Ja hl1 hle) hl3) hl4) hl5) ?_)
 rw [hf4]
 try dsimp only
 exact ⟨ajt0,cjt0,ajt1,cjt1,ajt2,cjt2,ajt3,cjt3,ajt4,cjt4,ajt5,cjt5,ajt7,cjt7,rfl,hjt0,(hjt1.mono (Ja (Ja hl3 hl4) hl5)),hjt2,hjt3,hjt4,(hjt5.mono (Ja (Ja hl3 hl4) hl5)),(hjt6.mono (Ja (Ja hl3 hl4) hl5)),(hs15.mono (Ja hl4 hl5)),(hs16.mono hl5),hjt9,(hjt10.mono (Ja (Ja hl3 hl4) hl5)),hs17,rfl⟩
set_option maxHeartbeats 1600000 in
theorem Jd2 (G:J4) (vs_s:List Value) (s:Kv) (h_s:JdF.R G vs_s s) (a_l:Option Addr) (c_l:Nat) (l:List K6) (r_l:List Kh) (h_l:J1 WO G a_l c_l l r_l) :Jcc 20 #[.agg vs_s.toArray,Sl a_l l.length c_l] G [r_l] (fun u G' L'=>∃ (a1:Option Addr) (c2:Nat) (a3:Option Addr) (c4:Nat) (a5:Option Addr) (c6:Nat) (a7:Option Addr) (c8:Nat) (a9:Option Addr) (c10:Nat) (a11:Option Addr) (c12:Nat) (a13:Option Addr) (c14:Nat),u=.tuple #[.agg #[I (((Jr s l).1).clerk.queue.most),Sl a1 ((((Jr s l).1).clerk.queue.wait).length) c2,I (((Jr s l).1).clerk.batch),I (((Jr s l).1).clerk.every),I (((Jr s l).1).clerk.now),Sl a3 ((((Jr s l).1).clerk.heads).length) c4,Sl a5 ((((Jr s l).1).clerk.books).length) c6,Sl a7 ((((Jr s l).1).owners).length) c8,Sl a9 ((((Jr s l).1).polls).length) c10,I (((Jr s l).1).net.now),Sl a11 ((((Jr s l).1).net.way).length) c12],Sl a13 (((Jr s l).2.1).length) c14,I ((Jr s l).2.2)]∧(rI (((Jr s l).1).clerk.queue.most))∧(RS QW G' a1 c2 (((Jr s l).1).clerk.queue.wait))∧(rI (((Jr s l).1).clerk.batch))∧(rI (((Jr s l).1).clerk.every))∧(rI (((Jr s l).1).clerk.now))∧(RS KA G' a3 c4 (((Jr s l).1).clerk.heads))∧(RS Qk G' a5 c6 (((Jr s l).1).clerk.books))∧(RS QB G' a7 c8 (((Jr s l).1).owners))∧(RS Wg G' a9 c10 (((Jr s l).1).polls))∧(rI (((Jr s l).1).net.now))∧(RS Ke G' a11 c12 (((Jr s l).1).net.way))∧(RS QU G' a13 c14 ((Jr s l).2.1))∧L'=[r_l]):=by
 obtain ⟨a1,c1,a2,c2,rfl,hs1,hs2,w1,w2,w3,w4,w5,w6,w7⟩:=h_s
 intro Lr
 refine JR Tryz.func20 45 [(0,(Yz s a1 c1 a2 c2)),(1,Sl a_l l.length c_l)] rfl (fun w0 G0=>?_)
 show TC _ _ _ _ _ (r_l::Lr)
 refine Jf (Jd (Jv 2 #[Sl a1 s.names.length c1,Sl a2 s.keys.length c2,I s.most,I s.batch,I s.every,I s.least,I s.top,I s.lost,I s.reach] 72 (fun b1=>Jv 4 #[I 0,Sl none 0 0,I 0,I 0,I 0,Sl none 0 0,Sl none 0 0,Sl none 0 0,Sl none 0 0,I 0,Sl none 0 0] 67 (fun b2=>Jc [0,0] [] (Je (Jb (Jf (Jd (Jc [4] [(12,(Yz s a1 c1 a2 c2))] (JI 13 (JgU G (QJ s a1 c1 a2 c2) s (⟨a1,c1,a2,c2,rfl,hs1,hs2,w1,w2,w3,w4,w5,w6,w7⟩)) (fun v G1 L1 hl1 hp=>?_)))))))))))
 rcases hp with ⟨hbe,rfl,rfl⟩ | ⟨hbe,b3,a3,c3,a4,c4,a5,c5,a6,c6,a7,c7,a8,c8,a9,c9,a10,c10,r1,r2,r3,r4,rfl,w8,hs3,w9,w10,w11,hs4,hs5,hr1,hr2,w12,hs6,w13,hr3,hr4,rfl⟩
 refine Jc [0,0,0,0,0] [(7,.pointer none),(8,I (Qo s))] (Je (Jb (Jf (Jf (Jd (Jc [0,0,0] [(18,Bo (decide (Qo s=0)))] (Ks (decide (Qo s=0)) [18] [0,0,0,0] [1,1,1,0] (fun bb=>[(22,Bo (bb && (decide ((l.length:Int) > 200))))]) (Je (Jb (Jl ((decide (Qo s=0)) && (decide ((l.length:Int) > 200))) (fun h1=>?_) (fun h1=>?_)))))))))))
 refine Jd (Jc [0] [(8,I 2)] (Je (Jb (Jf (Jg [0,0] [(24,Bo true)] (JW (Jg [0,0,3,0,0] [(5,Sl none 0 0),(6,I 2)] (Jn (Jj ?_)))))))))
 have hf1:Jr s l=((⟨(⟨(⟨0,[]⟩:QR),0,0,0,[],[]⟩:Kz),[],[],(⟨0,[]⟩:Yx)⟩:Q8),[],2):=by
  (exfalso;omega)
 refine Jo [0,0,0] [.agg #[I 0,Sl none 0 0,I 0,I 0,I 0,Sl none 0 0,Sl none 0 0,Sl none 0 0,Sl none 0 0,I 0,Sl none 0 0],Sl none 0 0,I 2] (KT (Lr:=Lr) [r_l] hl1 ?_)
 rw [hf1]
 try dsimp only
 exact ⟨none,0,none,0,none,0,none,0,none,0,none,0,none,0,rfl,J8,(JP QW G1),J8,J8,J8,(JP KA G1),(JP Qk G1),(JP QB G1),(JP Wg G1),J8,(JP Ke G1),(JP QU G1),rfl⟩
 refine Jq (Jb (Jf (Jg [0,0] [(24,Bo (!decide (Qo s=0)))] (Jl (!decide (Qo s=0)) (fun h2=>?_) (fun h2=>?_)))))
 refine Jg [0,0,3,0,0] [(5,Sl none 0 0),(6,I (Qo s))] (Jn (Jj ?_))
 have hf2:Jr s l=((⟨(⟨(⟨0,[]⟩:QR),0,0,0,[],[]⟩:Kz),[],[],(⟨0,[]⟩:Yx)⟩:Q8),[],Qo s):=by
  (rw [Jew ‹_›];rfl)
 refine Jo [0,0,0] [.agg #[I 0,Sl none 0 0,I 0,I 0,I 0,Sl none 0 0,Sl none 0 0,Sl none 0 0,Sl none 0 0,I 0,Sl none 0 0],Sl none 0 0,I (Qo s)] (KT (Lr:=Lr) [r_l] hl1 ?_)
 rw [hf2]
 try dsimp only
 exact ⟨none,0,none,0,none,0,none,0,none,0,none,0,none,0,rfl,J8,(JP QW G1),J8,J8,J8,(JP KA G1),(JP Qk G1),(JP QB G1),(JP Wg G1),J8,(JP Ke G1),(JP QU G1),rfl⟩
 refine Jq (Jb (Jf ?_))
 exfalso;omega
 refine Jc [0,0,0,0,0] [(7,Pt b3 0),(8,I 0)] (Je (Jb (Jf (Jg [0,0,0,0,0,0,0] [(22,Bo (decide ((l.length:Int) > 200)))] (Jl (decide ((l.length:Int) > 200)) (fun h3=>?_) (fun h3=>?_))))))
 refine Jd (Jc [0] [(8,I 2)] (Je (Jb (Jf (Jg [0,0] [(24,Bo true)] (JW (Jg [0,0,13,0,0] [(5,Sl none 0 0),(6,I 2)] (Jn (Jj ?_)))))))))
 have hf3:Jr s l=((⟨(⟨(⟨0,[]⟩:QR),0,0,0,[],[]⟩:Kz),[],[],(⟨0,[]⟩:Yx)⟩:Q8),[],2):=by
  (rw [JfM ‹_› (by omega)];rfl)
 refine Jo [5,0,0] [.agg #[I 0,Sl none 0 0,I 0,I 0,I 0,Sl none 0 0,Sl none 0 0,Sl none 0 0,Sl none 0 0,I 0,Sl none 0 0],Sl none 0 0,I 2] (KT (Lr:=Lr) [r_l] hl1 ?_)
 rw [hf3]
 try dsimp only
 exact ⟨none,0,none,0,none,0,none,0,none,0,none,0,none,0,rfl,‹_›,(JP QW G1),‹_›,‹_›,‹_›,(JP KA G1),(JP Qk G1),(JP QB G1),(JP Wg G1),‹_›,(JP Ke G1),(JP QU G1),rfl⟩
 refine Jq (Jb (Jf (Jg [0,0] [(24,Bo false)] (Qq (Jq (Jb (Jf (Jg [0,0,0] [(27,Sl a_l l.length c_l),(28,I (l.length:Int)),(29,I 0)] (Jy ?_)))))))))
 refine Qh (σ:=Nat×JH×Option Addr×Nat×Option Addr×Nat×Option Addr×Nat×Option Addr×Nat×List Kh×Option Addr×Nat×List Kh×Option Addr×Nat×Option Addr×Nat×List Kh×Option Addr×Nat×List Kh×J4) (fun q_=>(J4.le G1 q_.2.2.2.2.2.2.2.2.2.2.2.2.2.2.2.2.2.2.2.2.2.2)∧(q_.1≤l.length)∧(RS QW q_.2.2.2.2.2.2.2.2.2.2.2.2.2.2.2.2.2.2.2.2.2.2 q_.2.2.1 q_.2.2.2.1 q_.2.1.town.clerk.queue.wait)∧(RS KA q_.2.2.2.2.2.2.2.2.2.2.2.2.2.2.2.2.2.2.2.2.2.2 q_.2.2.2.2.1 q_.2.2.2.2.2.1 q_.2.1.town.clerk.heads)∧(RS Qk q_.2.2.2.2.2.2.2.2.2.2.2.2.2.2.2.2.2.2.2.2.2.2 q_.2.2.2.2.2.2.1 q_.2.2.2.2.2.2.2.1 q_.2.1.town.clerk.books)∧(J1 QB q_.2.2.2.2.2.2.2.2.2.2.2.2.2.2.2.2.2.2.2.2.2.2 q_.2.2.2.2.2.2.2.2.1 q_.2.2.2.2.2.2.2.2.2.1 q_.2.1.town.owners q_.2.2.2.2.2.2.2.2.2.2.1)∧(J1 Wg q_.2.2.2.2.2.2.2.2.2.2.2.2.2.2.2.2.2.2.2.2.2.2 q_.2.2.2.2.2.2.2.2.2.2.2.1 q_.2.2.2.2.2.2.2.2.2.2.2.2.1 q_.2.1.town.polls q_.2.2.2.2.2.2.2.2.2.2.2.2.2.1)∧(RS Ke q_.2.2.2.2.2.2.2.2.2.2.2.2.2.2.2.2.2.2.2.2.2.2 q_.2.2.2.2.2.2.2.2.2.2.2.2.2.2.1 q_.2.2.2.2.2.2.2.2.2.2.2.2.2.2.2.1 q_.2.1.town.net.way)∧(J1 Vd q_.2.2.2.2.2.2.2.2.2.2.2.2.2.2.2.2.2.2.2.2.2.2 q_.2.2.2.2.2.2.2.2.2.2.2.2.2.2.2.2.1 q_.2.2.2.2.2.2.2.2.2.2.2.2.2.2.2.2.2.1 q_.2.1.fates q_.2.2.2.2.2.2.2.2.2.2.2.2.2.2.2.2.2.2.1)∧(J1 QU q_.2.2.2.2.2.2.2.2.2.2.2.2.2.2.2.2.2.2.2.2.2.2 q_.2.2.2.2.2.2.2.2.2.2.2.2.2.2.2.2.2.2.2.1 q_.2.2.2.2.2.2.2.2.2.2.2.2.2.2.2.2.2.2.2.2.1 q_.2.1.events q_.2.2.2.2.2.2.2.2.2.2.2.2.2.2.2.2.2.2.2.2.2.1)∧(rI q_.2.1.town.clerk.queue.most)∧(rI q_.2.1.town.clerk.batch)∧(rI q_.2.1.town.clerk.every)∧(rI q_.2.1.town.clerk.now)∧(rI q_.2.1.town.net.now)∧(rI q_.2.1.reach)∧(q_.2.1=JaP (Qw s) (l.take q_.1))) (fun q_=>[(4,Pt b2 0),(7,Pt b3 0),(27,Sl a_l l.length c_l),(28,I (l.length:Int)),(29,I (q_.1:Int))]) (fun q_=>q_.2.2.2.2.2.2.2.2.2.2.2.2.2.2.2.2.2.2.2.2.2.2) (fun q_=>([Sg b3 0 (J7 q_.2.1 q_.2.2.1 q_.2.2.2.1 q_.2.2.2.2.1 q_.2.2.2.2.2.1 q_.2.2.2.2.2.2.1 q_.2.2.2.2.2.2.2.1 q_.2.2.2.2.2.2.2.2.1 q_.2.2.2.2.2.2.2.2.2.1 q_.2.2.2.2.2.2.2.2.2.2.2.1 q_.2.2.2.2.2.2.2.2.2.2.2.2.1 q_.2.2.2.2.2.2.2.2.2.2.2.2.2.2.1 q_.2.2.2.2.2.2.2.2.2.2.2.2.2.2.2.1 q_.2.2.2.2.2.2.2.2.2.2.2.2.2.2.2.2.1 q_.2.2.2.2.2.2.2.2.2.2.2.2.2.2.2.2.2.1 q_.2.2.2.2.2.2.2.2.2.2.2.2.2.2.2.2.2.2.2.1 q_.2.2.2.2.2.2.2.2.2.2.2.2.2.2.2.2.2.2.2.2.1)]::q_.2.2.2.2.2.2.2.2.2.2.1::q_.2.2.2.2.2.2.2.2.2.2.2.2.2.1::q_.2.2.2.2.2.2.2.2.2.2.2.2.2.2.2.2.2.2.1::q_.2.2.2.2.2.2.2.2.2.2.2.2.2.2.2.2.2.2.2.2.2.1::[Sg b2 0 [I 0,Sl none 0 0,I 0,I 0,I 0,Sl none 0 0,Sl none 0 0,Sl none 0 0,Sl none 0 0,I 0,Sl none 0 0]]::[Sg b1 0 (QJ s a1 c1 a2 c2)]::r_l::Lr)) (fun q_=>l.length-q_.1) (0,(Qw s),a3,c3,a4,c4,a5,c5,a6,c6,r1,a7,c7,r2,a8,c8,a9,c9,r3,a10,c10,r4,G1) ⟨(Jh _),(by (try dsimp only);exact Ht _),hs3,hs4,hs5,hr1,hr2,hs6,hr3,hr4,w8,w9,w10,w11,w12,w13,(by (try dsimp only);rfl)⟩ (fun q_ hs=>?_)
 obtain ⟨i,jt,ajt0,cjt0,ajt1,cjt1,ajt2,cjt2,ajt3,cjt3,rjt7,ajt4,cjt4,rjt8,ajt5,cjt5,ajt6,cjt6,rjt12,ajt7,cjt7,rjt13,g⟩:=q_
 obtain ⟨hle,hi,hjt1,hjt5,hjt6,hjt7,hjt8,hjt10,hjt12,hjt13,hjt0,hjt2,hjt3,hjt4,hjt9,hjt11,hJ⟩:=hs
 dsimp only at hle hi hjt1 hjt5 hjt6 hjt7 hjt8 hjt10 hjt12 hjt13 hjt0 hjt2 hjt3 hjt4 hjt9 hjt11 hJ
 dsimp only
 refine Jg [0] [(30,Bo (decide ((i:Int)<(l.length:Int))))] (Jf (Jl (decide ((i:Int)<(l.length:Int))) (fun h4=>?_) (fun h4=>?_)))
 refine Jq (Jb (Jf (Jy (Jf (Jd ?_)))))
 obtain ⟨x1,hx1⟩:=Wf (l:=l) (k:=i) (by omega)
 obtain ⟨b4,o1,_,_,⟨a11,c11,a12,c12,a13,c13,a14,c14,rfl,w14,w15,w16,hs7,w17,w18,w19,w20,hs8,w21,w22,w23,w24,w25,hs9,hs10⟩,ha1,hre1,hc1⟩:=J1.ix (h_l.mono (Ja hl1 hle)) hx1
 refine QK (b:=b4) (off:=o1) (len:=l.length) (cap:=c_l) (ik:=.i64) 31 53 16 i ha1 J8 (W7 (off:=o1) (p:=i*16) (cs:=(WI x1 a11 c11 a12 c12 a13 c13 a14 c14)) 32 53 7 0 (JcV x1 a11 c11 a12 c12 a13 c13 a14 c14) hre1 hc1 (Jv 10 #[I 0,I 0,Sr ([]),Sl none 0 0,I 0,I 0,I 0,I 0,Sl none 0 0,I 0,U 0,U 0,I 0,Sr ([]),Sl none 0 0,Sl none 0 0] 53 (fun b5=>JV [3] [] ([Sg b5 0 (WI x1 a11 c11 a12 c12 a13 c13 a14 c14)]::[Sg b3 0 (J7 jt ajt0 cjt0 ajt1 cjt1 ajt2 cjt2 ajt3 cjt3 ajt4 cjt4 ajt5 cjt5 ajt6 cjt6 ajt7 cjt7)]::rjt7::rjt8::rjt12::rjt13::[Sg b2 0 [I 0,Sl none 0 0,I 0,I 0,I 0,Sl none 0 0,Sl none 0 0,Sl none 0 0,Sl none 0 0,I 0,Sl none 0 0]]::[Sg b1 0 (QJ s a1 c1 a2 c2)]::r_l::Lr) (Je (Jb (Jd (Jc [0,2] [(33,Pt b3 0),(34,(JcV x1 a11 c11 a12 c12 a13 c13 a14 c14))] (Jw 5 (Jw 5 (Jw 5 (Jw 5 (Jw 5 (Qp (Ls:=[[Sg b3 0 (J7 jt ajt0 cjt0 ajt1 cjt1 ajt2 cjt2 ajt3 cjt3 ajt4 cjt4 ajt5 cjt5 ajt6 cjt6 ajt7 cjt7)],rjt7,rjt8,rjt12,rjt13]) (Lr:=([Sg b5 0 (WI x1 a11 c11 a12 c12 a13 c13 a14 c14)]::[Sg b2 0 [I 0,Sl none 0 0,I 0,I 0,I 0,Sl none 0 0,Sl none 0 0,Sl none 0 0,Sl none 0 0,I 0,Sl none 0 0]]::[Sg b1 0 (QJ s a1 c1 a2 c2)]::r_l::Lr)) 35 (Jli g b3 jt ajt0 cjt0 ajt1 cjt1 ajt2 cjt2 ajt3 cjt3 ajt4 cjt4 ajt5 cjt5 ajt6 cjt6 ajt7 cjt7 rjt7 rjt8 rjt12 rjt13 hjt0 hjt1 hjt2 hjt3 hjt4 hjt5 hjt6 hjt7 hjt8 hjt9 hjt10 hjt11 hjt12 hjt13 (WI x1 a11 c11 a12 c12 a13 c13 a14 c14) x1 (⟨a11,c11,a12,c12,a13,c13,a14,c14,rfl,w14,w15,w16,hs7,w17,w18,w19,w20,hs8,w21,w22,w23,w24,w25,hs9,hs10⟩) (by exact (Jbw hbe hJ).1) (by (have q_:=(Jbw hbe hJ);omega)) (by (have q_:=(Jbw hbe hJ);omega))) (fun v G2 L1 hl2 hp=>?_))))))))))))))
 obtain ⟨a15,c15,a16,c16,a17,c17,a18,c18,a19,c19,a20,c20,a21,c21,a22,c22,r5,r6,r7,r8,rfl,_,hs11,_,_,_,hs12,hs13,hr5,hr6,_,hs14,_,hr7,hr8,rfl⟩:=hp
 refine Je (JN (Jb (Jd (Jc [0,0] [(29,I (Hh.wrap ((i:Int)+1)))] (Kr 29 ((i:Int)+1) J8 (Je (Jk 8 (Jk 8 (Jk 8 (Jk 7 (Jk 7 (Jk 7 (Jk 7 ?_)))))))))))))
 refine Jk 7 ?_
 exact Qr ([Sg b3 0 (J7 (YJ jt x1) a15 c15 a16 c16 a17 c17 a18 c18 a19 c19 a20 c20 a21 c21 a22 c22)]::r5::r6::r7::r8::[Sg b2 0 [I 0,Sl none 0 0,I 0,I 0,I 0,Sl none 0 0,Sl none 0 0,Sl none 0 0,Sl none 0 0,I 0,Sl none 0 0]]::[Sg b1 0 (QJ s a1 c1 a2 c2)]::r_l::Lr) (Qi (i+1,(YJ jt x1),a15,c15,a16,c16,a17,c17,a18,c18,r5,a19,c19,r6,a20,c20,a21,c21,r7,a22,c22,r8,G2) ⟨(Ja hle hl2),J8,hs11,hs12,hs13,hr5,hr6,hs14,hr7,hr8,‹_›,‹_›,‹_›,‹_›,‹_›,‹_›,(by (try dsimp only);rw [← JgO hx1,← hJ])⟩ (by (try dsimp only);omega))
 refine KW (JY (J9 (JT (Jb (Jf (Kp [8] (Wl [(0,Pt b3 0),(1,Pt b3 0),(2,Pt b3 0),(3,(Y8 jt.town ajt0 cjt0 ajt1 cjt1 ajt2 cjt2 ajt3 cjt3 ajt4 cjt4 ajt5 cjt5)),(4,Pt b3 0),(5,Pt b3 0),(6,Pt b3 13),(7,Sl ajt7 jt.events.length cjt7)] (JK [] [(0,0),(1,0),(2,0),(3,2),(4,0),(5,0),(6,0),(7,2)] [] [8] (Ha _) (Ki ?_ K8)))))))))
 refine JC 8 [(4,Pt b2 0),(40,(Y8 jt.town ajt0 cjt0 ajt1 cjt1 ajt2 cjt2 ajt3 cjt3 ajt4 cjt4 ajt5 cjt5))] (fun X=>?_)
 refine KN 5 ([Sg b3 0 (J7 jt ajt0 cjt0 ajt1 cjt1 ajt2 cjt2 ajt3 cjt3 ajt4 cjt4 ajt5 cjt5 ajt6 cjt6 ajt7 cjt7)]::rjt7::rjt8::rjt12::rjt13::[Sg b2 0 (Zq jt.town ajt0 cjt0 ajt1 cjt1 ajt2 cjt2 ajt3 cjt3 ajt4 cjt4 ajt5 cjt5)]::[Sg b1 0 (QJ s a1 c1 a2 c2)]::r_l::Lr) (Ka [(9,Sl ajt7 jt.events.length cjt7),(10,I 0)] (Km [0,1,2,3] [(4,0),(5,0),(6,0),(7,2),(9,0),(10,0)] [] [(4,Pt b2 0),(5,Sl ajt7 jt.events.length cjt7),(6,I 0)] (Ha _) (Jb (Jn (Wp (E:=QB) 1 hjt7 (by have q_:=(Jbw hbe hJ);have q1_:=q_.1.len;have q2_:=q_.1.polls;simp only [QB,Wg,QU];omega) (fun G3 hl3 hs15=>Wp (E:=Wg) 2 (hjt8.mono hl3) (by have q_:=(Jbw hbe hJ);have q1_:=q_.1.len;have q2_:=q_.1.polls;simp only [QB,Wg,QU];omega) (fun G4 hl4 hs16=>Wp (E:=QU) 4 (hjt13.mono (Ja hl3 hl4)) (by have q_:=(Jbw hbe hJ);have q1_:=q_.1.len;have q2_:=q_.1.polls;simp only [QB,Wg,QU];omega) (fun G5 hl5 hs17=>?_))))))))
 have hf4:Jr s l=(jt.town,jt.events,0):=by
  (rw [Jja ‹_› (by omega) hJ (by omega)];done)
 refine Jo [5,0,0] [(Y8 jt.town ajt0 cjt0 ajt1 cjt1 ajt2 cjt2 ajt3 cjt3 ajt4 cjt4 ajt5 cjt5),Sl ajt7 jt.events.length cjt7,I 0] (KT (Lr:=Lr) [r_l] (Ja (Ja (Ja (Ja hl1 hle) hl3) hl4) hl5) ?_)
 rw [hf4]
 try dsimp only
 exact ⟨ajt0,cjt0,ajt1,cjt1,ajt2,cjt2,ajt3,cjt3,ajt4,cjt4,ajt5,cjt5,ajt7,cjt7,rfl,hjt0,(hjt1.mono (Ja (Ja hl3 hl4) hl5)),hjt2,hjt3,hjt4,(hjt5.mono (Ja (Ja hl3 hl4) hl5)),(hjt6.mono (Ja (Ja hl3 hl4) hl5)),(hs15.mono (Ja hl4 hl5)),(hs16.mono hl5),hjt9,(hjt10.mono (Ja (Ja hl3 hl4) hl5)),hs17,rfl⟩
def Kl (s:List UInt8):Int×Int:=match Ja0 s with
 | some v=>if (v<0∨s.length > 9)∨¬ Lib.itoa v=s then (0,3) else (v,0)
 | none=>(0,3)
theorem Jmv {s:List UInt8} (h:Ja0 s=none):(Kl s).2=3:=by unfold Kl;rw [h]
theorem Jjb {s:List UInt8} {v:Int} (h:Ja0 s=some v) (hb:(v<0∨s.length > 9)∨¬ Lib.itoa v=s):(Kl s).2=3:=by unfold Kl;rw [h];simp only;rw [if_pos hb]
theorem Jpa {s:List UInt8} {v:Int} (h:Ja0 s=some v) (h1:0≤v) (h2:s.length≤9) (h3:Lib.itoa v=s):(Kl s).2=0∧(Kl s).1=v:=by
 unfold Kl;rw [h];simp only;rw [if_neg (by rintro ((q | q) | q);omega;omega;exact q h3)];exact ⟨rfl,rfl⟩
theorem Vo (s:List UInt8):0≤(Kl s).1∧(Kl s).1<9223372036854775808:=by
 unfold Kl
 split
 ·
  rename_i v hv
  have:=JgD hv
  split
  · simp
  · rename_i h;simp only;omega
 · simp
theorem Joh (s:List UInt8):(Kl s).2=0∨(Kl s).2=3:=by
 unfold Kl
 split
 · split <;> simp
 · simp
def Jdk (l:List (List UInt8)):List Int×Int:=if ∃ s∈l,¬ (Kl s).2=0 then ([],3) else (l.map fun s=>(Kl s).1,0)
theorem JeY (n:Int) (h:-9223372036854775808≤n∧n<9223372036854775808:=by omega):(Lib.itoa n).length≤21:=Lib.itoa_length_le n h.1 (by omega)
abbrev JaH (e:Int):Value:=.iface 122 (.agg #[I e])
theorem Z9 (G:J4)  (e:Int) :JaJ Tryz.prog 49 #[I e] G [] (fun u G' L'=>(e=0)∧u=.tuple #[]∧L'=[]) (fun u _ L'=>(¬ e=0)∧u=JaH e∧L'=[]):=by
 refine YM Tryz.func49 7 [(0,I e)] rfl (fun w0 G0 hT=>Jg [0,0] [(3,Bo (!decide (e=0)))] (Jl (!decide (e=0)) (fun h1=>?_) (fun h1=>?_)))
 refine Jd (Jc [0,0,0] [(6,.iface 122 (.agg #[I e]))] (JjD 122 (.agg #[I e]) ?_))
 have hp1:e=e:=by
  rfl
 refine ZU (JcS [] (Jh _) ?_)
 rw [hp1];exact ⟨h1,rfl,rfl⟩
 refine Jq ?_
 have hf1:e=0:=by
  assumption
 exact ZD [] [] (bpx (JA [] (Jh _) (⟨hf1,rfl,rfl⟩)))
theorem VO (G:J4)  (s:List UInt8) (hs:s.length≤140737488351232):JaJ Tryz.prog 136 #[Sr s] G [] (fun u G' L'=>((Kl s).2=0)∧u=I ((Kl s).1)∧L'=[]) (fun u _ L'=>(¬ (Kl s).2=0)∧u=JaH ((Kl s).2)∧L'=[]):=by
 refine YM Tryz.func136 29 [(0,Sr s)] rfl (fun w0 G0 hT=>Jg [0] [] (Jf (Jd (Jc [0] [(6,Sr s)] (Jaf (Ls:=[]) (Lr:=[]) 7 hT ((Jnj G s J8).frame) (fun v G1 L1 hl1 hp=>?_))))))
 rcases hp with ⟨⟨v1,ha1,rfl⟩ | ⟨ha1,v2,b1,rfl⟩,rfl⟩
 refine Jc [0,0,0,0,0] [(3,I v1),(4,.nilIface)] (Je (Jb (Jf (Jf (Jd (Jc [0,0,0,0,0,0,0] [(16,Bo (decide (v1<0)))] (Ks (decide (v1<0)) [16] [1,1,1,0] [0,0,0,0] (fun bb=>[(20,Bo (bb || (decide (((s).length:Int) > 9))))]) (Jc [0] [(21,Bo ((decide (v1<0)) || (decide (((s).length:Int) > 9))))] (QY [21] ((decide (v1<0)) || (decide (((s).length:Int) > 9))) (fun h1=>?_) (fun h1=>?_))))))))))
 refine Jc [1,1,1,1,0] [(26,Bo true)] (Je (Jb (JW (Jd (QL (Ls:=[]) (Lr:=[]) 27 hT ((Z9 G1 3).frame) (fun v G2 L1 hl2 hp=>?_) (fun v G2 L1 hl2 hp=>?_))))))
 obtain ⟨hne1,rfl,rfl⟩:=hp
 refine KO ?_
 have hp1:(Kl s).2=3:=by
  exact Jjb ‹_› (.inl J8)
 refine ZU (JcS [] (Ja hl1 hl2) ?_)
 rw [hp1];exact ⟨hne1,rfl,rfl⟩
 obtain ⟨he1,rfl,rfl⟩:=hp
 exact absurd he1 (by decide)
 refine Jc [0] [(22,I v1)] (Jea 23 (Sr (Lib.itoa v1)) hT (Jie G1 v1 (JgD ha1)) (Jc [0,0,0] [(26,Bo (!((B (Lib.itoa v1)).toList == (B s).toList)))] (KU 26 (Bo (!(Lib.itoa v1 == s))) (show (Bo (!((B (Lib.itoa v1)).toList == (B s).toList)):Value)=Bo (!(Lib.itoa v1 == s)) by simp only [Q3]) (Je (Jb (Jl (!(Lib.itoa v1 == s)) (fun h2=>?_) (fun h2=>?_)))))))
 refine Jd (QL (Ls:=[]) (Lr:=[]) 27 hT ((Z9 G1 3).frame) (fun v G3 L1 hl3 hp=>?_) (fun v G3 L1 hl3 hp=>?_))
 obtain ⟨hne2,rfl,rfl⟩:=hp
 refine KO ?_
 have hp3:(Kl s).2=3:=by
  exact Jjb ‹_› (.inr ‹_›)
 refine ZU (JcS [] (Ja hl1 hl3) ?_)
 rw [hp3];exact ⟨hne2,rfl,rfl⟩
 obtain ⟨he2,rfl,rfl⟩:=hp
 exact absurd he2 (by decide)
 refine Jq (Jb (Jg [0,0] [(2,I v1)] (Jn ?_)))
 have hf1:(Kl s).2=0∧(Kl s).1=v1:=by
  exact Jpa ‹_› J8 J8 (by simp_all)
 refine Jo [0] [I v1] (bpx (JA [] hl1 ?_))
 rw [hf1.2]
 try dsimp only
 exact ⟨hf1.1,rfl,rfl⟩
 refine Jc [0,0,0,0,0] [(3,I v2),(4,.iface (Jhg.t 168) (Pt b1 0))] (Je (Jb (Jf (Jg [0,0,0,1,1,0,0,1,1,1,0,0,1,1,1,1,0] [(26,Bo true)] (JW (Jd (QL (Ls:=[]) (Lr:=[]) 27 hT ((Z9 G1 3).frame) (fun v G4 L1 hl4 hp=>?_) (fun v G4 L1 hl4 hp=>?_))))))))
 obtain ⟨hne3,rfl,rfl⟩:=hp
 refine KO ?_
 have hp5:(Kl s).2=3:=by
  exact Jmv ‹_›
 refine ZU (JcS [] (Ja hl1 hl4) ?_)
 rw [hp5];exact ⟨hne3,rfl,rfl⟩
 obtain ⟨he3,rfl,rfl⟩:=hp
 exact absurd he3 (by decide)
theorem Jjc (G:J4) (a_l:Option Addr) (c_l:Nat) (p:K6) (h_l:RS WO G a_l c_l [p]) (n:Nat) (hn:n≤1000):Vp Tryz.prog 19 #[Sl a_l 1 c_l,I (n:Int)] G [] (fun u G' L'=>∃ a' c' r,u=Sl a' (Hb n p).length c'∧J1 WO G' a' c' (Hb n p) r∧L'=[r]):=by
 obtain ⟨bx,ox,rfl⟩:=RS.addr h_l (k:=0) (by simp)
 obtain ⟨csx,h_p,hcx⟩:=RS.get h_l (k:=0) (x:=p) rfl
 have h1x:=WO.one h_p
 obtain ⟨a1,c1,a2,c2,a3,c3,a4,c4,rfl,_,_,_,_,_,_,_,_,_,_,_,_,_,_,_,_⟩:=id h_p
 rw [Nat.zero_mul,Nat.add_zero] at hcx
 refine JR Tryz.func19 48 [(0,Sl (At bx ox) 1 c_l),(1,I (n:Int))] rfl (fun w0 G0=>?_)
 refine Jg [0] [] (Jf (Jg [0,0] [(10,Bo (decide ((n:Int)<0)))] (Jl (decide ((n:Int)<0)) (fun h1=>?_) (fun h1=>?_))))
 exfalso;omega
 refine Jq (Jb (Jf (Jd (Jc [0,0,0,0,0] [(15,U (Hm.wrap (1:Int))),(17,U (Hm.wrap (n:Int)))] (JaU 17 (n:Int) J8 (Jm 18 (.tuple #[U 0,U (n:Int)]) (Ji4 (n:Int) J8 G) (Jc [0,0,0,0,0] [(5,U 0),(6,U (n:Int))] (Je (Jb (Jf (Jg [0,0,0,0,0,0] [(26,Bo (decide ((n:Int) > 9223372036854775807)))] (Jl (decide ((n:Int) > 9223372036854775807)) (fun h2=>?_) (fun h2=>?_)))))))))))))
 exfalso;omega
 refine Jq (Jb (Jf (Jd (Jc [0,0] [(29,I (Hh.wrap (n:Int)))] (Kr 29 (n:Int) J8 (JfJ (z:=(.agg #[I 0,I 0,Sr ([]),Sl none 0 0,I 0,I 0,I 0,I 0,Sl none 0 0,I 0,U 0,U 0,I 0,Sr ([]),Sl none 0 0,Sl none 0 0])) (bytes:=208) 30 38 53 n 16 J8 J8 (by kernel_rfl) (fun bz Fz hFz=>Jc [0] [(7,Sl (At bz 0) n n)] (Je (Jb (Jf (Jd (Jc [0,0] [(31,Sl (At bz 0) n n),(32,Sl (At bx ox) 1 c_l)] (VI (b:=bz) (off:=0) (p:=0) (nd:=n) (cd:=n) (bs:=bx) (os:=ox) (ns:=1) (cs:=c_l) (F:=Fz) 33 0 16 (JfK (WI p a1 c1 a2 c2 a3 c3 a4 c4) n) (JbQ _ _) (by rw [JbQ,hFz,Nat.zero_add];exact Nat.mul_le_mul_right _ (Nat.min_le_right 1 n)) (fun u hu=>h1x u (Ji3 hu)) (Jlj hcx) (Jc [0] [(8,I ((Hf 1 n:Nat):Int))] (Je (Jb (Jf (Jy ?_))))))))))))))))))
 refine Qh (σ:=Nat×List Value) (fun q_=>(JcE (WI p a1 c1 a2 c2 a3 c3 a4 c4) n q_.1 q_.2)) (fun q_=>[(7,Sl (At bz 0) n n),(8,I (q_.1:Int))]) (fun q_=>G) (fun q_=>[[Sg bz 0 q_.2]]) (fun q_=>n-q_.1) ((Hf 1 n),(QP Fz 0 (JfK (WI p a1 c1 a2 c2 a3 c3 a4 c4) n))) (.start hFz) (fun q_ hs=>?_)
 obtain ⟨k,F⟩:=q_
 have hI:=hs
 dsimp only at hI
 dsimp only
 refine Jf (Jg [0,0,0,0] [(37,Bo (decide ((k:Int)<(n:Int))))] (Jl (decide ((k:Int)<(n:Int))) (fun h3=>?_) (fun h3=>?_)))
 refine Jq (Jb (Jy (Kp [7] (Wl [(0,I (k:Int)),(1,Sl (At bz 0) n n),(2,I (k:Int)),(3,Sl (At bz (0+k*16)) (n-k) (n-k)),(4,Sl (At bz 0) n n),(5,I (k:Int)),(6,Sl (At bz 0) k n)] (JK [] [(0,0),(1,0),(2,0),(4,0),(5,0)] [3,6] [7] (Ki ?_ (Ki ?_ K8)) (Ki ?_ K8))))))
 refine Jt 3 41 (Sl (At bz (0+k*16)) (n-k) (n-k)) [(39,Sl (At bz 0) n n),(40,I (k:Int))] (fun X=>?_)
 exact Vh (b:=bz) (off:=0) (len:=n) (cap:=n) 41 16 (some (I (k:Int))) none k n (.inr ⟨_,rfl⟩) (.inl ⟨rfl,rfl⟩) J8 J8 J8 Jp
 refine Jt 6 44 (Sl (At bz 0) k n) [(42,Sl (At bz 0) n n),(43,I (k:Int))] (fun X=>?_)
 exact JbV (b:=bz) (off:=0) (len:=n) (cap:=n) 44 16 (some (I (k:Int))) k (.inr ⟨_,rfl⟩) J8 Jp
 refine JC 7 [(41,Sl (At bz (0+k*16)) (n-k) (n-k)),(44,Sl (At bz 0) k n)] (fun X=>?_)
 refine VI (b:=bz) (off:=0) (p:=k*16) (nd:=n-k) (cd:=n-k) (bs:=bz) (os:=0) (ns:=k) (cs:=n) (F:=F) 45 0 16 (F.take (Hf k (n-k)*16)) (hI.xlen (Z2 _ _).1) (by have q_:(F.take (Hf k (n-k)*16)).length=Hf k (n-k)*16:=hI.xlen (Z2 _ _).1;have q1_:F.length=n*16:=hI.len;have q2_:=Z2 k (n-k);omega) (hI.one (Z2 _ _).1 h1x) (Jlk 0 rfl) ?_
 have e1:Hh.wrap ((k:Int)+((Hf k (n-k):Nat):Int))=((k+Hf k (n-k):Nat):Int):=(Hu _ (by (have q_:=Z2 k (n-k);have q2_:=hI.le;omega))).trans (show (k:Int)+((Hf k (n-k):Nat):Int)=((k+Hf k (n-k):Nat):Int) from (Int.natCast_add _ _).symm)
 refine JD [(7,I ((Hf k (n-k):Nat):Int)),(8,I ((k+Hf k (n-k):Nat):Int)),(9,I ((k+Hf k (n-k):Nat):Int))] (Km [1,2,3,4,5,6] [(0,0),(9,0)] [8] [(7,Sl (At bz 0) n n),(8,I ((k+Hf k (n-k):Nat):Int))] (Ki ?_ K8) ?_)
 refine Jt 8 46 (I ((k+Hf k (n-k):Nat):Int)) [(38,I (k:Int)),(45,I ((Hf k (n-k):Nat):Int))] (fun X=>?_)
 exact KV 46 (I (Hh.wrap ((k:Int)+((Hf k (n-k):Nat):Int)))) (I ((k+Hf k (n-k):Nat):Int)) (by simp only [e1]) Jp
 exact JN (Qi (k+Hf k (n-k),(QP F (k*16) (F.take (Hf k (n-k)*16)))) (hI.next (Z2 _ _).1 (by (try dsimp only);have q_:=Z2 k (n-k);have q2_:=hI.le;omega)) (by (try dsimp only);have q_:=hI.pos;have q2_:=Z2 k (n-k);omega))
 refine KW (JY (J9 (JT (Jb (Jg [0,0] [(4,Sl (At bz 0) n n)] (Jn ?_))))))
 have hrw:=hI.row (E:=WO) (G:=G) (x:=p) (b:=bz) (by omega) h_p (by omega)
 refine Jdt 4 (Sl (At bz 0) ((Hb n p).length) n) (show (Sl (At bz 0) n n:Value)=Sl (At bz 0) ((Hb n p).length) n by simp only [Hl]) (Jk 0 ?_)
 have hf1:Hb n p=(Hb n p):=by
  rfl
 refine Jo [0] [Sl (At bz 0) ((Hb n p).length) n] (JA [[Sg bz 0 F]] (Jh _) ?_)
 rw [hf1]
 try dsimp only
 exact ⟨(At bz 0),n,([Sg bz 0 F]),rfl,hrw,rfl⟩
structure KS where
 setup:Kv
 deeds:List K6
abbrev KP (x:KS) (a0:Option Addr) (c0:Nat) (a1:Option Addr) (c1:Nat) (a2:Option Addr) (c2:Nat):List Value:=[Sl a0 x.setup.names.length c0,Sl a1 x.setup.keys.length c1,I x.setup.most,I x.setup.batch,I x.setup.every,I x.setup.least,I x.setup.top,I x.setup.lost,I x.setup.reach,Sl a2 x.deeds.length c2]
abbrev vDesk (x:KS) (a0:Option Addr) (c0:Nat) (a1:Option Addr) (c1:Nat) (a2:Option Addr) (c2:Nat):Value:=.agg #[Sl a0 x.setup.names.length c0,Sl a1 x.setup.keys.length c1,I x.setup.most,I x.setup.batch,I x.setup.every,I x.setup.least,I x.setup.top,I x.setup.lost,I x.setup.reach,Sl a2 x.deeds.length c2]
def Zx (t:KS) (s:Kv):KS×Int:=if t.deeds.length > 0 then (t,9) else if ¬ (Jr s []).2.2=0 then (t,(Jr s []).2.2) else (⟨s,t.deeds⟩,0)
theorem Jmw {t:KS} {s:Kv} (h:t.deeds.length > 0):(Zx t s).2=9:=by unfold Zx;rw [if_pos h]
theorem Joi {t:KS} {s:Kv} (h:¬ t.deeds.length > 0) (h2:¬ (Jr s []).2.2=0):(Zx t s).2=(Jr s []).2.2:=by unfold Zx;rw [if_neg h,if_pos h2]
theorem Jln {t:KS} {s:Kv} (h:¬ t.deeds.length > 0) (h2:(Jr s []).2.2=0):(Zx t s).2=0∧(Zx t s).1=⟨s,t.deeds⟩:=by unfold Zx;rw [if_neg h,if_neg (by rw [Decidable.not_not];exact h2)];exact ⟨rfl,rfl⟩
def ZR (t:KS) (l:List K6):KS×Int:=if (l.length:Int) > 200-t.deeds.length then (t,2) else (⟨t.setup,t.deeds++l⟩,0)
theorem Joj {t:KS} {l:List K6} (h:(l.length:Int) > 200-t.deeds.length):(ZR t l).2=2:=by unfold ZR;rw [if_pos h]
theorem Jlo {t:KS} {l:List K6} (h:¬ (l.length:Int) > 200-t.deeds.length):(ZR t l).2=0∧(ZR t l).1=⟨t.setup,t.deeds++l⟩:=by unfold ZR;rw [if_neg h];exact ⟨rfl,rfl⟩
def cmdT:List (List UInt8):=[[99,108,101,114,107],[112,111,108,108,115],[114,101,97,99,104],[111,119,110,101,114],[119,97,110,116],[102,97,116,101],[116,105,99,107],[110,111,119],[108,111,111,107],[101,118,101,110,116,115],[115,101,101,110],[109,97,114,107]]
def KM (w:List UInt8):Nat:=cmdT.findIdx (fun x=>decide (w=x))
def Yt (c:Nat):Int:=[3,3,1,2,2,-1,1,0,2,0,1,0][c]?.getD 0
def VP (c:Nat):FuncId:=[78,79,80,81,82,83,84,85,86,87,88,89][c]?.getD 0
theorem Jok (G:J4) (w:List UInt8):JaJ Tryz.prog 48 #[Sr w] G [] (fun u _ L'=>(KM w<12)∧u=.agg #[I (Yt (KM w)),Fv (VP (KM w)) #[]]∧L'=[]) (fun u _ L'=>(KM w=12)∧u=JaH 1∧L'=[]):=by
 refine YM Tryz.func48 42 [(0,Sr w)] rfl (fun w0 G0 hT=>Jf (Jd (Jv 2 #[I 0,.nilFunc] 127 (fun b1=>Je (Jb (Jf (Jg [0] [(3,Sr w)] (Jy (Jg [0,0] [(4,Bo ((B w).toList == (B ([99,108,101,114,107])).toList))] (Q2 4 (Bo (w == [99,108,101,114,107])) (show (Bo ((B w).toList == (B ([99,108,101,114,107])).toList):Value)=Bo (w == [99,108,101,114,107]) by simp only [Q3]) (Jl (w == [99,108,101,114,107]) (fun h1=>?_) (fun h1=>?_))))))))))))
 refine QA [0,3] [] [[Sg b1 0 [I 3,Fv 78 #[]]]] (Jn (Js (Jj (Jo [0] [.agg #[I 3,Fv 78 #[]]] (bpx (JA [] (Jh _) ?_))))))
 subst h1;exact ⟨by decide,rfl,rfl⟩
 refine Jg [0,0] [(7,Bo ((B w).toList == (B ([112,111,108,108,115])).toList))] (Q2 7 (Bo (w == [112,111,108,108,115])) (show (Bo ((B w).toList == (B ([112,111,108,108,115])).toList):Value)=Bo (w == [112,111,108,108,115]) by simp only [Q3]) (Jl (w == [112,111,108,108,115]) (fun h2=>?_) (fun h2=>?_)))
 refine QA [0,3] [] [[Sg b1 0 [I 3,Fv 79 #[]]]] (Jn (Js (Jj (Jo [0] [.agg #[I 3,Fv 79 #[]]] (bpx (JA [] (Jh _) ?_))))))
 subst h2;exact ⟨by decide,rfl,rfl⟩
 refine Jg [0,0] [(10,Bo ((B w).toList == (B ([114,101,97,99,104])).toList))] (Q2 10 (Bo (w == [114,101,97,99,104])) (show (Bo ((B w).toList == (B ([114,101,97,99,104])).toList):Value)=Bo (w == [114,101,97,99,104]) by simp only [Q3]) (Jl (w == [114,101,97,99,104]) (fun h3=>?_) (fun h3=>?_)))
 refine QA [0,3] [] [[Sg b1 0 [I 1,Fv 80 #[]]]] (Jn (Js (Jj (Jo [0] [.agg #[I 1,Fv 80 #[]]] (bpx (JA [] (Jh _) ?_))))))
 subst h3;exact ⟨by decide,rfl,rfl⟩
 refine Jg [0,0] [(13,Bo ((B w).toList == (B ([111,119,110,101,114])).toList))] (Q2 13 (Bo (w == [111,119,110,101,114])) (show (Bo ((B w).toList == (B ([111,119,110,101,114])).toList):Value)=Bo (w == [111,119,110,101,114]) by simp only [Q3]) (Jl (w == [111,119,110,101,114]) (fun h4=>?_) (fun h4=>?_)))
 refine QA [0,3] [] [[Sg b1 0 [I 2,Fv 81 #[]]]] (Jn (Js (Jj (Jo [0] [.agg #[I 2,Fv 81 #[]]] (bpx (JA [] (Jh _) ?_))))))
 subst h4;exact ⟨by decide,rfl,rfl⟩
 refine Jg [0,0] [(16,Bo ((B w).toList == (B ([119,97,110,116])).toList))] (Q2 16 (Bo (w == [119,97,110,116])) (show (Bo ((B w).toList == (B ([119,97,110,116])).toList):Value)=Bo (w == [119,97,110,116]) by simp only [Q3]) (Jl (w == [119,97,110,116]) (fun h5=>?_) (fun h5=>?_)))
 refine QA [0,3] [] [[Sg b1 0 [I 2,Fv 82 #[]]]] (Jn (Js (Jj (Jo [0] [.agg #[I 2,Fv 82 #[]]] (bpx (JA [] (Jh _) ?_))))))
 subst h5;exact ⟨by decide,rfl,rfl⟩
 refine Jg [0,0] [(19,Bo ((B w).toList == (B ([102,97,116,101])).toList))] (Q2 19 (Bo (w == [102,97,116,101])) (show (Bo ((B w).toList == (B ([102,97,116,101])).toList):Value)=Bo (w == [102,97,116,101]) by simp only [Q3]) (Jl (w == [102,97,116,101]) (fun h6=>?_) (fun h6=>?_)))
 refine QA [0,3] [] [[Sg b1 0 [I (-1),Fv 83 #[]]]] (Jn (Js (Jj (Jo [0] [.agg #[I (-1),Fv 83 #[]]] (bpx (JA [] (Jh _) ?_))))))
 subst h6;exact ⟨by decide,rfl,rfl⟩
 refine Jg [0,0] [(22,Bo ((B w).toList == (B ([116,105,99,107])).toList))] (Q2 22 (Bo (w == [116,105,99,107])) (show (Bo ((B w).toList == (B ([116,105,99,107])).toList):Value)=Bo (w == [116,105,99,107]) by simp only [Q3]) (Jl (w == [116,105,99,107]) (fun h7=>?_) (fun h7=>?_)))
 refine QA [0,3] [] [[Sg b1 0 [I 1,Fv 84 #[]]]] (Jn (Js (Jj (Jo [0] [.agg #[I 1,Fv 84 #[]]] (bpx (JA [] (Jh _) ?_))))))
 subst h7;exact ⟨by decide,rfl,rfl⟩
 refine Jg [0,0] [(25,Bo ((B w).toList == (B ([110,111,119])).toList))] (Q2 25 (Bo (w == [110,111,119])) (show (Bo ((B w).toList == (B ([110,111,119])).toList):Value)=Bo (w == [110,111,119]) by simp only [Q3]) (Jl (w == [110,111,119]) (fun h8=>?_) (fun h8=>?_)))
 refine QA [0,3] [] [[Sg b1 0 [I 0,Fv 85 #[]]]] (Jn (Js (Jj (Jo [0] [.agg #[I 0,Fv 85 #[]]] (bpx (JA [] (Jh _) ?_))))))
 subst h8;exact ⟨by decide,rfl,rfl⟩
 refine Jg [0,0] [(28,Bo ((B w).toList == (B ([108,111,111,107])).toList))] (Q2 28 (Bo (w == [108,111,111,107])) (show (Bo ((B w).toList == (B ([108,111,111,107])).toList):Value)=Bo (w == [108,111,111,107]) by simp only [Q3]) (Jl (w == [108,111,111,107]) (fun h9=>?_) (fun h9=>?_)))
 refine QA [0,3] [] [[Sg b1 0 [I 2,Fv 86 #[]]]] (Jn (Js (Jj (Jo [0] [.agg #[I 2,Fv 86 #[]]] (bpx (JA [] (Jh _) ?_))))))
 subst h9;exact ⟨by decide,rfl,rfl⟩
 refine Jg [0,0] [(31,Bo ((B w).toList == (B ([101,118,101,110,116,115])).toList))] (Q2 31 (Bo (w == [101,118,101,110,116,115])) (show (Bo ((B w).toList == (B ([101,118,101,110,116,115])).toList):Value)=Bo (w == [101,118,101,110,116,115]) by simp only [Q3]) (Jl (w == [101,118,101,110,116,115]) (fun h10=>?_) (fun h10=>?_)))
 refine QA [0,3] [] [[Sg b1 0 [I 0,Fv 87 #[]]]] (Jn (Js (Jj (Jo [0] [.agg #[I 0,Fv 87 #[]]] (bpx (JA [] (Jh _) ?_))))))
 subst h10;exact ⟨by decide,rfl,rfl⟩
 refine Jg [0,0] [(34,Bo ((B w).toList == (B ([115,101,101,110])).toList))] (Q2 34 (Bo (w == [115,101,101,110])) (show (Bo ((B w).toList == (B ([115,101,101,110])).toList):Value)=Bo (w == [115,101,101,110]) by simp only [Q3]) (Jl (w == [115,101,101,110]) (fun h11=>?_) (fun h11=>?_)))
 refine QA [0,3] [] [[Sg b1 0 [I 1,Fv 88 #[]]]] (Jn (Js (Jj (Jo [0] [.agg #[I 1,Fv 88 #[]]] (bpx (JA [] (Jh _) ?_))))))
 subst h11;exact ⟨by decide,rfl,rfl⟩
 refine Jg [0,0] [(37,Bo ((B w).toList == (B ([109,97,114,107])).toList))] (Q2 37 (Bo (w == [109,97,114,107])) (show (Bo ((B w).toList == (B ([109,97,114,107])).toList):Value)=Bo (w == [109,97,114,107]) by simp only [Q3]) (Jl (w == [109,97,114,107]) (fun h12=>?_) (fun h12=>?_)))
 refine QA [0,3] [] [[Sg b1 0 [I 0,Fv 89 #[]]]] (Jn (Js (Jj (Jo [0] [.agg #[I 0,Fv 89 #[]]] (bpx (JA [] (Jh _) ?_))))))
 subst h12;exact ⟨by decide,rfl,rfl⟩
 refine Jq (JN (Jb (Jf (Jd (QL (Ls:=[]) (Lr:=[[Sg b1 0 [I 0,.nilFunc]]]) 40 hT ((Z9 G 1).frame) (fun v G1 L1 hl1 hp=>?_) (fun v G1 L1 hl1 hp=>?_))))))
 obtain ⟨_,rfl,rfl⟩:=hp
 exact KO (ZU (JcS [] hl1 (⟨by unfold KM cmdT;simp only [List.findIdx_cons];simp_all,rfl,rfl⟩)))
 obtain ⟨he1,rfl,rfl⟩:=hp
 exact absurd he1 (by decide)
abbrev Jcm (s:Kv):=Jr s ([]:List K6)
theorem Jjd (G:J4) (b:Nat) (t:KS) (a_0:Option Addr) (c_0:Nat) (a_1:Option Addr) (c_1:Nat) (a_9:Option Addr) (c_9:Nat) (r_9:List Kh) (h_0:RS ES G a_0 c_0 t.setup.names) (h_1:RS EU G a_1 c_1 t.setup.keys) (h_2:rI t.setup.most) (h_3:rI t.setup.batch) (h_4:rI t.setup.every) (h_5:rI t.setup.least) (h_6:rI t.setup.top) (h_7:rI t.setup.lost) (h_8:rI t.setup.reach) (h_9:J1 WO G a_9 c_9 t.deeds r_9) (vs_s:List Value) (s:Kv) (h_s:JdF.R G vs_s s) (ht:t.deeds.length≤200):YP Tryz.prog 135 #[Pt b 0,.agg vs_s.toArray] G [[Sg b 0 [Sl a_0 t.setup.names.length c_0,Sl a_1 t.setup.keys.length c_1,I t.setup.most,I t.setup.batch,I t.setup.every,I t.setup.least,I t.setup.top,I t.setup.lost,I t.setup.reach,Sl a_9 t.deeds.length c_9]],r_9] (fun u G' L'=>((Zx t s).2=0)∧∃ (az1:Option Addr) (cz2:Nat) (az3:Option Addr) (cz4:Nat) (az5:Option Addr) (cz6:Nat) (az7:Option Addr) (cz8:Nat) (rz9:List Kh),u=Sl az1 (([]:List (List UInt8)).length) cz2∧(RS ES G' az1 cz2 ([]:List (List UInt8)))∧(RS ES G' az3 cz4 (((Zx t s).1).setup.names))∧(RS EU G' az5 cz6 (((Zx t s).1).setup.keys))∧(rI (((Zx t s).1).setup.most))∧(rI (((Zx t s).1).setup.batch))∧(rI (((Zx t s).1).setup.every))∧(rI (((Zx t s).1).setup.least))∧(rI (((Zx t s).1).setup.top))∧(rI (((Zx t s).1).setup.lost))∧(rI (((Zx t s).1).setup.reach))∧(J1 WO G' az7 cz8 (((Zx t s).1).deeds) rz9)∧L'=[[Sg b 0 [Sl az3 ((((Zx t s).1).setup.names).length) cz4,Sl az5 ((((Zx t s).1).setup.keys).length) cz6,I (((Zx t s).1).setup.most),I (((Zx t s).1).setup.batch),I (((Zx t s).1).setup.every),I (((Zx t s).1).setup.least),I (((Zx t s).1).setup.top),I (((Zx t s).1).setup.lost),I (((Zx t s).1).setup.reach),Sl az7 ((((Zx t s).1).deeds).length) cz8]],rz9]) (fun u _ L'=>(¬ (Zx t s).2=0)∧u=JaH ((Zx t s).2)∧L'=[[Sg b 0 [Sl a_0 t.setup.names.length c_0,Sl a_1 t.setup.keys.length c_1,I t.setup.most,I t.setup.batch,I t.setup.every,I t.setup.least,I t.setup.top,I t.setup.lost,I t.setup.reach,Sl a_9 t.deeds.length c_9]],r_9]):=by
 obtain ⟨a1,c1,a2,c2,rfl,hs1,hs2,w1,w2,w3,w4,w5,w6,w7⟩:=h_s
 intro Lr
 refine YM Tryz.func135 27 [(0,Pt b 0),(1,(Yz s a1 c1 a2 c2))] rfl (fun w0 G0 hT=>?_)
 show TC _ _ _ _ _ ([Sg b 0 (KP t a_0 c_0 a_1 c_1 a_9 c_9)]::r_9::Lr)
 refine Jf (Jd (Jv 3 #[Sl a1 s.names.length c1,Sl a2 s.keys.length c2,I s.most,I s.batch,I s.every,I s.least,I s.top,I s.lost,I s.reach] 72 (fun b1=>Jc [0] [] (Je (Jb (Jf (Jg [0,0,0,4,0,0] [(13,Bo (decide ((t.deeds.length:Int) > 0)))] (Jl (decide ((t.deeds.length:Int) > 0)) (fun h1=>?_) (fun h1=>?_)))))))))
 refine Jd (QL (Ls:=[]) (Lr:=([Sg b1 0 (QJ s a1 c1 a2 c2)]::[Sg b 0 (KP t a_0 c_0 a_1 c_1 a_9 c_9)]::r_9::Lr)) 14 hT ((Z9 G 9).frame) (fun v G1 L1 hl1 hp=>?_) (fun v G1 L1 hl1 hp=>?_))
 obtain ⟨hne1,rfl,rfl⟩:=hp
 refine KO ?_
 have hp1:(Zx t s).2=9:=by
  exact Jmw (by omega)
 refine ZU (Zp (Lr:=Lr) [[Sg b 0 (KP t a_0 c_0 a_1 c_1 a_9 c_9)],r_9] hl1 ?_)
 rw [hp1];exact ⟨hne1,rfl,rfl⟩
 obtain ⟨he1,rfl,rfl⟩:=hp
 exact absurd he1 (by decide)
 refine Jq (Jb (Jf (Jd (Jc [2] [(16,(Yz s a1 c1 a2 c2))] (Jjy (Jw 0 (Qp (Ls:=[[]]) (Lr:=([Sg b1 0 (QJ s a1 c1 a2 c2)]::[Sg b 0 (KP t a_0 c_0 a_1 c_1 a_9 c_9)]::r_9::Lr)) 17 (Jd2 G (QJ s a1 c1 a2 c2) s (⟨a1,c1,a2,c2,rfl,hs1,hs2,w1,w2,w3,w4,w5,w6,w7⟩) none 0 ([]:List K6) ([]) (J1.none WO _)) (fun v G2 L1 hl2 hp=>?_))))))))
 obtain ⟨a3,c3,a4,c4,a5,c5,a6,c6,a7,c7,a8,c8,a9,c9,rfl,_,_,_,_,_,_,_,_,_,_,_,_,rfl⟩:=hp
 refine Jc [0,0,0,0] [(18,(Y8 (Jcm s).1 a3 c3 a4 c4 a5 c5 a6 c6 a7 c7 a8 c8)),(19,Sl a9 (((Jcm s).2.1).length) c9),(20,I ((Jcm s).2.2))] (Jv 5 #[I 0,Sl none 0 0,I 0,I 0,I 0,Sl none 0 0,Sl none 0 0,Sl none 0 0,Sl none 0 0,I 0,Sl none 0 0] 67 (fun b2=>JV [3,0,0] [(7,I ((Jcm s).2.2))] ([Sg b2 0 (Zq (Jcm s).1 a3 c3 a4 c4 a5 c5 a6 c6 a7 c7 a8 c8)]::[]::[Sg b1 0 (QJ s a1 c1 a2 c2)]::[Sg b 0 (KP t a_0 c_0 a_1 c_1 a_9 c_9)]::r_9::Lr) (Je (Jb (Jf (Jd (Jc [0] [(21,I ((Jcm s).2.2))] (QL (Ls:=[]) (Lr:=([Sg b2 0 (Zq (Jcm s).1 a3 c3 a4 c4 a5 c5 a6 c6 a7 c7 a8 c8)]::[]::[Sg b1 0 (QJ s a1 c1 a2 c2)]::[Sg b 0 (KP t a_0 c_0 a_1 c_1 a_9 c_9)]::r_9::Lr)) 22 hT ((Z9 G2 ((Jcm s).2.2)).frame) (fun v G3 L1 hl3 hp=>?_) (fun v G3 L1 hl3 hp=>?_)))))))))
 obtain ⟨hne2,rfl,rfl⟩:=hp
 refine KO ?_
 have hp3:(Zx t s).2=(Jcm s).2.2:=by
  exact Joi J8 ‹_›
 refine ZU (Zp (Lr:=Lr) [[Sg b 0 (KP t a_0 c_0 a_1 c_1 a_9 c_9)],r_9] (Ja hl2 hl3) ?_)
 rw [hp3];exact ⟨hne2,rfl,rfl⟩
 obtain ⟨_,rfl,rfl⟩:=hp
 refine Je (Jb (QA [0,6,0,0,9] [] ([Sg b2 0 (Zq (Jcm s).1 a3 c3 a4 c4 a5 c5 a6 c6 a7 c7 a8 c8)]::[]::[Sg b1 0 (QJ s a1 c1 a2 c2)]::[Sg b 0 (KP (⟨s,t.deeds⟩:KS) a1 c1 a2 c2 a_9 c_9)]::r_9::Lr) (Jg [0] [(4,Sl none 0 0)] (Jn (Jk 4 (Jk 4 ?_))))))
 have hf1:(Zx t s).2=0∧([]:List (List UInt8))=[]∧(Zx t s).1=(⟨s,t.deeds⟩:KS):=by
  exact ⟨(Jln J8 ‹_›).1,rfl,(Jln J8 ‹_›).2⟩
 refine Jo [0] [Sl none 0 0] (bpx (KT (Lr:=Lr) [[Sg b 0 (KP (⟨s,t.deeds⟩:KS) a1 c1 a2 c2 a_9 c_9)],r_9] (Ja hl2 hl3) ?_))
 rw [hf1.2.1,hf1.2.2]
 try dsimp only
 exact ⟨hf1.1,none,0,a1,c1,a2,c2,a_9,c_9,r_9,rfl,(JP ES G3),(hs1.mono (Ja hl2 hl3)),(hs2.mono (Ja hl2 hl3)),w1,w2,w3,w4,w5,w6,w7,(h_9.mono (Ja hl2 hl3)),rfl⟩
theorem Jje (G:J4) (b:Nat) (t:KS) (a_0:Option Addr) (c_0:Nat) (a_1:Option Addr) (c_1:Nat) (a_9:Option Addr) (c_9:Nat) (r_9:List Kh) (h_0:RS ES G a_0 c_0 t.setup.names) (h_1:RS EU G a_1 c_1 t.setup.keys) (h_2:rI t.setup.most) (h_3:rI t.setup.batch) (h_4:rI t.setup.every) (h_5:rI t.setup.least) (h_6:rI t.setup.top) (h_7:rI t.setup.lost) (h_8:rI t.setup.reach) (h_9:J1 WO G a_9 c_9 t.deeds r_9) (a_l:Option Addr) (c_l:Nat) (l:List K6) (h_l:RS WO G a_l c_l l) (ht:t.deeds.length≤200) (hl:l.length≤1048577):YP Tryz.prog 138 #[Pt b 0,Sl a_l l.length c_l] G [[Sg b 0 [Sl a_0 t.setup.names.length c_0,Sl a_1 t.setup.keys.length c_1,I t.setup.most,I t.setup.batch,I t.setup.every,I t.setup.least,I t.setup.top,I t.setup.lost,I t.setup.reach,Sl a_9 t.deeds.length c_9]],r_9] (fun u G' L'=>((ZR t l).2=0)∧∃ (az1:Option Addr) (cz2:Nat) (az3:Option Addr) (cz4:Nat) (az5:Option Addr) (cz6:Nat) (az7:Option Addr) (cz8:Nat) (rz9:List Kh),u=Sl az1 (([]:List (List UInt8)).length) cz2∧(RS ES G' az1 cz2 ([]:List (List UInt8)))∧(RS ES G' az3 cz4 (((ZR t l).1).setup.names))∧(RS EU G' az5 cz6 (((ZR t l).1).setup.keys))∧(rI (((ZR t l).1).setup.most))∧(rI (((ZR t l).1).setup.batch))∧(rI (((ZR t l).1).setup.every))∧(rI (((ZR t l).1).setup.least))∧(rI (((ZR t l).1).setup.top))∧(rI (((ZR t l).1).setup.lost))∧(rI (((ZR t l).1).setup.reach))∧(J1 WO G' az7 cz8 (((ZR t l).1).deeds) rz9)∧L'=[[Sg b 0 [Sl az3 ((((ZR t l).1).setup.names).length) cz4,Sl az5 ((((ZR t l).1).setup.keys).length) cz6,I (((ZR t l).1).setup.most),I (((ZR t l).1).setup.batch),I (((ZR t l).1).setup.every),I (((ZR t l).1).setup.least),I (((ZR t l).1).setup.top),I (((ZR t l).1).setup.lost),I (((ZR t l).1).setup.reach),Sl az7 ((((ZR t l).1).deeds).length) cz8]],rz9]) (fun u _ L'=>(¬ (ZR t l).2=0)∧u=JaH ((ZR t l).2)∧L'=[[Sg b 0 [Sl a_0 t.setup.names.length c_0,Sl a_1 t.setup.keys.length c_1,I t.setup.most,I t.setup.batch,I t.setup.every,I t.setup.least,I t.setup.top,I t.setup.lost,I t.setup.reach,Sl a_9 t.deeds.length c_9]],r_9]):=by
 intro Lr
 refine YM Tryz.func138 24 [(0,Pt b 0),(1,Sl a_l l.length c_l)] rfl (fun w0 G0 hT=>?_)
 show TC _ _ _ _ _ ([Sg b 0 (KP t a_0 c_0 a_1 c_1 a_9 c_9)]::r_9::Lr)
 refine Jg [0] [] (Jf (Jg [0,0,0,0,0,2,0,0,0] [(13,Bo (decide ((l.length:Int) > Hh.wrap (200-(t.deeds.length:Int)))))] ?_))
 have e1:Hh.wrap (200-(t.deeds.length:Int))=200-(t.deeds.length:Int):=Hu _ (by omega)
 refine Q2 13 (Bo (decide ((l.length:Int) > 200-(t.deeds.length:Int)))) (show (Bo (decide ((l.length:Int) > Hh.wrap (200-(t.deeds.length:Int)))):Value)=Bo (decide ((l.length:Int) > 200-(t.deeds.length:Int))) by simp only [e1]) ?_
 clear e1
 refine Jl (decide ((l.length:Int) > 200-(t.deeds.length:Int))) (fun h1=>?_) (fun h1=>?_)
 refine Jd (QL (Ls:=[]) (Lr:=([Sg b 0 (KP t a_0 c_0 a_1 c_1 a_9 c_9)]::r_9::Lr)) 14 hT ((Z9 G 2).frame) (fun v G1 L1 hl1 hp=>?_) (fun v G1 L1 hl1 hp=>?_))
 obtain ⟨hne1,rfl,rfl⟩:=hp
 refine KO ?_
 have hp1:(ZR t l).2=2:=by
  exact Joj (by omega)
 refine ZU (Zp (Lr:=Lr) [[Sg b 0 (KP t a_0 c_0 a_1 c_1 a_9 c_9)],r_9] hl1 ?_)
 rw [hp1];exact ⟨hne1,rfl,rfl⟩
 obtain ⟨he1,rfl,rfl⟩:=hp
 exact absurd he1 (by decide)
 refine Jq (Jb (Jf (Jd (Jc [0,0,0,0,2,0] [(15,Pt b 0),(19,Sl a_9 t.deeds.length c_9),(20,Sl a_l l.length c_l)] (JaZ 21 53 1 (E:=WO) h_9 h_l J8 (by simp only [WO];omega) (fun a1 c1 r1 hr1=>JV [0,0,3] [] ([Sg b 0 (KP (⟨t.setup,(t.deeds++l)⟩:KS) a_0 c_0 a_1 c_1 a1 c1)]::r1::Lr) (Je (Jb (Jg [0] [(4,Sl none 0 0)] (Jn (Jk 1 (Jk 1 ?_))))))))))))
 have hf1:(ZR t l).2=0∧([]:List (List UInt8))=[]∧(ZR t l).1=(⟨t.setup,t.deeds++l⟩:KS):=by
  exact ⟨(Jlo J8).1,rfl,(Jlo J8).2⟩
 refine Jo [0] [Sl none 0 0] (bpx (KT (Lr:=Lr) [[Sg b 0 (KP (⟨t.setup,(t.deeds++l)⟩:KS) a_0 c_0 a_1 c_1 a1 c1)],r1] (Jh _) ?_))
 rw [hf1.2.1,hf1.2.2]
 try dsimp only
 exact ⟨hf1.1,none,0,a_0,c_0,a_1,c_1,a1,c1,r1,rfl,(JP ES G),h_0,h_1,‹_›,‹_›,‹_›,‹_›,‹_›,‹_›,‹_›,hr1,rfl⟩
def nth (l:List Int) (i:Nat):Int:=l[i]?.getD 0
def VQ (l:List (List UInt8)) (i:Nat):List UInt8:=l[i]?.getD []
theorem Wt {l:List (List UInt8)} {i:Nat} {x:List UInt8} (h:l[i]? = some x):x=VQ l i:=by unfold VQ;rw [h];rfl
def Jlp (t:KS) (w:List (List UInt8)) (f:List Int→Kv):KS×Int:=if ¬ (Jdk w).2=0 then (t,(Jdk w).2) else Zx t (f (Jdk w).1)
def sClerk (s:Kv) (n:List Int):Kv:=⟨s.names,s.keys,nth n 0,nth n 1,nth n 2,s.least,s.top,s.lost,s.reach⟩
def sPolls (s:Kv) (n:List Int):Kv:=⟨s.names,s.keys,s.most,s.batch,s.every,nth n 0,nth n 1,nth n 2,s.reach⟩
def Jol (s:Kv) (n:Int):Kv:=⟨s.names,s.keys,s.most,s.batch,s.every,s.least,s.top,s.lost,n⟩
def Jom (t:KS) (w:List (List UInt8)):KS×Int:=Jlp t w (sClerk t.setup)
def Jon (t:KS) (w:List (List UInt8)):KS×Int:=Jlp t w (sPolls t.setup)
def Jkq (t:KS) (w:List (List UInt8)):KS×Int:=if ¬ (Kl (VQ w 0)).2=0 then (t,(Kl (VQ w 0)).2) else Zx t (Jol t.setup (Kl (VQ w 0)).1)
abbrev letZ:JQ:=⟨0,0,0,0,[],⟨⟨0,0,0,0⟩,⟨[],[],[]⟩⟩⟩
def Wo (t:KS) (w:List (List UInt8)):KS×Int:=if ¬ (Kl (VQ w 1)).2=0 then (t,(Kl (VQ w 1)).2) else Zx t ⟨t.setup.names++[VQ w 0],t.setup.keys++[(Kl (VQ w 1)).1],t.setup.most,t.setup.batch,t.setup.every,t.setup.least,t.setup.top,t.setup.lost,t.setup.reach⟩
def Zl (t:KS) (w:List (List UInt8)):KS×Int:=if ¬ (Kl (VQ w 0)).2=0 then (t,(Kl (VQ w 0)).2) else ZR t [⟨1,(Kl (VQ w 0)).1,VQ w 1,[],letZ⟩]
def Joo (t:KS) (w:List (List UInt8)):KS×Int:=if ¬ (Jdk w).2=0 then (t,(Jdk w).2) else ZR t [⟨2,0,[],(Jdk w).1,letZ⟩]
def Zm (t:KS) (w:List (List UInt8)):KS×Int:=if ¬ (Kl (VQ w 0)).2=0 then (t,(Kl (VQ w 0)).2) else ZR t (Hb (if 201<(Kl (VQ w 0)).1 then 201 else (Kl (VQ w 0)).1).toNat ⟨4,0,[],[],letZ⟩)
theorem JfN {t:KS} {w:List (List UInt8)} {y:List UInt8} (h:w[1]? = some y) (he:¬ (Kl y).2=0):(Wo t w).2=(Kl y).2:=by unfold Wo;rw [← Wt h,if_pos he]
theorem Jb3 {t:KS} {w:List (List UInt8)} {x y:List UInt8} (h:w[1]? = some y) (h0:w[0]? = some x) (he:(Kl y).2=0):Wo t w=Zx t ⟨t.setup.names++[x],t.setup.keys++[(Kl y).1],t.setup.most,t.setup.batch,t.setup.every,t.setup.least,t.setup.top,t.setup.lost,t.setup.reach⟩:=by unfold Wo;rw [← Wt h,← Wt h0,if_neg (by omega)]
theorem Jmx {t:KS} {w:List (List UInt8)} {y:List UInt8} (h:w[0]? = some y) (he:¬ (Kl y).2=0):(Zl t w).2=(Kl y).2:=by unfold Zl;rw [← Wt h,if_pos he]
theorem Jjf {t:KS} {w:List (List UInt8)} {x y:List UInt8} (h:w[0]? = some y) (h0:w[1]? = some x) (he:(Kl y).2=0):Zl t w=ZR t [⟨1,(Kl y).1,x,[],letZ⟩]:=by unfold Zl;rw [← Wt h,← Wt h0,if_neg (by omega)]
theorem Jmy {t:KS} {w:List (List UInt8)} {y:List UInt8} (h:w[0]? = some y) (he:¬ (Kl y).2=0):(Zm t w).2=(Kl y).2:=by unfold Zm;rw [← Wt h,if_pos he]
theorem Jjg {t:KS} {w:List (List UInt8)} {y:List UInt8} {k:Nat} (h:w[0]? = some y) (he:(Kl y).2=0) (hk:(if 201<(Kl y).1 then 201 else (Kl y).1)=(k:Int)):Zm t w=ZR t (Hb k ⟨4,0,[],[],letZ⟩):=by unfold Zm;rw [← Wt h,if_neg (by omega),hk];rfl
set_option maxRecDepth 20000 in
theorem Jkr (G:J4) (b:Nat) (t:KS) (a_0:Option Addr) (c_0:Nat) (a_1:Option Addr) (c_1:Nat) (a_9:Option Addr) (c_9:Nat) (r_9:List Kh) (h_0:RS ES G a_0 c_0 t.setup.names) (h_1:RS EU G a_1 c_1 t.setup.keys) (h_2:rI t.setup.most) (h_3:rI t.setup.batch) (h_4:rI t.setup.every) (h_5:rI t.setup.least) (h_6:rI t.setup.top) (h_7:rI t.setup.lost) (h_8:rI t.setup.reach) (h_9:J1 WO G a_9 c_9 t.deeds r_9) (a_w:Option Addr) (c_w:Nat) (w:List (List UInt8)) (h_w:RS ES G a_w c_w w) (hw:w.length=2) (hs:∀ s∈w,s.length≤1048576) (ht:t.deeds.length≤200) (hn:t.setup.names.length≤1000) (hk:t.setup.keys.length≤1000):YP Tryz.prog 81 #[Pt b 0,Sl a_w w.length c_w] G [[Sg b 0 [Sl a_0 t.setup.names.length c_0,Sl a_1 t.setup.keys.length c_1,I t.setup.most,I t.setup.batch,I t.setup.every,I t.setup.least,I t.setup.top,I t.setup.lost,I t.setup.reach,Sl a_9 t.deeds.length c_9]],r_9] (fun u G' L'=>((Wo t w).2=0)∧∃ (az1:Option Addr) (cz2:Nat) (az3:Option Addr) (cz4:Nat) (az5:Option Addr) (cz6:Nat) (az7:Option Addr) (cz8:Nat) (rz9:List Kh),u=Sl az1 (([]:List (List UInt8)).length) cz2∧(RS ES G' az1 cz2 ([]:List (List UInt8)))∧(RS ES G' az3 cz4 (((Wo t w).1).setup.names))∧(RS EU G' az5 cz6 (((Wo t w).1).setup.keys))∧(rI (((Wo t w).1).setup.most))∧(rI (((Wo t w).1).setup.batch))∧(rI (((Wo t w).1).setup.every))∧(rI (((Wo t w).1).setup.least))∧(rI (((Wo t w).1).setup.top))∧(rI (((Wo t w).1).setup.lost))∧(rI (((Wo t w).1).setup.reach))∧(J1 WO G' az7 cz8 (((Wo t w).1).deeds) rz9)∧L'=[[Sg b 0 [Sl az3 ((((Wo t w).1).setup.names).length) cz4,Sl az5 ((((Wo t w).1).setup.keys).length) cz6,I (((Wo t w).1).setup.most),I (((Wo t w).1).setup.batch),I (((Wo t w).1).setup.every),I (((Wo t w).1).setup.least),I (((Wo t w).1).setup.top),I (((Wo t w).1).setup.lost),I (((Wo t w).1).setup.reach),Sl az7 ((((Wo t w).1).deeds).length) cz8]],rz9]) (fun u _ L'=>(¬ (Wo t w).2=0)∧u=JaH ((Wo t w).2)∧L'=[[Sg b 0 [Sl a_0 t.setup.names.length c_0,Sl a_1 t.setup.keys.length c_1,I t.setup.most,I t.setup.batch,I t.setup.every,I t.setup.least,I t.setup.top,I t.setup.lost,I t.setup.reach,Sl a_9 t.deeds.length c_9]],r_9]):=by
 intro Lr
 refine YM Tryz.func81 35 [(0,Pt b 0),(1,Sl a_w w.length c_w)] rfl (fun w0 G0 hT=>?_)
 show TC _ _ _ _ _ ([Sg b 0 (KP t a_0 c_0 a_1 c_1 a_9 c_9)]::r_9::Lr)
 refine Jg [0] [] ?_
 obtain ⟨b1,o1,rfl⟩:=RS.addr h_w (k:=1) (by omega)
 obtain ⟨x1,hx1⟩:=Wf (l:=w) (k:=1) (by omega)
 obtain ⟨_,⟨rfl,_⟩,hc1⟩:=RS.get h_w hx1
 refine Yv (σ:=Nat×J4) (fun q_=>(J4.le G q_.2)∧((Kl x1).2=0)) (fun q_=>[(0,Pt b 0),(1,Sl (At b1 o1) w.length c_w),(5,I ((Kl x1).1)),(6,Pt q_.1 0)]) (fun q_=>q_.2) (fun q_=>([Sg q_.1 0 (QJ t.setup a_0 c_0 a_1 c_1)]::[Sg b 0 (KP t a_0 c_0 a_1 c_1 a_9 c_9)]::r_9::Lr)) ?_ (fun q_ hs=>?_)
 refine Kp [3,8,10] (Wl [(0,Sl (At b1 o1) w.length c_w),(1,Pt b1 (o1+1*1)),(2,Sr x1),(4,Pt b 0),(5,Pt b 0),(6,Pt b 0),(7,(Yz t.setup a_0 c_0 a_1 c_1))] (JK [] [(0,0),(4,0),(5,0),(6,0),(7,2)] [1,2] [3,8] (Ki ?_ (Ki ?_ K8)) (Ki ?_ (Ki ?_ K8))))
 refine Jt 1 8 (Pt b1 (o1+1*1)) [(7,Sl (At b1 o1) w.length c_w)] (fun X=>?_)
 exact J5 (b:=b1) (off:=o1) (len:=w.length) (cap:=c_w) (ik:=.i64) 8 9 1 1 J8 Jp
 refine Jt 2 9 (Sr x1) [(8,Pt b1 (o1+1*1))] (fun X=>?_)
 exact JZ 9 9 (cs:=[Sr x1]) 0 (Sr x1) hc1 Jp
 refine JC 3 [(9,Sr x1)] (fun X=>?_)
 refine QL (Ls:=[]) (Lr:=([Sg b 0 (KP t a_0 c_0 a_1 c_1 a_9 c_9)]::r_9::Lr)) 10 hT ((VO G x1 (by have q_:=hs _ (Hi hx1);omega)).frame) (fun v G1 L1 hl1 hp=>?_) (fun v G1 L1 hl1 hp=>?_)
 obtain ⟨hne1,rfl,rfl⟩:=hp
 refine KO (KO ?_)
 have hp1:(Wo t w).2=(Kl x1).2:=by
  exact JfN ‹_› ‹_›
 refine ZU (Zp (Lr:=Lr) [[Sg b 0 (KP t a_0 c_0 a_1 c_1 a_9 c_9)],r_9] hl1 ?_)
 rw [hp1];exact ⟨hne1,rfl,rfl⟩
 obtain ⟨he2,rfl,rfl⟩:=hp
 refine JD [(3,I ((Kl x1).1))] (JK [0,1,2] [(4,0),(5,0),(6,0),(7,2)] [] [8] (Ha _) (Ki ?_ K8))
 refine JC 8 [] (fun X=>?_)
 refine Jv 6 #[Sl none 0 0,Sl none 0 0,I 0,I 0,I 0,I 0,I 0,I 0,I 0] 72 (fun b2=>JD [(8,Pt b2 0),(9,I ((Kl x1).1))] (JK [0,1,2] [(4,0),(5,0),(6,0),(7,4),(9,0)] [] [10] (Ha _) (Ki ?_ K8)))
 refine JC 10 [(6,Pt b2 0),(14,(Yz t.setup a_0 c_0 a_1 c_1))] (fun X=>?_)
 exact KN 0 ([Sg b2 0 (QJ t.setup a_0 c_0 a_1 c_1)]::[Sg b 0 (KP t a_0 c_0 a_1 c_1 a_9 c_9)]::r_9::Lr) (Ka [] (Km [0,1,2,4,5,6,7,9] [] [] [(0,Pt b 0),(1,Sl (At b1 o1) w.length c_w),(5,I ((Kl x1).1)),(6,Pt b2 0)] (Ha _) (Wd (b2,G1) ⟨hl1,he2⟩)))
 refine JC 8 [] (fun X=>?_)
 refine Jv 6 #[Sl none 0 0,Sl none 0 0,I 0,I 0,I 0,I 0,I 0,I 0,I 0] 72 (fun b3=>JD [(8,Pt b3 0)] (JK [] [(0,0),(4,0),(5,0),(6,0),(7,4)] [1,2] [3] (Ki ?_ (Ki ?_ K8)) (Ki ?_ K8)))
 refine Jt 1 8 (Pt b1 (o1+1*1)) [(7,Sl (At b1 o1) w.length c_w)] (fun X=>?_)
 exact J5 (b:=b1) (off:=o1) (len:=w.length) (cap:=c_w) (ik:=.i64) 8 9 1 1 J8 Jp
 refine Jt 2 9 (Sr x1) [(8,Pt b1 (o1+1*1))] (fun X=>?_)
 exact JZ 9 9 (cs:=[Sr x1]) 0 (Sr x1) hc1 Jp
 refine JC 3 [(9,Sr x1)] (fun X=>?_)
 refine QL (Ls:=[]) (Lr:=([Sg b3 0 [Sl none 0 0,Sl none 0 0,I 0,I 0,I 0,I 0,I 0,I 0,I 0]]::[Sg b 0 (KP t a_0 c_0 a_1 c_1 a_9 c_9)]::r_9::Lr)) 10 hT ((VO G x1 (by have q_:=hs _ (Hi hx1);omega)).frame) (fun v G2 L1 hl2 hp=>?_) (fun v G2 L1 hl2 hp=>?_)
 obtain ⟨hne2,rfl,rfl⟩:=hp
 refine KO (KO ?_)
 have hp3:(Wo t w).2=(Kl x1).2:=by
  exact JfN ‹_› ‹_›
 refine ZU (Zp (Lr:=Lr) [[Sg b 0 (KP t a_0 c_0 a_1 c_1 a_9 c_9)],r_9] hl2 ?_)
 rw [hp3];exact ⟨hne2,rfl,rfl⟩
 obtain ⟨he3,rfl,rfl⟩:=hp
 refine JD [(3,I ((Kl x1).1)),(9,I ((Kl x1).1))] (JK [0,1,2] [(4,0),(5,0),(6,0),(7,4),(9,0)] [] [10] (Ha _) (Ki ?_ K8))
 refine JC 10 [(6,Pt b3 0),(14,(Yz t.setup a_0 c_0 a_1 c_1))] (fun X=>?_)
 exact KN 0 ([Sg b3 0 (QJ t.setup a_0 c_0 a_1 c_1)]::[Sg b 0 (KP t a_0 c_0 a_1 c_1 a_9 c_9)]::r_9::Lr) (Ka [] (Km [0,1,2,4,5,6,7,9] [] [] [(0,Pt b 0),(1,Sl (At b1 o1) w.length c_w),(5,I ((Kl x1).1)),(6,Pt b3 0)] (Ha _) (Wd (b3,G2) ⟨hl2,he3⟩)))
 obtain ⟨b2,G1⟩:=q_
 obtain ⟨hle1,he1⟩:=hs
 dsimp only at hle1 he1
 dsimp only
 refine Jf ?_
 obtain ⟨x2,hx2⟩:=Wf (l:=w) (k:=0) (by omega)
 obtain ⟨_,⟨rfl,w2⟩,hc2⟩:=RS.get (h_w.mono hle1) hx2
 refine Kp [2,6,7,9] (Wl [(0,Pt b2 0),(1,Sl a_0 t.setup.names.length c_0),(3,Sl (At b1 o1) w.length c_w),(4,Pt b1 (o1+0*1)),(5,Sr x2)] (JK [] [(0,0),(1,2),(3,0)] [4,5] [2,6] (Ki ?_ (Ki ?_ K8)) (Ki ?_ (Ki ?_ K8))))
 refine Jt 4 19 (Pt b1 (o1+0*1)) [(18,Sl (At b1 o1) w.length c_w)] (fun X=>?_)
 exact J5 (b:=b1) (off:=o1) (len:=w.length) (cap:=c_w) (ik:=.i64) 19 9 1 0 J8 Jp
 refine Jt 5 20 (Sr x2) [(19,Pt b1 (o1+0*1))] (fun X=>?_)
 exact JZ 20 9 (cs:=[Sr x2]) 0 (Sr x2) hc2 Jp
 refine JC 2 [(16,Sl a_0 t.setup.names.length c_0)] (fun X=>?_)
 refine JI 17 (JbY G1 a_0 c_0 t.setup.names (h_0.mono hle1)) (fun v G3 L1 hl3 hp=>?_)
 obtain ⟨a1,c1,_,rfl,hr1,rfl⟩:=hp
 refine JD [(2,Sl a1 t.setup.names.length c1)] (JK [0,1] [(3,0)] [4,5] [6] (Ki ?_ (Ki ?_ K8)) (Ki ?_ K8))
 refine Jt 4 19 (Pt b1 (o1+0*1)) [(18,Sl (At b1 o1) w.length c_w)] (fun X=>?_)
 exact J5 (b:=b1) (off:=o1) (len:=w.length) (cap:=c_w) (ik:=.i64) 19 9 1 0 J8 Jp
 refine Jt 5 20 (Sr x2) [(19,Pt b1 (o1+0*1))] (fun X=>?_)
 exact JZ 20 9 (cs:=[Sr x2]) 0 (Sr x2) (fun j v hv=>hl3 _ _ _ (hc2 j v hv)) Jp
 refine JC 6 [(20,Sr x2)] (fun X=>?_)
 refine Kt 21 1 #[Sr x2] 9 (fun b4=>JD [(6,Sl (At b4 0) 1 1)] (JK [0,1,3,4,5] [] [] [7] (Ha _) (Ki ?_ K8)))
 refine JC 7 [(17,Sl a1 t.setup.names.length c1),(21,Sl (At b4 0) 1 1)] (fun X=>?_)
 refine Qy (b:=b4) (cs:=[Sr x2]) 22 9 1 0 (E:=ES) x2 hr1 ⟨rfl,w2⟩ (by (try simp only [He,Hd,Hg]);omega) (by (try simp only [ES,He,Hd,Hg]);omega) (fun a2 c2 r2 hr2=>JD [(7,Sl a2 ((t.setup.names++[x2]).length) c2),(8,Pt b2 0)] (JK [0,1,3,4,5] [(8,0)] [] [9] (Ha _) (Ki ?_ K8)))
 refine JC 9 [(22,Sl a2 ((t.setup.names++[x2]).length) c2),(23,Pt b2 0)] (fun X=>?_)
 refine KN 2 ([Sg b4 0 [Sr x2]]::r2::[Sg b2 0 [Sl a2 ((t.setup.names++[x2]).length) c2,Sl a_1 t.setup.keys.length c_1,I t.setup.most,I t.setup.batch,I t.setup.every,I t.setup.least,I t.setup.top,I t.setup.lost,I t.setup.reach]]::[Sg b 0 (KP t a_0 c_0 a_1 c_1 a_9 c_9)]::r_9::Lr) (Ka [] (Km [0,1,3,4,5,8] [] [] [(0,Pt b 0),(5,I ((Kl x1).1)),(6,Pt b2 0)] (Ha _) (Jb (Jf (Jd (Jc [0,6] [(25,Sl a_1 t.setup.keys.length c_1)] (JI 26 (JdI G3 a_1 c_1 t.setup.keys (h_1.mono (Ja hle1 hl3))) (fun v G4 L1 hl4 hp=>?_))))))))
 obtain ⟨_,_,_,rfl,hr3,rfl⟩:=hp
 refine Jc [0,0] [(28,U (Hm.wrap ((Kl x1).1)))] (JaU 28 ((Kl x1).1) (by have q_:=Vo x1;omega) (Kt 29 1 #[U ((Kl x1).1)] 41 (fun b5=>Qy (b:=b5) (cs:=[U ((Kl x1).1)]) 30 41 1 0 (E:=EU) ((Kl x1).1) hr3 ⟨rfl,(by have q_:=Vo x1;omega)⟩ (by (try simp only [He,Hd,Hg]);omega) (by (try simp only [EU,He,Hd,Hg]);omega) (fun a4 c4 r4 hr4=>JV [0,11] [] ([Sg b5 0 [U ((Kl x1).1)]]::r4::[Sg b4 0 [Sr x2]]::r2::[Sg b2 0 [Sl a2 ((t.setup.names++[x2]).length) c2,Sl a4 ((t.setup.keys++[(Kl x1).1]).length) c4,I t.setup.most,I t.setup.batch,I t.setup.every,I t.setup.least,I t.setup.top,I t.setup.lost,I t.setup.reach]]::[Sg b 0 (KP t a_0 c_0 a_1 c_1 a_9 c_9)]::r_9::Lr) (Je (Jb (Jf (Jd (Jc [0,10] [(32,Pt b 0),(33,.agg #[Sl a2 ((t.setup.names++[x2]).length) c2,Sl a4 ((t.setup.keys++[(Kl x1).1]).length) c4,I t.setup.most,I t.setup.batch,I t.setup.every,I t.setup.least,I t.setup.top,I t.setup.lost,I t.setup.reach])] (WL (E:=ES) 3 (hr2.mono hl4) (by (try simp only [ES,EU,WO,EI,He,Hd,Hg]);omega) (fun G5 hl5 hs1=>WL (E:=EU) 1 (hr4.mono hl5) (by (try simp only [ES,EU,WO,EI,He,Hd,Hg]);omega) (fun G6 hl6 hs2=>Jw 6 (Jw 6 (QL (Ls:=[[Sg b 0 (KP t a_0 c_0 a_1 c_1 a_9 c_9)],r_9]) (Lr:=([Sg b5 0 [U ((Kl x1).1)]]::[]::[Sg b4 0 [Sr x2]]::[]::[Sg b2 0 [Sl a2 ((t.setup.names++[x2]).length) c2,Sl a4 ((t.setup.keys++[(Kl x1).1]).length) c4,I t.setup.most,I t.setup.batch,I t.setup.every,I t.setup.least,I t.setup.top,I t.setup.lost,I t.setup.reach]]::Lr)) 34 hT (Jjd G6 b t a_0 c_0 a_1 c_1 a_9 c_9 r_9 (h_0.mono (Ja (Ja (Ja (Ja hle1 hl3) hl4) hl5) hl6)) (h_1.mono (Ja (Ja (Ja (Ja hle1 hl3) hl4) hl5) hl6)) ‹_› ‹_› ‹_› ‹_› ‹_› ‹_› ‹_› (h_9.mono (Ja (Ja (Ja (Ja hle1 hl3) hl4) hl5) hl6)) [Sl a2 ((t.setup.names++[x2]).length) c2,Sl a4 ((t.setup.keys++[(Kl x1).1]).length) c4,I t.setup.most,I t.setup.batch,I t.setup.every,I t.setup.least,I t.setup.top,I t.setup.lost,I t.setup.reach] (⟨t.setup.names++[x2],t.setup.keys++[(Kl x1).1],t.setup.most,t.setup.batch,t.setup.every,t.setup.least,t.setup.top,t.setup.lost,t.setup.reach⟩:Kv) (⟨a2,c2,a4,c4,rfl,(hs1.mono hl6),hs2,‹_›,‹_›,‹_›,‹_›,‹_›,‹_›,‹_›⟩) ‹_›) (fun v G7 L1 hl7 hp=>?_) (fun v G7 L1 hl7 hp=>?_)))))))))))))))
 obtain ⟨hne3,rfl,rfl⟩:=hp
 refine KO ?_
 have hp5:(Wo t w).2=(Zx t (⟨t.setup.names++[x2],t.setup.keys++[(Kl x1).1],t.setup.most,t.setup.batch,t.setup.every,t.setup.least,t.setup.top,t.setup.lost,t.setup.reach⟩:Kv)).2:=by
  rw [Jb3 (t:=t) (w:=w) ‹_› ‹_› ‹_›]
 refine ZU (Zp (Lr:=Lr) [[Sg b 0 (KP t a_0 c_0 a_1 c_1 a_9 c_9)],r_9] (Ja (Ja (Ja (Ja (Ja hle1 hl3) hl4) hl5) hl6) hl7) ?_)
 rw [hp5];exact ⟨hne3,rfl,rfl⟩
 obtain ⟨_,a5,c5,a6,c6,a7,c7,a8,c8,r5,rfl,hs3,hs4,hs5,w3,w4,w5,w6,w7,w8,w9,hr5,rfl⟩:=hp
 refine Jc [0] [(4,Sl a5 (([]:List (List UInt8)).length) c5)] (Je (Jb (Jn (Jk 1 (Jk 1 ?_)))))
 have hf1:(Wo t w).2=0∧([]:List (List UInt8))=([]:List (List UInt8))∧(Wo t w).1=((Zx t (⟨t.setup.names++[x2],t.setup.keys++[(Kl x1).1],t.setup.most,t.setup.batch,t.setup.every,t.setup.least,t.setup.top,t.setup.lost,t.setup.reach⟩:Kv)).1):=by
  (rw [Jb3 (t:=t) (w:=w) ‹_› ‹_› ‹_›];exact ⟨by assumption,rfl,rfl⟩)
 refine Jo [0] [Sl a5 (([]:List (List UInt8)).length) c5] (bpx (KT (Lr:=Lr) [[Sg b 0 (KP (Zx t (⟨t.setup.names++[x2],t.setup.keys++[(Kl x1).1],t.setup.most,t.setup.batch,t.setup.every,t.setup.least,t.setup.top,t.setup.lost,t.setup.reach⟩:Kv)).1 a6 c6 a7 c7 a8 c8)],r5] (Ja (Ja (Ja (Ja (Ja hle1 hl3) hl4) hl5) hl6) hl7) ?_))
 rw [hf1.2.1,hf1.2.2]
 try dsimp only
 exact ⟨hf1.1,a5,c5,a6,c6,a7,c7,a8,c8,r5,rfl,hs3,hs4,hs5,w3,w4,w5,w6,w7,w8,w9,hr5,rfl⟩
 refine JC 6 [(20,Sr x2)] (fun X=>?_)
 refine Kt 21 1 #[Sr x2] 9 (fun b6=>JD [(6,Sl (At b6 0) 1 1)] (JK [3,4,5] [(0,0),(1,4)] [] [2] (Ha _) (Ki ?_ K8)))
 refine JC 2 [(16,Sl a_0 t.setup.names.length c_0)] (fun X=>?_)
 refine JI 17 (JbY G1 a_0 c_0 t.setup.names (h_0.mono hle1)) (fun v G8 L1 hl8 hp=>?_)
 obtain ⟨a9,c9,_,rfl,hr6,rfl⟩:=hp
 refine JD [(2,Sl a9 t.setup.names.length c9)] (JK [0,1,3,4,5] [] [] [7] (Ha _) (Ki ?_ K8))
 refine JC 7 [(17,Sl a9 t.setup.names.length c9),(21,Sl (At b6 0) 1 1)] (fun X=>?_)
 refine Qy (b:=b6) (cs:=[Sr x2]) 22 9 0 1 (E:=ES) x2 hr6 ⟨rfl,w2⟩ (by (try simp only [He,Hd,Hg]);omega) (by (try simp only [ES,He,Hd,Hg]);omega) (fun a10 c10 r7 hr7=>JD [(7,Sl a10 ((t.setup.names++[x2]).length) c10),(8,Pt b2 0)] (JK [0,1,3,4,5] [(8,0)] [] [9] (Ha _) (Ki ?_ K8)))
 refine JC 9 [(22,Sl a10 ((t.setup.names++[x2]).length) c10),(23,Pt b2 0)] (fun X=>?_)
 refine KN 2 (r7::[Sg b6 0 [Sr x2]]::[Sg b2 0 [Sl a10 ((t.setup.names++[x2]).length) c10,Sl a_1 t.setup.keys.length c_1,I t.setup.most,I t.setup.batch,I t.setup.every,I t.setup.least,I t.setup.top,I t.setup.lost,I t.setup.reach]]::[Sg b 0 (KP t a_0 c_0 a_1 c_1 a_9 c_9)]::r_9::Lr) (Ka [] (Km [0,1,3,4,5,8] [] [] [(0,Pt b 0),(5,I ((Kl x1).1)),(6,Pt b2 0)] (Ha _) (Jb (Jf (Jd (Jc [0,6] [(25,Sl a_1 t.setup.keys.length c_1)] (JI 26 (JdI G8 a_1 c_1 t.setup.keys (h_1.mono (Ja hle1 hl8))) (fun v G9 L1 hl9 hp=>?_))))))))
 obtain ⟨_,_,_,rfl,hr8,rfl⟩:=hp
 refine Jc [0,0] [(28,U (Hm.wrap ((Kl x1).1)))] (JaU 28 ((Kl x1).1) (by have q_:=Vo x1;omega) (Kt 29 1 #[U ((Kl x1).1)] 41 (fun b7=>Qy (b:=b7) (cs:=[U ((Kl x1).1)]) 30 41 1 0 (E:=EU) ((Kl x1).1) hr8 ⟨rfl,(by have q_:=Vo x1;omega)⟩ (by (try simp only [He,Hd,Hg]);omega) (by (try simp only [EU,He,Hd,Hg]);omega) (fun a12 c12 r9 hr9=>JV [0,11] [] ([Sg b7 0 [U ((Kl x1).1)]]::r9::r7::[Sg b6 0 [Sr x2]]::[Sg b2 0 [Sl a10 ((t.setup.names++[x2]).length) c10,Sl a12 ((t.setup.keys++[(Kl x1).1]).length) c12,I t.setup.most,I t.setup.batch,I t.setup.every,I t.setup.least,I t.setup.top,I t.setup.lost,I t.setup.reach]]::[Sg b 0 (KP t a_0 c_0 a_1 c_1 a_9 c_9)]::r_9::Lr) (Je (Jb (Jf (Jd (Jc [0,10] [(32,Pt b 0),(33,.agg #[Sl a10 ((t.setup.names++[x2]).length) c10,Sl a12 ((t.setup.keys++[(Kl x1).1]).length) c12,I t.setup.most,I t.setup.batch,I t.setup.every,I t.setup.least,I t.setup.top,I t.setup.lost,I t.setup.reach])] (WL (E:=ES) 2 (hr7.mono hl9) (by (try simp only [ES,EU,WO,EI,He,Hd,Hg]);omega) (fun G10 hl10 hs6=>WL (E:=EU) 1 (hr9.mono hl10) (by (try simp only [ES,EU,WO,EI,He,Hd,Hg]);omega) (fun G11 hl11 hs7=>Jw 6 (Jw 6 (QL (Ls:=[[Sg b 0 (KP t a_0 c_0 a_1 c_1 a_9 c_9)],r_9]) (Lr:=([Sg b7 0 [U ((Kl x1).1)]]::[]::[]::[Sg b6 0 [Sr x2]]::[Sg b2 0 [Sl a10 ((t.setup.names++[x2]).length) c10,Sl a12 ((t.setup.keys++[(Kl x1).1]).length) c12,I t.setup.most,I t.setup.batch,I t.setup.every,I t.setup.least,I t.setup.top,I t.setup.lost,I t.setup.reach]]::Lr)) 34 hT (Jjd G11 b t a_0 c_0 a_1 c_1 a_9 c_9 r_9 (h_0.mono (Ja (Ja (Ja (Ja hle1 hl8) hl9) hl10) hl11)) (h_1.mono (Ja (Ja (Ja (Ja hle1 hl8) hl9) hl10) hl11)) ‹_› ‹_› ‹_› ‹_› ‹_› ‹_› ‹_› (h_9.mono (Ja (Ja (Ja (Ja hle1 hl8) hl9) hl10) hl11)) [Sl a10 ((t.setup.names++[x2]).length) c10,Sl a12 ((t.setup.keys++[(Kl x1).1]).length) c12,I t.setup.most,I t.setup.batch,I t.setup.every,I t.setup.least,I t.setup.top,I t.setup.lost,I t.setup.reach] (⟨t.setup.names++[x2],t.setup.keys++[(Kl x1).1],t.setup.most,t.setup.batch,t.setup.every,t.setup.least,t.setup.top,t.setup.lost,t.setup.reach⟩:Kv) (⟨a10,c10,a12,c12,rfl,(hs6.mono hl11),hs7,‹_›,‹_›,‹_›,‹_›,‹_›,‹_›,‹_›⟩) ‹_›) (fun v G12 L1 hl12 hp=>?_) (fun v G12 L1 hl12 hp=>?_)))))))))))))))
 obtain ⟨hne4,rfl,rfl⟩:=hp
 refine KO ?_
 have hp7:(Wo t w).2=(Zx t (⟨t.setup.names++[x2],t.setup.keys++[(Kl x1).1],t.setup.most,t.setup.batch,t.setup.every,t.setup.least,t.setup.top,t.setup.lost,t.setup.reach⟩:Kv)).2:=by
  rw [Jb3 (t:=t) (w:=w) ‹_› ‹_› ‹_›]
 refine ZU (Zp (Lr:=Lr) [[Sg b 0 (KP t a_0 c_0 a_1 c_1 a_9 c_9)],r_9] (Ja (Ja (Ja (Ja (Ja hle1 hl8) hl9) hl10) hl11) hl12) ?_)
 rw [hp7];exact ⟨hne4,rfl,rfl⟩
 obtain ⟨_,a13,c13,a14,c14,a15,c15,a16,c16,r10,rfl,hs8,hs9,hs10,w10,w11,w12,w13,w14,w15,w16,hr10,rfl⟩:=hp
 refine Jc [0] [(4,Sl a13 (([]:List (List UInt8)).length) c13)] (Je (Jb (Jn (Jk 1 (Jk 1 ?_)))))
 have hf2:(Wo t w).2=0∧([]:List (List UInt8))=([]:List (List UInt8))∧(Wo t w).1=((Zx t (⟨t.setup.names++[x2],t.setup.keys++[(Kl x1).1],t.setup.most,t.setup.batch,t.setup.every,t.setup.least,t.setup.top,t.setup.lost,t.setup.reach⟩:Kv)).1):=by
  (rw [Jb3 (t:=t) (w:=w) ‹_› ‹_› ‹_›];exact ⟨by assumption,rfl,rfl⟩)
 refine Jo [0] [Sl a13 (([]:List (List UInt8)).length) c13] (bpx (KT (Lr:=Lr) [[Sg b 0 (KP (Zx t (⟨t.setup.names++[x2],t.setup.keys++[(Kl x1).1],t.setup.most,t.setup.batch,t.setup.every,t.setup.least,t.setup.top,t.setup.lost,t.setup.reach⟩:Kv)).1 a14 c14 a15 c15 a16 c16)],r10] (Ja (Ja (Ja (Ja (Ja hle1 hl8) hl9) hl10) hl11) hl12) ?_))
 rw [hf2.2.1,hf2.2.2]
 try dsimp only
 exact ⟨hf2.1,a13,c13,a14,c14,a15,c15,a16,c16,r10,rfl,hs8,hs9,hs10,w10,w11,w12,w13,w14,w15,w16,hr10,rfl⟩
theorem Jmz (G:J4) (b:Nat) (t:KS) (a_0:Option Addr) (c_0:Nat) (a_1:Option Addr) (c_1:Nat) (a_9:Option Addr) (c_9:Nat) (r_9:List Kh) (h_0:RS ES G a_0 c_0 t.setup.names) (h_1:RS EU G a_1 c_1 t.setup.keys) (h_2:rI t.setup.most) (h_3:rI t.setup.batch) (h_4:rI t.setup.every) (h_5:rI t.setup.least) (h_6:rI t.setup.top) (h_7:rI t.setup.lost) (h_8:rI t.setup.reach) (h_9:J1 WO G a_9 c_9 t.deeds r_9) (a_w:Option Addr) (c_w:Nat) (w:List (List UInt8)) (h_w:RS ES G a_w c_w w) (hw:w.length=2) (hs:∀ s∈w,s.length≤1048576) (ht:t.deeds.length≤200) (hn:t.setup.names.length≤1000) (hk:t.setup.keys.length≤1000):YP Tryz.prog 82 #[Pt b 0,Sl a_w w.length c_w] G [[Sg b 0 [Sl a_0 t.setup.names.length c_0,Sl a_1 t.setup.keys.length c_1,I t.setup.most,I t.setup.batch,I t.setup.every,I t.setup.least,I t.setup.top,I t.setup.lost,I t.setup.reach,Sl a_9 t.deeds.length c_9]],r_9] (fun u G' L'=>((Zl t w).2=0)∧∃ (az1:Option Addr) (cz2:Nat) (az3:Option Addr) (cz4:Nat) (az5:Option Addr) (cz6:Nat) (az7:Option Addr) (cz8:Nat) (rz9:List Kh),u=Sl az1 (([]:List (List UInt8)).length) cz2∧(RS ES G' az1 cz2 ([]:List (List UInt8)))∧(RS ES G' az3 cz4 (((Zl t w).1).setup.names))∧(RS EU G' az5 cz6 (((Zl t w).1).setup.keys))∧(rI (((Zl t w).1).setup.most))∧(rI (((Zl t w).1).setup.batch))∧(rI (((Zl t w).1).setup.every))∧(rI (((Zl t w).1).setup.least))∧(rI (((Zl t w).1).setup.top))∧(rI (((Zl t w).1).setup.lost))∧(rI (((Zl t w).1).setup.reach))∧(J1 WO G' az7 cz8 (((Zl t w).1).deeds) rz9)∧L'=[[Sg b 0 [Sl az3 ((((Zl t w).1).setup.names).length) cz4,Sl az5 ((((Zl t w).1).setup.keys).length) cz6,I (((Zl t w).1).setup.most),I (((Zl t w).1).setup.batch),I (((Zl t w).1).setup.every),I (((Zl t w).1).setup.least),I (((Zl t w).1).setup.top),I (((Zl t w).1).setup.lost),I (((Zl t w).1).setup.reach),Sl az7 ((((Zl t w).1).deeds).length) cz8]],rz9]) (fun u _ L'=>(¬ (Zl t w).2=0)∧u=JaH ((Zl t w).2)∧L'=[[Sg b 0 [Sl a_0 t.setup.names.length c_0,Sl a_1 t.setup.keys.length c_1,I t.setup.most,I t.setup.batch,I t.setup.every,I t.setup.least,I t.setup.top,I t.setup.lost,I t.setup.reach,Sl a_9 t.deeds.length c_9]],r_9]):=by
 intro Lr
 refine YM Tryz.func82 16 [(0,Pt b 0),(1,Sl a_w w.length c_w)] rfl (fun w0 G0 hT=>?_)
 show TC _ _ _ _ _ ([Sg b 0 (KP t a_0 c_0 a_1 c_1 a_9 c_9)]::r_9::Lr)
 refine Jg [0] [] (Jf ?_)
 obtain ⟨b1,o1,rfl⟩:=RS.addr h_w (k:=0) (by omega)
 obtain ⟨x1,hx1⟩:=Wf (l:=w) (k:=0) (by omega)
 obtain ⟨_,⟨rfl,_⟩,hc1⟩:=RS.get h_w hx1
 obtain ⟨x2,hx2⟩:=Wf (l:=w) (k:=1) (by omega)
 obtain ⟨_,⟨rfl,w2⟩,hc2⟩:=RS.get h_w hx2
 refine Kp [4,9,10] (Wl [(0,Pt b 0),(1,Sl (At b1 o1) w.length c_w),(2,Pt b1 (o1+0*1)),(3,Sr x1),(5,Sl (At b1 o1) w.length c_w),(6,Pt b1 (o1+1*1)),(7,Sr x2)] (JK [] [(0,0),(1,0),(5,0)] [2,3,6,7] [4] (Ki ?_ (Ki ?_ (Ki ?_ (Ki ?_ K8)))) (Ki ?_ K8)))
 refine Jt 2 7 (Pt b1 (o1+0*1)) [(6,Sl (At b1 o1) w.length c_w)] (fun X=>?_)
 exact J5 (b:=b1) (off:=o1) (len:=w.length) (cap:=c_w) (ik:=.i64) 7 9 1 0 J8 Jp
 refine Jt 3 8 (Sr x1) [(7,Pt b1 (o1+0*1))] (fun X=>?_)
 exact JZ 8 9 (cs:=[Sr x1]) 0 (Sr x1) hc1 Jp
 refine Jt 6 11 (Pt b1 (o1+1*1)) [(10,Sl (At b1 o1) w.length c_w)] (fun X=>?_)
 exact J5 (b:=b1) (off:=o1) (len:=w.length) (cap:=c_w) (ik:=.i64) 11 9 1 1 J8 Jp
 refine Jt 7 12 (Sr x2) [(11,Pt b1 (o1+1*1))] (fun X=>?_)
 exact JZ 12 9 (cs:=[Sr x2]) 0 (Sr x2) hc2 Jp
 refine JC 4 [(8,Sr x1)] (fun X=>?_)
 refine QL (Ls:=[]) (Lr:=([Sg b 0 (KP t a_0 c_0 a_1 c_1 a_9 c_9)]::r_9::Lr)) 9 hT ((VO G x1 (by have q_:=hs _ (Hi hx2);omega)).frame) (fun v G1 L1 hl1 hp=>?_) (fun v G1 L1 hl1 hp=>?_)
 obtain ⟨hne1,rfl,rfl⟩:=hp
 refine KO (KO ?_)
 have hp1:(Zl t w).2=(Kl x1).2:=by
  exact Jmx ‹_› ‹_›
 refine ZU (Zp (Lr:=Lr) [[Sg b 0 (KP t a_0 c_0 a_1 c_1 a_9 c_9)],r_9] hl1 ?_)
 rw [hp1];exact ⟨hne1,rfl,rfl⟩
 obtain ⟨_,rfl,rfl⟩:=hp
 refine JD [(4,I ((Kl x1).1)),(8,.agg #[I 1,I ((Kl x1).1),Sr x2,Sl none 0 0,I 0,I 0,I 0,I 0,Sl none 0 0,I 0,U 0,U 0,I 0,Sr ([]),Sl none 0 0,Sl none 0 0])] (JK [1,2,3] [(0,0),(5,0),(8,0)] [6,7] [9] (Ki ?_ (Ki ?_ K8)) (Ki ?_ K8))
 refine Jt 6 11 (Pt b1 (o1+1*1)) [(10,Sl (At b1 o1) w.length c_w)] (fun X=>?_)
 exact J5 (b:=b1) (off:=o1) (len:=w.length) (cap:=c_w) (ik:=.i64) 11 9 1 1 J8 Jp
 refine Jt 7 12 (Sr x2) [(11,Pt b1 (o1+1*1))] (fun X=>?_)
 exact JZ 12 9 (cs:=[Sr x2]) 0 (Sr x2) (fun j v hv=>hl1 _ _ _ (hc2 j v hv)) Jp
 refine JC 9 [(13,.agg #[I 1,I ((Kl x1).1),Sr x2,Sl none 0 0,I 0,I 0,I 0,I 0,Sl none 0 0,I 0,U 0,U 0,I 0,Sr ([]),Sl none 0 0,Sl none 0 0])] (fun X=>?_)
 refine Kt 14 1 #[I 1,I ((Kl x1).1),Sr x2,Sl none 0 0,I 0,I 0,I 0,I 0,Sl none 0 0,I 0,U 0,U 0,I 0,Sr ([]),Sl none 0 0,Sl none 0 0] 53 (fun b2=>JD [(9,Sl (At b2 0) 1 1)] (JK [1,2,3,5,6,7,8] [(0,0)] [] [10] (Ha _) (Ki ?_ K8)))
 refine JC 10 [(5,Pt b 0),(14,Sl (At b2 0) 1 1)] (fun X=>?_)
 refine QZ (b:=b2) (o:=0) (cs:=[I 1,I ((Kl x1).1),Sr x2,Sl none 0 0,I 0,I 0,I 0,I 0,Sl none 0 0,I 0,U 0,U 0,I 0,Sr ([]),Sl none 0 0,Sl none 0 0]) 0 (fun G2 hl2 hz1=>?_)
 have hs1:RS WO G2 (At b2 0) 1 [(⟨1,(Kl x1).1,x2,[],(⟨0,0,0,0,[],(⟨(⟨0,0,0,0⟩:JU),(⟨[],[],[]⟩:Q6)⟩:Wa)⟩:JQ)⟩:K6)]:=RS.lit [[I 1,I ((Kl x1).1),Sr x2,Sl none 0 0,I 0,I 0,I 0,I 0,Sl none 0 0,I 0,U 0,U 0,I 0,Sr ([]),Sl none 0 0,Sl none 0 0]] [(⟨1,(Kl x1).1,x2,[],(⟨0,0,0,0,[],(⟨(⟨0,0,0,0⟩:JU),(⟨[],[],[]⟩:Q6)⟩:Wa)⟩:JQ)⟩:K6)] ⟨⟨none,0,none,0,none,0,none,0,rfl,(by (simp;done)),(by have q_:=Vo x1;(dsimp only;omega)),w2,(JP EI G2),(by (simp;done)),(by (simp;done)),(by (simp;done)),(by (simp;done)),(JP KA G2),(by (simp;done)),(by (simp;done)),(by (simp;done)),(by (simp;done)),(Hc rfl),(JP QD G2),(JP EU G2)⟩,trivial⟩ hz1 (Hc rfl) (Hc rfl)
 refine Jw 2 (Jw 2 (QL (Ls:=[[Sg b 0 (KP t a_0 c_0 a_1 c_1 a_9 c_9)],r_9]) (Lr:=([]::Lr)) 15 hT (Jje G2 b t a_0 c_0 a_1 c_1 a_9 c_9 r_9 (h_0.mono (Ja hl1 hl2)) (h_1.mono (Ja hl1 hl2)) h_2 h_3 h_4 h_5 h_6 h_7 h_8 (h_9.mono (Ja hl1 hl2)) (At b2 0) 1 ([(⟨1,(Kl x1).1,x2,[],(⟨0,0,0,0,[],(⟨(⟨0,0,0,0⟩:JU),(⟨[],[],[]⟩:Q6)⟩:Wa)⟩:JQ)⟩:K6)]) hs1 ‹_› (by simp)) (fun v G3 L1 hl3 hp=>?_) (fun v G3 L1 hl3 hp=>?_)))
 obtain ⟨hne2,rfl,rfl⟩:=hp
 refine KO (KO ?_)
 have hp3:(Zl t w).2=(ZR t ([(⟨1,(Kl x1).1,x2,[],(⟨0,0,0,0,[],(⟨(⟨0,0,0,0⟩:JU),(⟨[],[],[]⟩:Q6)⟩:Wa)⟩:JQ)⟩:K6)])).2:=by
  rw [Jjf (t:=t) (w:=w) ‹_› ‹_› ‹_›]
 refine ZU (Zp (Lr:=Lr) [[Sg b 0 (KP t a_0 c_0 a_1 c_1 a_9 c_9)],r_9] (Ja (Ja hl1 hl2) hl3) ?_)
 rw [hp3];exact ⟨hne2,rfl,rfl⟩
 obtain ⟨_,a1,c1,a2,c2,a3,c3,a4,c4,r1,rfl,hs2,hs3,hs4,w3,w4,w5,w6,w7,w8,w9,hr1,rfl⟩:=hp
 refine JD [(10,Sl a1 (([]:List (List UInt8)).length) c1),(11,Sl a1 (([]:List (List UInt8)).length) c1)] (Km [0,1,2,3,5,6,7,8] [(11,0)] [] [(4,Sl a1 (([]:List (List UInt8)).length) c1)] (Ha _) (Jb (Jn (Jk 1 (Jk 1 ?_)))))
 have hf1:(Zl t w).2=0∧([]:List (List UInt8))=([]:List (List UInt8))∧(Zl t w).1=((ZR t ([(⟨1,(Kl x1).1,x2,[],(⟨0,0,0,0,[],(⟨(⟨0,0,0,0⟩:JU),(⟨[],[],[]⟩:Q6)⟩:Wa)⟩:JQ)⟩:K6)])).1):=by
  (rw [Jjf (t:=t) (w:=w) ‹_› ‹_› ‹_›];exact ⟨by assumption,rfl,rfl⟩)
 refine Jo [0] [Sl a1 (([]:List (List UInt8)).length) c1] (bpx (KT (Lr:=Lr) [[Sg b 0 (KP (ZR t ([(⟨1,(Kl x1).1,x2,[],(⟨0,0,0,0,[],(⟨(⟨0,0,0,0⟩:JU),(⟨[],[],[]⟩:Q6)⟩:Wa)⟩:JQ)⟩:K6)])).1 a2 c2 a3 c3 a4 c4)],r1] (Ja (Ja hl1 hl2) hl3) ?_))
 rw [hf1.2.1,hf1.2.2]
 try dsimp only
 exact ⟨hf1.1,a1,c1,a2,c2,a3,c3,a4,c4,r1,rfl,hs2,hs3,hs4,w3,w4,w5,w6,w7,w8,w9,hr1,rfl⟩
abbrev Jop (kn1:Nat) (t:KS):=ZR t (Hb kn1 (⟨4,0,[],[],(⟨0,0,0,0,[],(⟨(⟨0,0,0,0⟩:JU),(⟨[],[],[]⟩:Q6)⟩:Wa)⟩:JQ)⟩:K6))
theorem JmA (G:J4) (b:Nat) (t:KS) (a_0:Option Addr) (c_0:Nat) (a_1:Option Addr) (c_1:Nat) (a_9:Option Addr) (c_9:Nat) (r_9:List Kh) (h_0:RS ES G a_0 c_0 t.setup.names) (h_1:RS EU G a_1 c_1 t.setup.keys) (h_2:rI t.setup.most) (h_3:rI t.setup.batch) (h_4:rI t.setup.every) (h_5:rI t.setup.least) (h_6:rI t.setup.top) (h_7:rI t.setup.lost) (h_8:rI t.setup.reach) (h_9:J1 WO G a_9 c_9 t.deeds r_9) (a_w:Option Addr) (c_w:Nat) (w:List (List UInt8)) (h_w:RS ES G a_w c_w w) (hw:w.length=1) (hs:∀ s∈w,s.length≤1048576) (ht:t.deeds.length≤200) (hn:t.setup.names.length≤1000) (hk:t.setup.keys.length≤1000):YP Tryz.prog 84 #[Pt b 0,Sl a_w w.length c_w] G [[Sg b 0 [Sl a_0 t.setup.names.length c_0,Sl a_1 t.setup.keys.length c_1,I t.setup.most,I t.setup.batch,I t.setup.every,I t.setup.least,I t.setup.top,I t.setup.lost,I t.setup.reach,Sl a_9 t.deeds.length c_9]],r_9] (fun u G' L'=>((Zm t w).2=0)∧∃ (az1:Option Addr) (cz2:Nat) (az3:Option Addr) (cz4:Nat) (az5:Option Addr) (cz6:Nat) (az7:Option Addr) (cz8:Nat) (rz9:List Kh),u=Sl az1 (([]:List (List UInt8)).length) cz2∧(RS ES G' az1 cz2 ([]:List (List UInt8)))∧(RS ES G' az3 cz4 (((Zm t w).1).setup.names))∧(RS EU G' az5 cz6 (((Zm t w).1).setup.keys))∧(rI (((Zm t w).1).setup.most))∧(rI (((Zm t w).1).setup.batch))∧(rI (((Zm t w).1).setup.every))∧(rI (((Zm t w).1).setup.least))∧(rI (((Zm t w).1).setup.top))∧(rI (((Zm t w).1).setup.lost))∧(rI (((Zm t w).1).setup.reach))∧(J1 WO G' az7 cz8 (((Zm t w).1).deeds) rz9)∧L'=[[Sg b 0 [Sl az3 ((((Zm t w).1).setup.names).length) cz4,Sl az5 ((((Zm t w).1).setup.keys).length) cz6,I (((Zm t w).1).setup.most),I (((Zm t w).1).setup.batch),I (((Zm t w).1).setup.every),I (((Zm t w).1).setup.least),I (((Zm t w).1).setup.top),I (((Zm t w).1).setup.lost),I (((Zm t w).1).setup.reach),Sl az7 ((((Zm t w).1).deeds).length) cz8]],rz9]) (fun u _ L'=>(¬ (Zm t w).2=0)∧u=JaH ((Zm t w).2)∧L'=[[Sg b 0 [Sl a_0 t.setup.names.length c_0,Sl a_1 t.setup.keys.length c_1,I t.setup.most,I t.setup.batch,I t.setup.every,I t.setup.least,I t.setup.top,I t.setup.lost,I t.setup.reach,Sl a_9 t.deeds.length c_9]],r_9]):=by
 intro Lr
 refine YM Tryz.func84 17 [(0,Pt b 0),(1,Sl a_w w.length c_w)] rfl (fun w0 G0 hT=>?_)
 show TC _ _ _ _ _ ([Sg b 0 (KP t a_0 c_0 a_1 c_1 a_9 c_9)]::r_9::Lr)
 refine Jg [0] [] (Jf (Jd (Jc [0] [(6,Sl a_w w.length c_w)] ?_)))
 obtain ⟨b1,o1,rfl⟩:=RS.addr h_w (k:=0) (by omega)
 obtain ⟨x1,hx1⟩:=Wf (l:=w) (k:=0) (by omega)
 obtain ⟨_,⟨rfl,_⟩,hc1⟩:=RS.get h_w hx1
 refine J5 (b:=b1) (off:=o1) (len:=w.length) (cap:=c_w) (ik:=.i64) 7 9 1 0 J8 (JZ 8 9 (cs:=[Sr x1]) 0 (Sr x1) hc1 (QL (Ls:=[]) (Lr:=([Sg b 0 (KP t a_0 c_0 a_1 c_1 a_9 c_9)]::r_9::Lr)) 9 hT ((VO G x1 (by have q_:=hs _ (Hi hx1);omega)).frame) (fun v G1 L1 hl1 hp=>?_) (fun v G1 L1 hl1 hp=>?_)))
 obtain ⟨hne1,rfl,rfl⟩:=hp
 refine KO ?_
 have hp1:(Zm t w).2=(Kl x1).2:=by
  exact Jmy ‹_› ‹_›
 refine ZU (Zp (Lr:=Lr) [[Sg b 0 (KP t a_0 c_0 a_1 c_1 a_9 c_9)],r_9] hl1 ?_)
 rw [hp1];exact ⟨hne1,rfl,rfl⟩
 obtain ⟨_,rfl,rfl⟩:=hp
 refine Jc [0] [(5,I ((Kl x1).1))] (Je (Jb (Jf (Jd (Jc [0,0] [(10,Pt b 0),(11,.agg #[I 4,I 0,Sr ([]),Sl none 0 0,I 0,I 0,I 0,I 0,Sl none 0 0,I 0,U 0,U 0,I 0,Sr ([]),Sl none 0 0,Sl none 0 0])] (Kt 12 1 #[I 4,I 0,Sr ([]),Sl none 0 0,I 0,I 0,I 0,I 0,Sl none 0 0,I 0,U 0,U 0,I 0,Sr ([]),Sl none 0 0,Sl none 0 0] 53 (fun b2=>Jc [0,0] [(14,I (if 201<((Kl x1).1) then 201 else ((Kl x1).1)))] (QZ (b:=b2) (o:=0) (cs:=[I 4,I 0,Sr ([]),Sl none 0 0,I 0,I 0,I 0,I 0,Sl none 0 0,I 0,U 0,U 0,I 0,Sr ([]),Sl none 0 0,Sl none 0 0]) 0 (fun G2 hl2 hz1=>?_)))))))))
 have hs1:RS WO G2 (At b2 0) 1 [(⟨4,0,[],[],(⟨0,0,0,0,[],(⟨(⟨0,0,0,0⟩:JU),(⟨[],[],[]⟩:Q6)⟩:Wa)⟩:JQ)⟩:K6)]:=RS.lit [[I 4,I 0,Sr ([]),Sl none 0 0,I 0,I 0,I 0,I 0,Sl none 0 0,I 0,U 0,U 0,I 0,Sr ([]),Sl none 0 0,Sl none 0 0]] [(⟨4,0,[],[],(⟨0,0,0,0,[],(⟨(⟨0,0,0,0⟩:JU),(⟨[],[],[]⟩:Q6)⟩:Wa)⟩:JQ)⟩:K6)] ⟨⟨none,0,none,0,none,0,none,0,rfl,(by (simp;done)),(by (simp;done)),(Hc rfl),(JP EI G2),(by (simp;done)),(by (simp;done)),(by (simp;done)),(by (simp;done)),(JP KA G2),(by (simp;done)),(by (simp;done)),(by (simp;done)),(by (simp;done)),(Hc rfl),(JP QD G2),(JP EU G2)⟩,trivial⟩ hz1 (Hc rfl) (Hc rfl)
 obtain ⟨kn1,hkn1⟩:∃ k_:Nat,(if 201<((Kl x1).1) then 201 else ((Kl x1).1))=(k_:Int):=⟨(if 201<((Kl x1).1) then 201 else ((Kl x1).1)).toNat,by (have q_:=Vo x1;omega)⟩
 have e1:(if 201<((Kl x1).1) then 201 else ((Kl x1).1))=(kn1:Int):=hkn1
 refine KU 14 (I (kn1:Int)) (congrArg I e1) (JI 15 (Jjc G2 (At b2 0) 1 (⟨4,0,[],[],(⟨0,0,0,0,[],(⟨(⟨0,0,0,0⟩:JU),(⟨[],[],[]⟩:Q6)⟩:Wa)⟩:JQ)⟩:K6) hs1 kn1 J8) (fun v G3 L1 hl3 hp=>?_))
 obtain ⟨a1,c1,_,rfl,hr1,rfl⟩:=hp
 refine WL (E:=WO) 0 hr1 (by (try simp only [WO,Hl]);omega) (fun G4 hl4 hs2=>Jw 3 (Jw 3 (QL (Ls:=[[Sg b 0 (KP t a_0 c_0 a_1 c_1 a_9 c_9)],r_9]) (Lr:=([]::[]::Lr)) 16 hT (Jje G4 b t a_0 c_0 a_1 c_1 a_9 c_9 r_9 (h_0.mono (Ja (Ja (Ja hl1 hl2) hl3) hl4)) (h_1.mono (Ja (Ja (Ja hl1 hl2) hl3) hl4)) h_2 h_3 h_4 h_5 h_6 h_7 h_8 (h_9.mono (Ja (Ja (Ja hl1 hl2) hl3) hl4)) a1 c1 (Hb kn1 (⟨4,0,[],[],(⟨0,0,0,0,[],(⟨(⟨0,0,0,0⟩:JU),(⟨[],[],[]⟩:Q6)⟩:Wa)⟩:JQ)⟩:K6)) hs2 ‹_› (by (rw [Hl];have q_:=Vo x1;omega))) (fun v G5 L1 hl5 hp=>?_) (fun v G5 L1 hl5 hp=>?_))))
 obtain ⟨hne2,rfl,rfl⟩:=hp
 refine KO ?_
 have hp3:(Zm t w).2=(Jop kn1 t).2:=by
  rw [Jjg (t:=t) (w:=w) ‹_› ‹_› ‹_›]
 refine ZU (Zp (Lr:=Lr) [[Sg b 0 (KP t a_0 c_0 a_1 c_1 a_9 c_9)],r_9] (Ja (Ja (Ja (Ja hl1 hl2) hl3) hl4) hl5) ?_)
 rw [hp3];exact ⟨hne2,rfl,rfl⟩
 obtain ⟨_,a2,c2,a3,c3,a4,c4,a5,c5,r2,rfl,hs3,hs4,hs5,w2,w3,w4,w5,w6,w7,w8,hr2,rfl⟩:=hp
 refine Jc [0] [(4,Sl a2 (([]:List (List UInt8)).length) c2)] (Je (Jb (Jn (Jk 1 (Jk 1 ?_)))))
 have hf1:(Zm t w).2=0∧([]:List (List UInt8))=([]:List (List UInt8))∧(Zm t w).1=((Jop kn1 t).1):=by
  (rw [Jjg (t:=t) (w:=w) ‹_› ‹_› ‹_›];exact ⟨by assumption,rfl,rfl⟩)
 refine Jo [0] [Sl a2 (([]:List (List UInt8)).length) c2] (bpx (KT (Lr:=Lr) [[Sg b 0 (KP (Jop kn1 t).1 a3 c3 a4 c4 a5 c5)],r2] (Ja (Ja (Ja (Ja hl1 hl2) hl3) hl4) hl5) ?_))
 rw [hf1.2.1,hf1.2.2]
 try dsimp only
 exact ⟨hf1.1,a2,c2,a3,c3,a4,c4,a5,c5,r2,rfl,hs3,hs4,hs5,w2,w3,w4,w5,w6,w7,w8,hr2,rfl⟩
def dNow (t:KS) (w:List (List UInt8)):List (List UInt8)×Int:=if ¬ (Jr t.setup t.deeds).2.2=0 then ([],(Jr t.setup t.deeds).2.2) else ([(Jr t.setup t.deeds).1.clerk.now,((Jr t.setup t.deeds).1.clerk.heads.length:Int),((Jr t.setup t.deeds).1.clerk.queue.wait.length:Int)].map Lib.itoa,0)
theorem JmB (G:J4) (b:Nat) (t:KS) (a_0:Option Addr) (c_0:Nat) (a_1:Option Addr) (c_1:Nat) (a_9:Option Addr) (c_9:Nat) (r_9:List Kh) (h_0:RS ES G a_0 c_0 t.setup.names) (h_1:RS EU G a_1 c_1 t.setup.keys) (h_2:rI t.setup.most) (h_3:rI t.setup.batch) (h_4:rI t.setup.every) (h_5:rI t.setup.least) (h_6:rI t.setup.top) (h_7:rI t.setup.lost) (h_8:rI t.setup.reach) (h_9:J1 WO G a_9 c_9 t.deeds r_9)  (ht:t.deeds.length≤200):YP Tryz.prog 139 #[Pt b 0] G [[Sg b 0 [Sl a_0 t.setup.names.length c_0,Sl a_1 t.setup.keys.length c_1,I t.setup.most,I t.setup.batch,I t.setup.every,I t.setup.least,I t.setup.top,I t.setup.lost,I t.setup.reach,Sl a_9 t.deeds.length c_9]],r_9] (fun u G' L'=>((Jr t.setup t.deeds).2.2=0)∧∃ (az1:Option Addr) (cz2:Nat) (az3:Option Addr) (cz4:Nat) (az5:Option Addr) (cz6:Nat) (az7:Option Addr) (cz8:Nat) (az9:Option Addr) (cz10:Nat) (az11:Option Addr) (cz12:Nat) (az13:Option Addr) (cz14:Nat),u=.tuple #[.agg #[I (((Jr t.setup t.deeds).1).clerk.queue.most),Sl az1 ((((Jr t.setup t.deeds).1).clerk.queue.wait).length) cz2,I (((Jr t.setup t.deeds).1).clerk.batch),I (((Jr t.setup t.deeds).1).clerk.every),I (((Jr t.setup t.deeds).1).clerk.now),Sl az3 ((((Jr t.setup t.deeds).1).clerk.heads).length) cz4,Sl az5 ((((Jr t.setup t.deeds).1).clerk.books).length) cz6,Sl az7 ((((Jr t.setup t.deeds).1).owners).length) cz8,Sl az9 ((((Jr t.setup t.deeds).1).polls).length) cz10,I (((Jr t.setup t.deeds).1).net.now),Sl az11 ((((Jr t.setup t.deeds).1).net.way).length) cz12],Sl az13 (((Jr t.setup t.deeds).2.1).length) cz14]∧(rI (((Jr t.setup t.deeds).1).clerk.queue.most))∧(RS QW G' az1 cz2 (((Jr t.setup t.deeds).1).clerk.queue.wait))∧(rI (((Jr t.setup t.deeds).1).clerk.batch))∧(rI (((Jr t.setup t.deeds).1).clerk.every))∧(rI (((Jr t.setup t.deeds).1).clerk.now))∧(RS KA G' az3 cz4 (((Jr t.setup t.deeds).1).clerk.heads))∧(RS Qk G' az5 cz6 (((Jr t.setup t.deeds).1).clerk.books))∧(RS QB G' az7 cz8 (((Jr t.setup t.deeds).1).owners))∧(RS Wg G' az9 cz10 (((Jr t.setup t.deeds).1).polls))∧(rI (((Jr t.setup t.deeds).1).net.now))∧(RS Ke G' az11 cz12 (((Jr t.setup t.deeds).1).net.way))∧(RS QU G' az13 cz14 ((Jr t.setup t.deeds).2.1))∧L'=[[Sg b 0 [Sl a_0 t.setup.names.length c_0,Sl a_1 t.setup.keys.length c_1,I t.setup.most,I t.setup.batch,I t.setup.every,I t.setup.least,I t.setup.top,I t.setup.lost,I t.setup.reach,Sl a_9 t.deeds.length c_9]],r_9]) (fun u _ L'=>(¬ (Jr t.setup t.deeds).2.2=0)∧u=JaH ((Jr t.setup t.deeds).2.2)∧L'=[[Sg b 0 [Sl a_0 t.setup.names.length c_0,Sl a_1 t.setup.keys.length c_1,I t.setup.most,I t.setup.batch,I t.setup.every,I t.setup.least,I t.setup.top,I t.setup.lost,I t.setup.reach,Sl a_9 t.deeds.length c_9]],r_9]):=by
 intro Lr
 refine YM Tryz.func139 24 [(0,Pt b 0)] rfl (fun w0 G0 hT=>?_)
 show TC _ _ _ _ _ ([Sg b 0 (KP t a_0 c_0 a_1 c_1 a_9 c_9)]::r_9::Lr)
 refine Jf (Jd (Jv 2 #[I 0,Sl none 0 0,I 0,I 0,I 0,Sl none 0 0,Sl none 0 0,Sl none 0 0,Sl none 0 0,I 0,Sl none 0 0] 67 (fun b1=>Jc [0] [] (Je (Jb ?_)))))
 refine Yv (σ:=Nat×(Option Addr)×Nat×(Option Addr)×Nat×(Option Addr)×Nat×(Option Addr)×Nat×(Option Addr)×Nat×(Option Addr)×Nat×(Option Addr)×Nat×J4) (fun q_=>(J4.le G q_.2.2.2.2.2.2.2.2.2.2.2.2.2.2.2)∧(RS QU q_.2.2.2.2.2.2.2.2.2.2.2.2.2.2.2 q_.2.1 q_.2.2.1 ((Jr t.setup t.deeds).2.1))∧(rI (((Jr t.setup t.deeds).1).clerk.queue.most))∧(RS QW q_.2.2.2.2.2.2.2.2.2.2.2.2.2.2.2 q_.2.2.2.1 q_.2.2.2.2.1 (((Jr t.setup t.deeds).1).clerk.queue.wait))∧(rI (((Jr t.setup t.deeds).1).clerk.batch))∧(rI (((Jr t.setup t.deeds).1).clerk.every))∧(rI (((Jr t.setup t.deeds).1).clerk.now))∧(RS KA q_.2.2.2.2.2.2.2.2.2.2.2.2.2.2.2 q_.2.2.2.2.2.1 q_.2.2.2.2.2.2.1 (((Jr t.setup t.deeds).1).clerk.heads))∧(RS Qk q_.2.2.2.2.2.2.2.2.2.2.2.2.2.2.2 q_.2.2.2.2.2.2.2.1 q_.2.2.2.2.2.2.2.2.1 (((Jr t.setup t.deeds).1).clerk.books))∧(RS QB q_.2.2.2.2.2.2.2.2.2.2.2.2.2.2.2 q_.2.2.2.2.2.2.2.2.2.1 q_.2.2.2.2.2.2.2.2.2.2.1 (((Jr t.setup t.deeds).1).owners))∧(RS Wg q_.2.2.2.2.2.2.2.2.2.2.2.2.2.2.2 q_.2.2.2.2.2.2.2.2.2.2.2.1 q_.2.2.2.2.2.2.2.2.2.2.2.2.1 (((Jr t.setup t.deeds).1).polls))∧(rI (((Jr t.setup t.deeds).1).net.now))∧(RS Ke q_.2.2.2.2.2.2.2.2.2.2.2.2.2.2.2 q_.2.2.2.2.2.2.2.2.2.2.2.2.2.1 q_.2.2.2.2.2.2.2.2.2.2.2.2.2.2.1 (((Jr t.setup t.deeds).1).net.way))) (fun q_=>[(2,Pt b1 0),(4,Pt q_.1 0),(5,Sl q_.2.1 (((Jr t.setup t.deeds).2.1).length) q_.2.2.1),(6,I ((Jr t.setup t.deeds).2.2))]) (fun q_=>q_.2.2.2.2.2.2.2.2.2.2.2.2.2.2.2) (fun q_=>([Sg q_.1 0 (Zq (Jr t.setup t.deeds).1 q_.2.2.2.1 q_.2.2.2.2.1 q_.2.2.2.2.2.1 q_.2.2.2.2.2.2.1 q_.2.2.2.2.2.2.2.1 q_.2.2.2.2.2.2.2.2.1 q_.2.2.2.2.2.2.2.2.2.1 q_.2.2.2.2.2.2.2.2.2.2.1 q_.2.2.2.2.2.2.2.2.2.2.2.1 q_.2.2.2.2.2.2.2.2.2.2.2.2.1 q_.2.2.2.2.2.2.2.2.2.2.2.2.2.1 q_.2.2.2.2.2.2.2.2.2.2.2.2.2.2.1)]::r_9::[Sg b1 0 [I 0,Sl none 0 0,I 0,I 0,I 0,Sl none 0 0,Sl none 0 0,Sl none 0 0,Sl none 0 0,I 0,Sl none 0 0]]::[Sg b 0 (KP t a_0 c_0 a_1 c_1 a_9 c_9)]::Lr)) ?_ (fun q_ hs=>?_)
 refine Kp [8,13,14] (Wl [(0,Pt b 0),(1,Pt b 0),(2,Pt b 0),(3,(Yz t.setup a_0 c_0 a_1 c_1)),(4,Pt b 0),(5,Pt b 0),(6,Pt b 9),(7,Sl a_9 t.deeds.length c_9)] (JK [] [(0,0),(1,0),(2,0),(3,4),(4,0),(5,0),(6,0),(7,4)] [] [8,13] (Ha _) (Ki ?_ (Ki ?_ K8))))
 refine JC 8 [(11,(Yz t.setup a_0 c_0 a_1 c_1)),(15,Sl a_9 t.deeds.length c_9)] (fun X=>?_)
 refine Jw 2 (Qp (Ls:=[r_9]) (Lr:=([Sg b1 0 [I 0,Sl none 0 0,I 0,I 0,I 0,Sl none 0 0,Sl none 0 0,Sl none 0 0,Sl none 0 0,I 0,Sl none 0 0]]::[Sg b 0 (KP t a_0 c_0 a_1 c_1 a_9 c_9)]::Lr)) 16 (Jd2 G (QJ t.setup a_0 c_0 a_1 c_1) t.setup (⟨a_0,c_0,a_1,c_1,rfl,h_0,h_1,h_2,h_3,h_4,h_5,h_6,h_7,h_8⟩) a_9 c_9 t.deeds r_9 h_9) (fun v G1 L1 hl1 hp=>?_))
 obtain ⟨a1,c1,a2,c2,a3,c3,a4,c4,a5,c5,a6,c6,a7,c7,rfl,w1,hs1,w2,w3,w4,hs2,hs3,hs4,hs5,w5,hs6,hs7,rfl⟩:=hp
 refine JD [(8,.tuple #[(Y8 (Jr t.setup t.deeds).1 a1 c1 a2 c2 a3 c3 a4 c4 a5 c5 a6 c6),Sl a7 (((Jr t.setup t.deeds).2.1).length) c7,I ((Jr t.setup t.deeds).2.2)]),(9,.tuple #[(Y8 (Jr t.setup t.deeds).1 a1 c1 a2 c2 a3 c3 a4 c4 a5 c5 a6 c6),Sl a7 (((Jr t.setup t.deeds).2.1).length) c7,I ((Jr t.setup t.deeds).2.2)]),(10,(Y8 (Jr t.setup t.deeds).1 a1 c1 a2 c2 a3 c3 a4 c4 a5 c5 a6 c6)),(11,Sl a7 (((Jr t.setup t.deeds).2.1).length) c7),(12,I ((Jr t.setup t.deeds).2.2))] (JK [0,1,2,3,4,5,6,7] [(9,0),(10,0),(11,0),(12,0)] [] [13] (Ha _) (Ki ?_ K8))
 refine JC 13 [] (fun X=>?_)
 refine Jv 4 #[I 0,Sl none 0 0,I 0,I 0,I 0,Sl none 0 0,Sl none 0 0,Sl none 0 0,Sl none 0 0,I 0,Sl none 0 0] 67 (fun b2=>JD [(13,Pt b2 0)] (JK [0,1,2,3,4,5,6,7] [(9,0),(10,0),(11,0),(12,0)] [] [14] (Ha _) (Ki ?_ K8)))
 refine JC 14 [(4,Pt b2 0),(17,(Y8 (Jr t.setup t.deeds).1 a1 c1 a2 c2 a3 c3 a4 c4 a5 c5 a6 c6))] (fun X=>?_)
 exact KN 0 ([Sg b2 0 (Zq (Jr t.setup t.deeds).1 a1 c1 a2 c2 a3 c3 a4 c4 a5 c5 a6 c6)]::r_9::[Sg b1 0 [I 0,Sl none 0 0,I 0,I 0,I 0,Sl none 0 0,Sl none 0 0,Sl none 0 0,Sl none 0 0,I 0,Sl none 0 0]]::[Sg b 0 (KP t a_0 c_0 a_1 c_1 a_9 c_9)]::Lr) (Ka [(15,Sl a7 (((Jr t.setup t.deeds).2.1).length) c7),(16,I ((Jr t.setup t.deeds).2.2))] (Km [0,1,2,3,4,5,6,7,9,10] [(11,0),(12,0),(15,0),(16,0)] [] [(2,Pt b1 0),(4,Pt b2 0),(5,Sl a7 (((Jr t.setup t.deeds).2.1).length) c7),(6,I ((Jr t.setup t.deeds).2.2))] (Ha _) (Wd (b2,a7,c7,a1,c1,a2,c2,a3,c3,a4,c4,a5,c5,a6,c6,G1) ⟨hl1,hs7,w1,hs1,w2,w3,w4,hs2,hs3,hs4,hs5,w5,hs6⟩)))
 refine JC 13 [] (fun X=>?_)
 refine Jv 4 #[I 0,Sl none 0 0,I 0,I 0,I 0,Sl none 0 0,Sl none 0 0,Sl none 0 0,Sl none 0 0,I 0,Sl none 0 0] 67 (fun b3=>JD [(13,Pt b3 0)] (JK [] [(0,0),(1,0),(2,0),(3,6),(4,0),(5,0),(6,0),(7,6)] [] [8] (Ha _) (Ki ?_ K8)))
 refine JC 8 [(11,(Yz t.setup a_0 c_0 a_1 c_1)),(15,Sl a_9 t.deeds.length c_9)] (fun X=>?_)
 refine Jw 3 (Qp (Ls:=[r_9]) (Lr:=([Sg b3 0 [I 0,Sl none 0 0,I 0,I 0,I 0,Sl none 0 0,Sl none 0 0,Sl none 0 0,Sl none 0 0,I 0,Sl none 0 0]]::[Sg b1 0 [I 0,Sl none 0 0,I 0,I 0,I 0,Sl none 0 0,Sl none 0 0,Sl none 0 0,Sl none 0 0,I 0,Sl none 0 0]]::[Sg b 0 (KP t a_0 c_0 a_1 c_1 a_9 c_9)]::Lr)) 16 (Jd2 G (QJ t.setup a_0 c_0 a_1 c_1) t.setup (⟨a_0,c_0,a_1,c_1,rfl,h_0,h_1,h_2,h_3,h_4,h_5,h_6,h_7,h_8⟩) a_9 c_9 t.deeds r_9 h_9) (fun v G2 L1 hl2 hp=>?_))
 obtain ⟨a8,c8,a9,c9,a10,c10,a11,c11,a12,c12,a13,c13,a14,c14,rfl,w6,hs8,w7,w8,w9,hs9,hs10,hs11,hs12,w10,hs13,hs14,rfl⟩:=hp
 refine JD [(8,.tuple #[(Y8 (Jr t.setup t.deeds).1 a8 c8 a9 c9 a10 c10 a11 c11 a12 c12 a13 c13),Sl a14 (((Jr t.setup t.deeds).2.1).length) c14,I ((Jr t.setup t.deeds).2.2)]),(9,.tuple #[(Y8 (Jr t.setup t.deeds).1 a8 c8 a9 c9 a10 c10 a11 c11 a12 c12 a13 c13),Sl a14 (((Jr t.setup t.deeds).2.1).length) c14,I ((Jr t.setup t.deeds).2.2)]),(10,(Y8 (Jr t.setup t.deeds).1 a8 c8 a9 c9 a10 c10 a11 c11 a12 c12 a13 c13)),(11,Sl a14 (((Jr t.setup t.deeds).2.1).length) c14),(12,I ((Jr t.setup t.deeds).2.2))] (JK [0,1,2,3,4,5,6,7] [(9,0),(10,0),(11,0),(12,0)] [] [14] (Ha _) (Ki ?_ K8))
 refine JC 14 [(4,Pt b3 0),(17,(Y8 (Jr t.setup t.deeds).1 a8 c8 a9 c9 a10 c10 a11 c11 a12 c12 a13 c13))] (fun X=>?_)
 exact KN 1 (r_9::[Sg b3 0 (Zq (Jr t.setup t.deeds).1 a8 c8 a9 c9 a10 c10 a11 c11 a12 c12 a13 c13)]::[Sg b1 0 [I 0,Sl none 0 0,I 0,I 0,I 0,Sl none 0 0,Sl none 0 0,Sl none 0 0,Sl none 0 0,I 0,Sl none 0 0]]::[Sg b 0 (KP t a_0 c_0 a_1 c_1 a_9 c_9)]::Lr) (Ka [(15,Sl a14 (((Jr t.setup t.deeds).2.1).length) c14),(16,I ((Jr t.setup t.deeds).2.2))] (Km [0,1,2,3,4,5,6,7,9,10] [(11,0),(12,0),(15,0),(16,0)] [] [(2,Pt b1 0),(4,Pt b3 0),(5,Sl a14 (((Jr t.setup t.deeds).2.1).length) c14),(6,I ((Jr t.setup t.deeds).2.2))] (Ha _) (Jk 3 (Jk 3 (Jk 2 (Jk 3 (Wd (b3,a14,c14,a8,c8,a9,c9,a10,c10,a11,c11,a12,c12,a13,c13,G2) ⟨hl2,hs14,w6,hs8,w7,w8,w9,hs9,hs10,hs11,hs12,w10,hs13⟩)))))))
 obtain ⟨b2,a7,c7,a1,c1,a2,c2,a3,c3,a4,c4,a5,c5,a6,c6,G1⟩:=q_
 obtain ⟨hle1,hj1,hj2,hj3,hj4,hj5,hj6,hj7,hj8,hj9,hj10,hj11,hj12⟩:=hs
 dsimp only at hle1 hj1 hj2 hj3 hj4 hj5 hj6 hj7 hj8 hj9 hj10 hj11 hj12
 dsimp only
 refine Jf (Jd (Jc [0] [(20,I ((Jr t.setup t.deeds).2.2))] (QL (Ls:=[]) (Lr:=([Sg b2 0 (Zq (Jr t.setup t.deeds).1 a1 c1 a2 c2 a3 c3 a4 c4 a5 c5 a6 c6)]::r_9::[Sg b1 0 [I 0,Sl none 0 0,I 0,I 0,I 0,Sl none 0 0,Sl none 0 0,Sl none 0 0,Sl none 0 0,I 0,Sl none 0 0]]::[Sg b 0 (KP t a_0 c_0 a_1 c_1 a_9 c_9)]::Lr)) 21 hT ((Z9 G1 ((Jr t.setup t.deeds).2.2)).frame) (fun v G3 L1 hl3 hp=>?_) (fun v G3 L1 hl3 hp=>?_))))
 obtain ⟨hne1,rfl,rfl⟩:=hp
 refine KO ?_
 have hp1:(Jr t.setup t.deeds).2.2=(Jr t.setup t.deeds).2.2:=by
  rfl
 refine Jk 1 (Jk 3 ?_)
 refine ZU (Zp (Lr:=Lr) [[Sg b 0 (KP t a_0 c_0 a_1 c_1 a_9 c_9)],r_9] (Ja hle1 hl3) ?_)
 rw [hp1];exact ⟨hne1,rfl,rfl⟩
 obtain ⟨_,rfl,rfl⟩:=hp
 refine Je (Jb (QA [2,0,7,0] [(3,Sl a7 (((Jr t.setup t.deeds).2.1).length) c7)] ([Sg b2 0 (Zq (Jr t.setup t.deeds).1 a1 c1 a2 c2 a3 c3 a4 c4 a5 c5 a6 c6)]::r_9::[Sg b1 0 (Zq (Jr t.setup t.deeds).1 a1 c1 a2 c2 a3 c3 a4 c4 a5 c5 a6 c6)]::[Sg b 0 (KP t a_0 c_0 a_1 c_1 a_9 c_9)]::Lr) (Jn (Jk 1 (Jk 3 ?_)))))
 have hf1:(Jr t.setup t.deeds).2.2=0∧(Jr t.setup t.deeds).1=((Jr t.setup t.deeds).1)∧(Jr t.setup t.deeds).2.1=(Jr t.setup t.deeds).2.1:=by
  exact ⟨by assumption,rfl,rfl⟩
 refine Jo [3,0] [(Y8 (Jr t.setup t.deeds).1 a1 c1 a2 c2 a3 c3 a4 c4 a5 c5 a6 c6),Sl a7 (((Jr t.setup t.deeds).2.1).length) c7] (bpx (KT (Lr:=Lr) [[Sg b 0 (KP t a_0 c_0 a_1 c_1 a_9 c_9)],r_9] (Ja hle1 hl3) ?_))
 rw [hf1.2.1,hf1.2.2]
 try dsimp only
 exact ⟨hf1.1,a1,c1,a2,c2,a3,c3,a4,c4,a5,c5,a6,c6,a7,c7,rfl,hj2,(hj3.mono hl3),hj4,hj5,hj6,(hj7.mono hl3),(hj8.mono hl3),(hj9.mono hl3),(hj10.mono hl3),hj11,(hj12.mono hl3),(hj1.mono hl3),rfl⟩
def Zt (t:KS) (w:List (List UInt8)):List (List UInt8)×Int :=
 if ¬ (Kl (VQ w 1)).2=0 then ([],(Kl (VQ w 1)).2) else if ¬ (Jr t.setup t.deeds).2.2=0 then ([],(Jr t.setup t.deeds).2.2)
 else if ¬ (JM (Jr t.setup t.deeds).1.clerk (VQ w 0) (Kl (VQ w 1)).1).2=0 then ([],(JM (Jr t.setup t.deeds).1.clerk (VQ w 0) (Kl (VQ w 1)).1).2)
 else if ¬ (JG (JM (Jr t.setup t.deeds).1.clerk (VQ w 0) (Kl (VQ w 1)).1).1).2.2=0 then ([],(JG (JM (Jr t.setup t.deeds).1.clerk (VQ w 0) (Kl (VQ w 1)).1).1).2.2)
 else if (JG (JM (Jr t.setup t.deeds).1.clerk (VQ w 0) (Kl (VQ w 1)).1).1).2.1=false then ([[45]],0) else ([[43],(JG (JM (Jr t.setup t.deeds).1.clerk (VQ w 0) (Kl (VQ w 1)).1).1).1],0)
section
variable {t:KS} {w:List (List UInt8)} {x y:List UInt8}
theorem Jpb (h:w[1]? = some y) (h1:¬ (Kl y).2=0):(Zt t w).2=(Kl y).2:=by unfold Zt;rw [← Wt h,if_pos h1]
theorem Jpc (h:w[1]? = some y) (h1:(Kl y).2=0) (h2:¬ (Jr t.setup t.deeds).2.2=0):(Zt t w).2=(Jr t.setup t.deeds).2.2:=by unfold Zt;rw [← Wt h,if_neg (by omega),if_pos h2]
theorem Jpd (h:w[1]? = some y) (h0:w[0]? = some x) (h1:(Kl y).2=0) (h2:(Jr t.setup t.deeds).2.2=0) (h3:¬ (JM (Jr t.setup t.deeds).1.clerk x (Kl y).1).2=0):(Zt t w).2=(JM (Jr t.setup t.deeds).1.clerk x (Kl y).1).2:=by
 unfold Zt;rw [← Wt h,← Wt h0,if_neg (by omega),if_neg (by omega),if_pos h3]
theorem Jpe (h:w[1]? = some y) (h0:w[0]? = some x) (h1:(Kl y).2=0) (h2:(Jr t.setup t.deeds).2.2=0) (h3:(JM (Jr t.setup t.deeds).1.clerk x (Kl y).1).2=0) (h4:¬ (JG (JM (Jr t.setup t.deeds).1.clerk x (Kl y).1).1).2.2=0) :
  (Zt t w).2=(JG (JM (Jr t.setup t.deeds).1.clerk x (Kl y).1).1).2.2:=by
 unfold Zt;rw [← Wt h,← Wt h0,if_neg (by omega),if_neg (by omega),if_neg (by omega),if_pos h4]
theorem Jpf (h:w[1]? = some y) (h0:w[0]? = some x) (h1:(Kl y).2=0) (h2:(Jr t.setup t.deeds).2.2=0) (h3:(JM (Jr t.setup t.deeds).1.clerk x (Kl y).1).2=0) (h4:(JG (JM (Jr t.setup t.deeds).1.clerk x (Kl y).1).1).2.2=0)
  (h5:(JG (JM (Jr t.setup t.deeds).1.clerk x (Kl y).1).1).2.1=false):Zt t w=([[45]],0):=by
 unfold Zt;rw [← Wt h,← Wt h0,if_neg (by omega),if_neg (by omega),if_neg (by omega),if_neg (by omega),if_pos h5]
theorem Jpg (h:w[1]? = some y) (h0:w[0]? = some x) (h1:(Kl y).2=0) (h2:(Jr t.setup t.deeds).2.2=0) (h3:(JM (Jr t.setup t.deeds).1.clerk x (Kl y).1).2=0) (h4:(JG (JM (Jr t.setup t.deeds).1.clerk x (Kl y).1).1).2.2=0)
  (h5:(JG (JM (Jr t.setup t.deeds).1.clerk x (Kl y).1).1).2.1=true):Zt t w=([[43],(JG (JM (Jr t.setup t.deeds).1.clerk x (Kl y).1).1).1],0):=by
 unfold Zt;rw [← Wt h,← Wt h0,if_neg (by omega),if_neg (by omega),if_neg (by omega),if_neg (by omega),if_neg (by rw [h5];simp)]
end
def Jjh (t:KS) (w:List (List UInt8)):List (List UInt8)×Int :=
 if ¬ (Jr t.setup t.deeds).2.2=0 then ([],(Jr t.setup t.deeds).2.2) else if ¬ (KY (WW (Jr t.setup t.deeds).1.clerk.heads)).2=0 then ([],(KY (WW (Jr t.setup t.deeds).1.clerk.heads)).2)
 else ([Lib.itoa (KY (WW (Jr t.setup t.deeds).1.clerk.heads)).1],0)
section
variable {t:KS} {w:List (List UInt8)} {x:JU} {k:Nat}
end
def Jji (t:KS) (w:List (List UInt8)):List (List UInt8)×Int :=
 if ¬ (Kl (VQ w 0)).2=0 then ([],(Kl (VQ w 0)).2) else if ¬ (Jr t.setup t.deeds).2.2=0 then ([],(Jr t.setup t.deeds).2.2)
 else match (Jr t.setup t.deeds).1.owners[(Kl (VQ w 0)).1.toNat]? with
  | some o=>([o.head.epoch,o.had].map Lib.itoa,0)
  | none=>([],5)
section
variable {t:KS} {w:List (List UInt8)} {y:List UInt8}
end
set_option maxRecDepth 20000 in
theorem JmC (G:J4) (b:Nat) (t:KS) (a_0:Option Addr) (c_0:Nat) (a_1:Option Addr) (c_1:Nat) (a_9:Option Addr) (c_9:Nat) (r_9:List Kh) (h_0:RS ES G a_0 c_0 t.setup.names) (h_1:RS EU G a_1 c_1 t.setup.keys) (h_2:rI t.setup.most) (h_3:rI t.setup.batch) (h_4:rI t.setup.every) (h_5:rI t.setup.least) (h_6:rI t.setup.top) (h_7:rI t.setup.lost) (h_8:rI t.setup.reach) (h_9:J1 WO G a_9 c_9 t.deeds r_9) (a_w:Option Addr) (c_w:Nat) (w:List (List UInt8)) (h_w:RS ES G a_w c_w w) (hw:w.length=2) (hs:∀ s∈w,s.length≤1048576) (ht:t.deeds.length≤200):YP Tryz.prog 86 #[Pt b 0,Sl a_w w.length c_w] G [[Sg b 0 [Sl a_0 t.setup.names.length c_0,Sl a_1 t.setup.keys.length c_1,I t.setup.most,I t.setup.batch,I t.setup.every,I t.setup.least,I t.setup.top,I t.setup.lost,I t.setup.reach,Sl a_9 t.deeds.length c_9]],r_9] (fun u G' L'=>((Zt t w).2=0)∧∃ (az1:Option Addr) (cz2:Nat),u=Sl az1 (((Zt t w).1).length) cz2∧(RS ES G' az1 cz2 ((Zt t w).1))∧L'=[[Sg b 0 [Sl a_0 t.setup.names.length c_0,Sl a_1 t.setup.keys.length c_1,I t.setup.most,I t.setup.batch,I t.setup.every,I t.setup.least,I t.setup.top,I t.setup.lost,I t.setup.reach,Sl a_9 t.deeds.length c_9]],r_9]) (fun u _ L'=>(¬ (Zt t w).2=0)∧u=JaH ((Zt t w).2)∧L'=[[Sg b 0 [Sl a_0 t.setup.names.length c_0,Sl a_1 t.setup.keys.length c_1,I t.setup.most,I t.setup.batch,I t.setup.every,I t.setup.least,I t.setup.top,I t.setup.lost,I t.setup.reach,Sl a_9 t.deeds.length c_9]],r_9]):=by
 intro Lr
 refine YM Tryz.func86 46 [(0,Pt b 0),(1,Sl a_w w.length c_w)] rfl (fun w0 G0 hT=>?_)
 show TC _ _ _ _ _ ([Sg b 0 (KP t a_0 c_0 a_1 c_1 a_9 c_9)]::r_9::Lr)
 refine Jg [0] [] (Jf (Jd (Jc [0] [(12,Sl a_w w.length c_w)] ?_)))
 obtain ⟨b1,o1,rfl⟩:=RS.addr h_w (k:=1) (by omega)
 obtain ⟨x1,hx1⟩:=Wf (l:=w) (k:=1) (by omega)
 obtain ⟨_,⟨rfl,_⟩,hc1⟩:=RS.get h_w hx1
 refine J5 (b:=b1) (off:=o1) (len:=w.length) (cap:=c_w) (ik:=.i64) 13 9 1 1 J8 (JZ 14 9 (cs:=[Sr x1]) 0 (Sr x1) hc1 (QL (Ls:=[]) (Lr:=([Sg b 0 (KP t a_0 c_0 a_1 c_1 a_9 c_9)]::r_9::Lr)) 15 hT ((VO G x1 (by have q_:=hs _ (Hi hx1);omega)).frame) (fun v G1 L1 hl1 hp=>?_) (fun v G1 L1 hl1 hp=>?_)))
 obtain ⟨hne1,rfl,rfl⟩:=hp
 refine KO ?_
 have hp1:(Zt t w).2=(Kl x1).2:=by
  exact Jpb ‹_› ‹_›
 refine ZU (Zp (Lr:=Lr) [[Sg b 0 (KP t a_0 c_0 a_1 c_1 a_9 c_9)],r_9] hl1 ?_)
 rw [hp1];exact ⟨hne1,rfl,rfl⟩
 obtain ⟨_,rfl,rfl⟩:=hp
 refine Jc [0] [(5,I ((Kl x1).1))] (Je (Jb (Jf (Jd (Jc [0] [(17,Pt b 0)] (Jw 1 (Jw 1 (QL (Ls:=[[Sg b 0 (KP t a_0 c_0 a_1 c_1 a_9 c_9)],r_9]) (Lr:=Lr) 18 hT (JmB G1 b t a_0 c_0 a_1 c_1 a_9 c_9 r_9 (h_0.mono hl1) (h_1.mono hl1) h_2 h_3 h_4 h_5 h_6 h_7 h_8 (h_9.mono hl1) ‹_›) (fun v G2 L1 hl2 hp=>?_) (fun v G2 L1 hl2 hp=>?_)))))))))
 obtain ⟨hne2,rfl,rfl⟩:=hp
 refine KO ?_
 have hp3:(Zt t w).2=(Jr t.setup t.deeds).2.2:=by
  exact Jpc ‹_› ‹_› ‹_›
 refine ZU (Zp (Lr:=Lr) [[Sg b 0 (KP t a_0 c_0 a_1 c_1 a_9 c_9)],r_9] (Ja hl1 hl2) ?_)
 rw [hp3];exact ⟨hne2,rfl,rfl⟩
 obtain ⟨_,a1,c1,a2,c2,a3,c3,a4,c4,a5,c5,a6,c6,a7,c7,rfl,w2,hs1,w3,w4,w5,hs2,hs3,_,_,_,_,_,rfl⟩:=hp
 refine Jc [0,0,0] [(19,(Y8 (Jr t.setup t.deeds).1 a1 c1 a2 c2 a3 c3 a4 c4 a5 c5 a6 c6)),(20,Sl a7 (((Jr t.setup t.deeds).2.1).length) c7)] (Jv 6 #[I 0,Sl none 0 0,I 0,I 0,I 0,Sl none 0 0,Sl none 0 0,Sl none 0 0,Sl none 0 0,I 0,Sl none 0 0] 67 (fun b2=>JV [3,0] [] ([Sg b2 0 (Zq (Jr t.setup t.deeds).1 a1 c1 a2 c2 a3 c3 a4 c4 a5 c5 a6 c6)]::[Sg b 0 (KP t a_0 c_0 a_1 c_1 a_9 c_9)]::r_9::Lr) (Je (Jb ?_))))
 obtain ⟨x2,hx2⟩:=Wf (l:=w) (k:=0) (by omega)
 obtain ⟨_,⟨rfl,w7⟩,hc2⟩:=RS.get (h_w.mono (Ja hl1 hl2)) hx2
 refine Yv (σ:=Nat×(Option Addr)×Nat×(Option Addr)×Nat×J4) (fun q_=>(J4.le G2 q_.2.2.2.2.2)∧(rI (((JM (((Jr t.setup t.deeds).1).clerk) x2 ((Kl x1).1)).1).head.epoch))∧(rU (((JM (((Jr t.setup t.deeds).1).clerk) x2 ((Kl x1).1)).1).head.root))∧(rU (((JM (((Jr t.setup t.deeds).1).clerk) x2 ((Kl x1).1)).1).head.prev))∧(rI (((JM (((Jr t.setup t.deeds).1).clerk) x2 ((Kl x1).1)).1).head.at_))∧((((JM (((Jr t.setup t.deeds).1).clerk) x2 ((Kl x1).1)).1).proof.name).length≤140737488351232)∧(RS QD q_.2.2.2.2.2 q_.2.1 q_.2.2.1 (((JM (((Jr t.setup t.deeds).1).clerk) x2 ((Kl x1).1)).1).proof.entries))∧(RS EU q_.2.2.2.2.2 q_.2.2.2.1 q_.2.2.2.2.1 (((JM (((Jr t.setup t.deeds).1).clerk) x2 ((Kl x1).1)).1).proof.sides))) (fun q_=>[(8,Pt q_.1 0),(9,I ((JM (((Jr t.setup t.deeds).1).clerk) x2 ((Kl x1).1)).2))]) (fun q_=>q_.2.2.2.2.2) (fun q_=>([Sg q_.1 0 (Zz (JM (((Jr t.setup t.deeds).1).clerk) x2 ((Kl x1).1)).1 q_.2.1 q_.2.2.1 q_.2.2.2.1 q_.2.2.2.2.1)]::[Sg b2 0 (Zq (Jr t.setup t.deeds).1 a1 c1 a2 c2 a3 c3 a4 c4 a5 c5 a6 c6)]::[Sg b 0 (KP t a_0 c_0 a_1 c_1 a_9 c_9)]::r_9::Lr)) ?_ (fun q_ hs=>?_)
 refine Kp [6,10,11] (Wl [(0,Pt b2 0),(1,(Qt (Jr t.setup t.deeds).1.clerk a1 c1 a2 c2 a3 c3)),(2,Sl (At b1 o1) w.length c_w),(3,Pt b1 (o1+0*1)),(4,Sr x2),(5,I ((Kl x1).1))] (JK [] [(0,0),(1,2),(2,0),(5,0)] [3,4] [6,10] (Ki ?_ (Ki ?_ K8)) (Ki ?_ (Ki ?_ K8))))
 refine Jt 3 25 (Pt b1 (o1+0*1)) [(24,Sl (At b1 o1) w.length c_w)] (fun X=>?_)
 exact J5 (b:=b1) (off:=o1) (len:=w.length) (cap:=c_w) (ik:=.i64) 25 9 1 0 J8 Jp
 refine Jt 4 26 (Sr x2) [(25,Pt b1 (o1+0*1))] (fun X=>?_)
 exact JZ 26 9 (cs:=[Sr x2]) 0 (Sr x2) hc2 Jp
 refine JC 6 [(23,(Qt (Jr t.setup t.deeds).1.clerk a1 c1 a2 c2 a3 c3)),(26,Sr x2),(27,I ((Kl x1).1))] (fun X=>?_)
 refine JI 28 (VF G2 (KB (Jr t.setup t.deeds).1.clerk a1 c1 a2 c2 a3 c3) (((Jr t.setup t.deeds).1).clerk) (⟨a1,c1,a2,c2,a3,c3,rfl,w2,hs1,w3,w4,w5,hs2,hs3⟩) x2 w7 ((Kl x1).1) (by have q_:=Vo x1;omega)) (fun v G3 L1 hl3 hp=>?_)
 obtain ⟨a8,c8,a9,c9,rfl,w8,w9,w10,w11,w12,hs8,hs9,rfl⟩:=hp
 refine JD [(6,.tuple #[(WP (JM (((Jr t.setup t.deeds).1).clerk) x2 ((Kl x1).1)).1 a8 c8 a9 c9),I ((JM (((Jr t.setup t.deeds).1).clerk) x2 ((Kl x1).1)).2)]),(7,.tuple #[(WP (JM (((Jr t.setup t.deeds).1).clerk) x2 ((Kl x1).1)).1 a8 c8 a9 c9),I ((JM (((Jr t.setup t.deeds).1).clerk) x2 ((Kl x1).1)).2)]),(8,(WP (JM (((Jr t.setup t.deeds).1).clerk) x2 ((Kl x1).1)).1 a8 c8 a9 c9)),(9,I ((JM (((Jr t.setup t.deeds).1).clerk) x2 ((Kl x1).1)).2))] (JK [0,1,2,3,4,5] [(7,0),(8,0),(9,0)] [] [10] (Ha _) (Ki ?_ K8))
 refine JC 10 [] (fun X=>?_)
 refine Jv 8 #[I 0,U 0,U 0,I 0,Sr ([]),Sl none 0 0,Sl none 0 0] 49 (fun b3=>JD [(10,Pt b3 0)] (JK [0,1,2,3,4,5] [(7,0),(8,0),(9,0)] [] [11] (Ha _) (Ki ?_ K8)))
 refine JC 11 [(8,Pt b3 0),(29,(WP (JM (((Jr t.setup t.deeds).1).clerk) x2 ((Kl x1).1)).1 a8 c8 a9 c9))] (fun X=>?_)
 exact KN 0 ([Sg b3 0 (Zz (JM (((Jr t.setup t.deeds).1).clerk) x2 ((Kl x1).1)).1 a8 c8 a9 c9)]::[Sg b2 0 (Zq (Jr t.setup t.deeds).1 a1 c1 a2 c2 a3 c3 a4 c4 a5 c5 a6 c6)]::[Sg b 0 (KP t a_0 c_0 a_1 c_1 a_9 c_9)]::r_9::Lr) (Ka [(12,I ((JM (((Jr t.setup t.deeds).1).clerk) x2 ((Kl x1).1)).2))] (Km [0,1,2,3,4,5,7,8] [(9,0),(12,0)] [] [(8,Pt b3 0),(9,I ((JM (((Jr t.setup t.deeds).1).clerk) x2 ((Kl x1).1)).2))] (Ha _) (Wd (b3,a8,c8,a9,c9,G3) ⟨hl3,w8,w9,w10,w11,w12,hs8,hs9⟩)))
 refine JC 10 [] (fun X=>?_)
 refine Jv 8 #[I 0,U 0,U 0,I 0,Sr ([]),Sl none 0 0,Sl none 0 0] 49 (fun b4=>JD [(10,Pt b4 0)] (JK [] [(0,0),(1,4),(2,0),(5,0)] [3,4] [6] (Ki ?_ (Ki ?_ K8)) (Ki ?_ K8)))
 refine Jt 3 25 (Pt b1 (o1+0*1)) [(24,Sl (At b1 o1) w.length c_w)] (fun X=>?_)
 exact J5 (b:=b1) (off:=o1) (len:=w.length) (cap:=c_w) (ik:=.i64) 25 9 1 0 J8 Jp
 refine Jt 4 26 (Sr x2) [(25,Pt b1 (o1+0*1))] (fun X=>?_)
 exact JZ 26 9 (cs:=[Sr x2]) 0 (Sr x2) hc2 Jp
 refine JC 6 [(23,(Qt (Jr t.setup t.deeds).1.clerk a1 c1 a2 c2 a3 c3)),(26,Sr x2),(27,I ((Kl x1).1))] (fun X=>?_)
 refine JI 28 (VF G2 (KB (Jr t.setup t.deeds).1.clerk a1 c1 a2 c2 a3 c3) (((Jr t.setup t.deeds).1).clerk) (⟨a1,c1,a2,c2,a3,c3,rfl,w2,hs1,w3,w4,w5,hs2,hs3⟩) x2 w7 ((Kl x1).1) (by have q_:=Vo x1;omega)) (fun v G4 L1 hl4 hp=>?_)
 obtain ⟨a10,c10,a11,c11,rfl,w13,w14,w15,w16,w17,hs10,hs11,rfl⟩:=hp
 refine JD [(6,.tuple #[(WP (JM (((Jr t.setup t.deeds).1).clerk) x2 ((Kl x1).1)).1 a10 c10 a11 c11),I ((JM (((Jr t.setup t.deeds).1).clerk) x2 ((Kl x1).1)).2)]),(7,.tuple #[(WP (JM (((Jr t.setup t.deeds).1).clerk) x2 ((Kl x1).1)).1 a10 c10 a11 c11),I ((JM (((Jr t.setup t.deeds).1).clerk) x2 ((Kl x1).1)).2)]),(8,(WP (JM (((Jr t.setup t.deeds).1).clerk) x2 ((Kl x1).1)).1 a10 c10 a11 c11)),(9,I ((JM (((Jr t.setup t.deeds).1).clerk) x2 ((Kl x1).1)).2))] (JK [0,1,2,3,4,5] [(7,0),(8,0),(9,0)] [] [11] (Ha _) (Ki ?_ K8))
 refine JC 11 [(8,Pt b4 0),(29,(WP (JM (((Jr t.setup t.deeds).1).clerk) x2 ((Kl x1).1)).1 a10 c10 a11 c11))] (fun X=>?_)
 exact KN 0 ([Sg b4 0 (Zz (JM (((Jr t.setup t.deeds).1).clerk) x2 ((Kl x1).1)).1 a10 c10 a11 c11)]::[Sg b2 0 (Zq (Jr t.setup t.deeds).1 a1 c1 a2 c2 a3 c3 a4 c4 a5 c5 a6 c6)]::[Sg b 0 (KP t a_0 c_0 a_1 c_1 a_9 c_9)]::r_9::Lr) (Ka [(12,I ((JM (((Jr t.setup t.deeds).1).clerk) x2 ((Kl x1).1)).2))] (Km [0,1,2,3,4,5,7,8] [(9,0),(12,0)] [] [(8,Pt b4 0),(9,I ((JM (((Jr t.setup t.deeds).1).clerk) x2 ((Kl x1).1)).2))] (Ha _) (Wd (b4,a10,c10,a11,c11,G4) ⟨hl4,w13,w14,w15,w16,w17,hs10,hs11⟩)))
 obtain ⟨b3,a8,c8,a9,c9,G3⟩:=q_
 obtain ⟨hle1,hj1,hj2,hj3,hj4,hj5,hj6,hj7⟩:=hs
 dsimp only at hle1 hj1 hj2 hj3 hj4 hj5 hj6 hj7
 dsimp only
 refine Jf (Jd (Jc [0] [(31,I ((JM (((Jr t.setup t.deeds).1).clerk) x2 ((Kl x1).1)).2))] (QL (Ls:=[]) (Lr:=([Sg b3 0 (Zz (JM (((Jr t.setup t.deeds).1).clerk) x2 ((Kl x1).1)).1 a8 c8 a9 c9)]::[Sg b2 0 (Zq (Jr t.setup t.deeds).1 a1 c1 a2 c2 a3 c3 a4 c4 a5 c5 a6 c6)]::[Sg b 0 (KP t a_0 c_0 a_1 c_1 a_9 c_9)]::r_9::Lr)) 32 hT ((Z9 G3 ((JM (((Jr t.setup t.deeds).1).clerk) x2 ((Kl x1).1)).2)).frame) (fun v G5 L1 hl5 hp=>?_) (fun v G5 L1 hl5 hp=>?_))))
 obtain ⟨hne3,rfl,rfl⟩:=hp
 refine KO ?_
 have hp5:(Zt t w).2=(JM (((Jr t.setup t.deeds).1).clerk) x2 ((Kl x1).1)).2:=by
  exact Jpd ‹_› ‹_› ‹_› ‹_› ‹_›
 refine ZU (Zp (Lr:=Lr) [[Sg b 0 (KP t a_0 c_0 a_1 c_1 a_9 c_9)],r_9] (Ja (Ja (Ja hl1 hl2) hle1) hl5) ?_)
 rw [hp5];exact ⟨hne3,rfl,rfl⟩
 obtain ⟨_,rfl,rfl⟩:=hp
 refine Je (Jb (Jf (Jd (Jc [2] [(34,(WP (JM (((Jr t.setup t.deeds).1).clerk) x2 ((Kl x1).1)).1 a8 c8 a9 c9))] (JI 35 (Jcg G5 (Zz (JM (((Jr t.setup t.deeds).1).clerk) x2 ((Kl x1).1)).1 a8 c8 a9 c9) ((JM (((Jr t.setup t.deeds).1).clerk) x2 ((Kl x1).1)).1) (⟨a8,c8,a9,c9,rfl,hj1,hj2,hj3,hj4,hj5,(hj6.mono hl5),(hj7.mono hl5)⟩)) (fun v G6 L1 hl6 hp=>?_))))))
 obtain ⟨rfl,w18,rfl⟩:=hp
 refine Jc [0,0,0,0,0,0,0] [(9,I ((JG ((JM (((Jr t.setup t.deeds).1).clerk) x2 ((Kl x1).1)).1)).2.2)),(10,Sr ((JG ((JM (((Jr t.setup t.deeds).1).clerk) x2 ((Kl x1).1)).1)).1)),(11,Bo ((JG ((JM (((Jr t.setup t.deeds).1).clerk) x2 ((Kl x1).1)).1)).2.1))] (Je (Jb (Jf (Jd (Jc [0] [(39,I ((JG ((JM (((Jr t.setup t.deeds).1).clerk) x2 ((Kl x1).1)).1)).2.2))] (QL (Ls:=[]) (Lr:=([Sg b3 0 (Zz (JM (((Jr t.setup t.deeds).1).clerk) x2 ((Kl x1).1)).1 a8 c8 a9 c9)]::[Sg b2 0 (Zq (Jr t.setup t.deeds).1 a1 c1 a2 c2 a3 c3 a4 c4 a5 c5 a6 c6)]::[Sg b 0 (KP t a_0 c_0 a_1 c_1 a_9 c_9)]::r_9::Lr)) 40 hT ((Z9 G6 ((JG ((JM (((Jr t.setup t.deeds).1).clerk) x2 ((Kl x1).1)).1)).2.2)).frame) (fun v G7 L1 hl7 hp=>?_) (fun v G7 L1 hl7 hp=>?_)))))))
 obtain ⟨hne4,rfl,rfl⟩:=hp
 refine KO ?_
 have hp7:(Zt t w).2=(JG ((JM (((Jr t.setup t.deeds).1).clerk) x2 ((Kl x1).1)).1)).2.2:=by
  exact Jpe ‹_› ‹_› ‹_› ‹_› ‹_› ‹_›
 refine ZU (Zp (Lr:=Lr) [[Sg b 0 (KP t a_0 c_0 a_1 c_1 a_9 c_9)],r_9] (Ja (Ja (Ja (Ja (Ja hl1 hl2) hle1) hl5) hl6) hl7) ?_)
 rw [hp7];exact ⟨hne4,rfl,rfl⟩
 obtain ⟨_,rfl,rfl⟩:=hp
 refine Je (Jb (Jf (Jg [0,0] [(42,Bo (!((JG ((JM (((Jr t.setup t.deeds).1).clerk) x2 ((Kl x1).1)).1)).2.1)))] (Jl (!((JG ((JM (((Jr t.setup t.deeds).1).clerk) x2 ((Kl x1).1)).1)).2.1)) (fun h1=>?_) (fun h1=>?_)))))
 refine Jf (Jd (Kt 43 1 #[Sr ([45])] 9 (fun b5=>Jc [0] [(4,Sl (At b5 0) 1 1)] (Je (Jb (Jn (Jj (JeS (b:=b5) (o:=0) (cs:=[Sr ([45])]) 0 (fun G8 hl8 hz1=>?_)))))))))
 have hs12:RS ES G8 (At b5 0) 1 [[45]]:=RS.lit [[Sr ([45])]] [[45]] ⟨⟨rfl,(Hc rfl)⟩,trivial⟩ hz1 (Hc rfl) (Hc rfl)
 refine Jk 4 (Jk 4 ?_)
 have hf1:(Zt t w).2=0∧(Zt t w).1=[[45]]:=by
  (have q_:=Jpf (t:=t) (w:=w) ‹_› ‹_› ‹_› ‹_› ‹_› ‹_› ‹_›;rw [q_];exact ⟨rfl,rfl⟩)
 refine Jo [0] [Sl (At b5 0) 1 1] (bpx (KT (Lr:=Lr) [[Sg b 0 (KP t a_0 c_0 a_1 c_1 a_9 c_9)],r_9] (Ja (Ja (Ja (Ja (Ja (Ja hl1 hl2) hle1) hl5) hl6) hl7) hl8) ?_))
 rw [hf1.2]
 try dsimp only
 exact ⟨hf1.1,(At b5 0),1,rfl,hs12,rfl⟩
 refine Jq (Jb (Jf (Jd (Jc [0] [(44,Sr ((JG ((JM (((Jr t.setup t.deeds).1).clerk) x2 ((Kl x1).1)).1)).1))] (Kt 45 2 #[Sr ([43]),Sr ((JG ((JM (((Jr t.setup t.deeds).1).clerk) x2 ((Kl x1).1)).1)).1)] 9 (fun b6=>Jc [0] [(4,Sl (At b6 0) 2 2)] (Je (Jb (Jn (JeS (b:=b6) (o:=0) (cs:=[Sr ([43]),Sr ((JG ((JM (((Jr t.setup t.deeds).1).clerk) x2 ((Kl x1).1)).1)).1)]) 0 (fun G9 hl9 hz2=>?_)))))))))))
 have hs13:RS ES G9 (At b6 0) 2 [[43],(JG ((JM (((Jr t.setup t.deeds).1).clerk) x2 ((Kl x1).1)).1)).1]:=RS.lit [[Sr ([43])],[Sr ((JG ((JM (((Jr t.setup t.deeds).1).clerk) x2 ((Kl x1).1)).1)).1)]] [[43],(JG ((JM (((Jr t.setup t.deeds).1).clerk) x2 ((Kl x1).1)).1)).1] ⟨⟨rfl,(Hc rfl)⟩,⟨⟨rfl,w18⟩,trivial⟩⟩ hz2 (Hc rfl) (Hc rfl)
 refine Jk 4 (Jk 4 ?_)
 have hf2:(Zt t w).2=0∧(Zt t w).1=[[43],(JG ((JM (((Jr t.setup t.deeds).1).clerk) x2 ((Kl x1).1)).1)).1]:=by
  (have q_:=Jpg (t:=t) (w:=w) ‹_› ‹_› ‹_› ‹_› ‹_› ‹_› ‹_›;rw [q_];exact ⟨rfl,rfl⟩)
 refine Jo [0] [Sl (At b6 0) 2 2] (bpx (KT (Lr:=Lr) [[Sg b 0 (KP t a_0 c_0 a_1 c_1 a_9 c_9)],r_9] (Ja (Ja (Ja (Ja (Ja (Ja hl1 hl2) hle1) hl5) hl6) hl7) hl9) ?_))
 rw [hf2.2]
 try dsimp only
 exact ⟨hf2.1,(At b6 0),2,rfl,hs13,rfl⟩
def bump (m:List Int) (k:Nat):List Int:=m.set k (m[k]?.getD 0+1)
def JhO (m:List Int) (x:VR):List Int:=if x.kind=2 then bump (bump m (x.kind-1).toNat) (3+x.n).toNat else bump m (x.kind-1).toNat
def evAll (l:List VR):List Int:=l.foldl JhO (Hb 10 0)
def EvI (n:Nat) (m:List Int):Prop:=m.length=10∧∀ c∈m,0≤c∧c≤n
theorem EvI.bump {n:Nat} {m:List Int} (h:EvI n m) (k:Nat):EvI (n+1) (bump m k):=by
 refine ⟨by simp [Go.Proofs.YteaampgpgokjmaaGreatDoor.bump,h.1],fun c hc=>?_⟩
 unfold Go.Proofs.YteaampgpgokjmaaGreatDoor.bump at hc
 rcases List.mem_or_eq_of_mem_set hc with hc | hc
 · have:=h.2 c hc;omega
 ·
  rw [hc]
  cases hk:m[k]? with
  | none=>simp;omega
  | some v=>have:=h.2 v (Hi hk);simp;omega
theorem Jjj {n n':Nat} {m:List Int} (h:EvI n m) (hn:n≤n'):EvI n' m:=⟨h.1,fun c hc=>by have:=h.2 c hc;omega⟩
theorem EvI.start:EvI 0 (Hb 10 0):=⟨by simp,fun c hc=>by have:=List.eq_of_mem_replicate hc;omega⟩
def Jdl (t:KS) (w:List (List UInt8)):List (List UInt8)×Int:=if ¬ (Jr t.setup t.deeds).2.2=0 then ([],(Jr t.setup t.deeds).2.2) else ((evAll (Jr t.setup t.deeds).2.1).map Lib.itoa,0)
theorem YP.mono {P:Program} {f:FuncId} {args:Array Value} {G:J4} {Ls:List (List Kh)} {Post PP Post' PP':Value→J4→List (List Kh)→Prop} (h:YP P f args G Ls Post PP) (h1:∀ v G' L',J4.le G G'→Post v G' L'→Post' v G' L') (h2:∀ v G' L',PP v G' L'→PP' v G' L'):YP P f args G Ls Post' PP':=fun Lr w0 G0 w hT hw =>
 (h Lr w0 G0 w hT hw).mono fun _ _ ⟨v,G',L',a,b,c⟩=>⟨v,G',L',a,b,c.imp (fun ⟨q,L1,e,p⟩=>⟨q,L1,e,h1 _ _ _ b p⟩) (fun ⟨q,L1,e,p⟩=>⟨q,L1,e,h2 _ _ _ p⟩)⟩
def QH (c:Nat) (t:KS) (w:List (List UInt8)):KS×List (List UInt8)×Int:=match c with
 | 0=>((Jom t w).1,[],(Jom t w).2)
 | 1=>((Jon t w).1,[],(Jon t w).2)
 | 2=>((Jkq t w).1,[],(Jkq t w).2)
 | 3=>((Wo t w).1,[],(Wo t w).2)
 | 4=>((Zl t w).1,[],(Zl t w).2)
 | 5=>((Joo t w).1,[],(Joo t w).2)
 | 6=>((Zm t w).1,[],(Zm t w).2)
 | 7=>(t,(dNow t w).1,(dNow t w).2)
 | 8=>(t,(Zt t w).1,(Zt t w).2)
 | 9=>(t,(Jdl t w).1,(Jdl t w).2)
 | 10=>(t,(Jji t w).1,(Jji t w).2)
 | 11=>(t,(Jjh t w).1,(Jjh t w).2)
 | _=>(t,[],0)
def dS (c:Nat):Bool:=[3,4,6,8,12].contains c
def Jks (t:KS) (G:J4) (b:Nat) (L:List (List Kh)):Prop:=∃ (a_0:Option Addr) (c_0:Nat) (a_1:Option Addr) (c_1:Nat) (a_9:Option Addr) (c_9:Nat) (r_9:List Kh),(RS ES G a_0 c_0 t.setup.names)∧(RS EU G a_1 c_1 t.setup.keys)∧(-9223372036854775808≤t.setup.most∧t.setup.most<9223372036854775808)∧(-9223372036854775808≤t.setup.batch∧t.setup.batch<9223372036854775808)∧(-9223372036854775808≤t.setup.every∧t.setup.every<9223372036854775808)∧(-9223372036854775808≤t.setup.least∧t.setup.least<9223372036854775808)∧(-9223372036854775808≤t.setup.top∧t.setup.top<9223372036854775808)∧(-9223372036854775808≤t.setup.lost∧t.setup.lost<9223372036854775808)∧(-9223372036854775808≤t.setup.reach∧t.setup.reach<9223372036854775808)∧(J1 WO G a_9 c_9 t.deeds r_9)∧L=[[Sg b 0 [Sl a_0 t.setup.names.length c_0,Sl a_1 t.setup.keys.length c_1,I t.setup.most,I t.setup.batch,I t.setup.every,I t.setup.least,I t.setup.top,I t.setup.lost,I t.setup.reach,Sl a_9 t.deeds.length c_9]],r_9]
theorem JeZ (c:Nat) (hc:c<12) (hS:dS c=true) (G:J4) (b:Nat) (t:KS) (L:List (List Kh)) (hB:Jks t G b L) (ht:t.deeds.length≤200) (hn:t.setup.names.length≤1000) (hk:t.setup.keys.length≤1000) (a_w:Option Addr) (c_w:Nat) (w:List (List UInt8)) (h_w:RS ES G a_w c_w w) (hw:0≤Yt c→(w.length:Int)=Yt c) (hw2:w.length≤1048577) (hs:∀ s∈w,s.length≤1048576) :
  YP Tryz.prog (VP c) #[Pt b 0,Sl a_w w.length c_w] G L (fun u G' L'=>(QH c t w).2.2=0∧∃ a1 c2,u=Sl a1 (QH c t w).2.1.length c2∧RS ES G' a1 c2 (QH c t w).2.1∧Jks (QH c t w).1 G' b L') (fun u _ L'=>¬ (QH c t w).2.2=0∧u=JaH (QH c t w).2.2∧L'=L):=by
 obtain ⟨a_0,c_0,a_1,c_1,a_9,c_9,r_9,h_0,h_1,h_2,h_3,h_4,h_5,h_6,h_7,h_8,h_9,rfl⟩:=hB
 match c,hc with
 | 0,_=>exact absurd hS (by decide)
 | 1,_=>exact absurd hS (by decide)
 | 2,_=>exact absurd hS (by decide)
 | 3,_=>exact YP.mono (Jkr G b t a_0 c_0 a_1 c_1 a_9 c_9 r_9 h_0 h_1 h_2 h_3 h_4 h_5 h_6 h_7 h_8 h_9 a_w c_w w h_w (by have q_:=hw (by decide);simp only [Yt,Hj,Hk,Ho] at q_;omega) hs ht hn hk) (fun u G' L' hle ⟨he,a1,c2,a3,c4,a5,c6,a7,c8,r9,hu,ho,hB⟩=>⟨he,a1,c2,hu,ho,a3,c4,a5,c6,a7,c8,r9,hB⟩) (fun _ _ _ h=>h)
 | 4,_=>exact YP.mono (Jmz G b t a_0 c_0 a_1 c_1 a_9 c_9 r_9 h_0 h_1 h_2 h_3 h_4 h_5 h_6 h_7 h_8 h_9 a_w c_w w h_w (by have q_:=hw (by decide);simp only [Yt,Hj,Hk,Ho] at q_;omega) hs ht hn hk) (fun u G' L' hle ⟨he,a1,c2,a3,c4,a5,c6,a7,c8,r9,hu,ho,hB⟩=>⟨he,a1,c2,hu,ho,a3,c4,a5,c6,a7,c8,r9,hB⟩) (fun _ _ _ h=>h)
 | 5,_=>exact absurd hS (by decide)
 | 6,_=>exact YP.mono (JmA G b t a_0 c_0 a_1 c_1 a_9 c_9 r_9 h_0 h_1 h_2 h_3 h_4 h_5 h_6 h_7 h_8 h_9 a_w c_w w h_w (by have q_:=hw (by decide);simp only [Yt,Hj,Hk,Ho] at q_;omega) hs ht hn hk) (fun u G' L' hle ⟨he,a1,c2,a3,c4,a5,c6,a7,c8,r9,hu,ho,hB⟩=>⟨he,a1,c2,hu,ho,a3,c4,a5,c6,a7,c8,r9,hB⟩) (fun _ _ _ h=>h)
 | 7,_=>exact absurd hS (by decide)
 | 8,_=>exact YP.mono (JmC G b t a_0 c_0 a_1 c_1 a_9 c_9 r_9 h_0 h_1 h_2 h_3 h_4 h_5 h_6 h_7 h_8 h_9 a_w c_w w h_w (by have q_:=hw (by decide);simp only [Yt,Hj,Hk,Ho] at q_;omega) hs ht) (fun u G' L' hle ⟨he,a1,c2,hu,ho,hB⟩=>⟨he,a1,c2,hu,ho,a_0,c_0,a_1,c_1,a_9,c_9,r_9,h_0.mono hle,h_1.mono hle,h_2,h_3,h_4,h_5,h_6,h_7,h_8,h_9.mono hle,hB⟩) (fun _ _ _ h=>h)
 | 9,_=>exact absurd hS (by decide)
 | 10,_=>exact absurd hS (by decide)
 | 11,_=>exact absurd hS (by decide)
theorem Jph {P:Program} {n:Nat} {w0:World} {G0 G:J4} {fn:Func} {c₀:Frame} {cs:List Frame} {u:FrameMode} {R:Ending→FrameMode→World→Prop} {fr:List (Nat×Value)} {L:List (List Kh)} (hr:fn.results=#[]) (hR:∀ w,St w0 G0 w G L→R (.returned (.tuple #[])) u w) :
  TQ ⟨P,n,[],w0,G0⟩ (fun e a w=>bodyPostS P fn c₀ cs R e a ({ c₀ with mode:=u }::cs) w) .normal fr G L:=fun a w ha hw=>⟨ha.defers,u,rfl,_,results_none hr _ _ _,hR w hw⟩
theorem Jlq {P:Program} {n:Nat} {w0:World} {G0 G:J4} {fn:Func} {R:Ending→World→Prop} {fr:List (Nat×Value)} {L:List (List Kh)} {fv:Fn} {cap dargs:Array Value} {f:FuncId} {args:Array Value} (is:List Nat) (vs:List Value)
  (hi:∀ w,(invoke (.fn fv cap) dargs).run P w=.ok (.enter f args) w)
  (hD:∀ w,St w0 G0 w G L→CallsD P f args .returning w fun e u' w'=>e=.returned (.tuple #[])∧u'=.returning∧St w0 G0 w' G L)
  (hR:∀ w,St w0 G0 w G L→R (.returned (Qx vs)) w)
  (h:(fn.results.toList.length,fn.results.toList.length,(fn.results.toList.zip is).map (JhV P fr L))=(is.length,vs.length,((fn.results.toList.zip is).zip vs).map (JhW L)):=by as_aux_lemma=>kernel_rfl) :
  TQ ⟨P,n,[{ target:=.fn fv cap,args:=dargs }],w0,G0⟩ (bodyPostD P fn R) .ret fr G L:=fun a w ha hw=>by
 show Leaves P fn a.tmps R a.defers .returning w
 rw [ha.defers]
 refine leaves_cons (f:=f) (args:=args) (by simp) (hi w) ((hD w hw).mono ?_)
 rintro e u' w' ⟨rfl,rfl,hw'⟩
 exact ⟨Qx vs,VW (a:=a) ⟨ha.size,ha.defers,ha.slot⟩ hw' fn is vs h,hR w' hw'⟩
theorem Jb4 {P:Program} {n:Nat} {w0:World} {G0 G:J4} {fn:Func} {R:Ending→World→Prop} {fr:List (Nat×Value)} {L:List (List Kh)} (L':List (List Kh)) {fv:Fn} {cap dargs:Array Value} {f:FuncId} {args:Array Value} {v:Value} (is:List Nat) (vs:List Value)
  (hi:∀ w,(invoke (.fn fv cap) dargs).run P w=.ok (.enter f args) w)
  (hD:∀ w,St w0 G0 w G L→CallsD P f args (.panicking (Je9 v)) w fun e u' w'=>e=.returned (.tuple #[])∧u'=.panicking [{ v:=v,recovered:=true }]∧St w0 G0 w' G L')
  (hR:∀ w,St w0 G0 w G L'→R (.returned (Qx vs)) w)
  (h:(fn.results.toList.length,fn.results.toList.length,(fn.results.toList.zip is).map (JhV P fr L'))=(is.length,vs.length,((fn.results.toList.zip is).zip vs).map (JhW L')):=by as_aux_lemma=>kernel_rfl) :
  TQ ⟨P,n,[{ target:=.fn fv cap,args:=dargs }],w0,G0⟩ (bodyPostD P fn R) (.panic (Je9 v)) fr G L:=fun a w ha hw=>by
 show Leaves P fn a.tmps R a.defers (.panicking (Je9 v)) w
 rw [ha.defers]
 refine leaves_cons (f:=f) (args:=args) (by simp) (hi w) ((hD w hw).mono ?_)
 rintro e u' w' ⟨rfl,rfl,hw'⟩
 exact ⟨Qx vs,VW (a:=a) ⟨ha.size,ha.defers,ha.slot⟩ hw' fn is vs h,hR w' hw'⟩
theorem Jpi {P:Program} {f:FuncId} {args:Array Value} {G:J4} {L:List (List Kh)} {Post PP:Value→J4→List (List Kh)→Prop} {fn:Func} {c:Code}
  (hf:P.funcs[f]? = some fn) (n:Nat) (fr:List (Nat×Value)) (hb:fn.body=some c)
  (h:∀ w0 G0,TW P w0→TC ⟨P,n,[],w0,G0⟩ c (bodyPostD P fn (BPX w0 G0 G Post PP)) fr G L)
  (hn:fn.ntmps=n:=by rfl) (ha:Nat.ble args.size n=true:=by rfl)
  (hfr:(fr.map fun p=>args[p.1]?)=fr.map fun p=>some p.2:=by as_aux_lemma=>kernel_rfl):JaJ P f args G L Post PP:=fun w0 G0 w hT hw =>
 calls_of_wp_defers hf hb (h w0 G0 hT _ w (by rw [hn];exact Je3 fr hfr (Hc ha)) hw)
theorem Jb5 (G:J4) (b:Nat) (e:Int) (x:List UInt8) (he:-9223372036854775808≤e∧e<9223372036854775808) (Lr:List (List Kh)) (w0:World) (G0:J4) (w:World) (hT:TW Tryz.prog w0) (hw:St w0 G0 w G ([Sg b 0 [Sr x]]::Lr)) :
  CallsD Tryz.prog 45 #[Pt b 0] (.panicking (Je9 (JaH e))) w (fun en u' w'=>en=.returned (.tuple #[])∧u'=.panicking [{ v:=JaH e,recovered:=true }]∧St w0 G0 w' G ([Sg b 0 [Sr ([101,114,114,32]++Lib.itoa e)]]::Lr)):=by
 have hq_:=JeY e he
 refine callsD_of_wpS Tryz.func45 rfl (fun c₀ cs hu=>?_)
 apply wpS_seq
 apply wpS_region
 rw [show List.range (Array.size _)=[0,1] from rfl]
 simp [wpOpsS,go_sem,recoverD,hu,Exit.thenS]
 refine wpS_of_wp ?_
 refine (show TC ⟨Tryz.prog,19,[],w0,G0⟩ _ _ [(0,Pt b 0),(1,JaH e)] G ([Sg b 0 [Sr x]]::Lr) from ?_) _ w ⟨by simp,rfl,fun t v h=>?_⟩ hw
 rotate_left
 ·
  obtain ⟨p,hp,rfl,rfl⟩:=JbA h
  simp only [List.mem_cons,List.mem_nil_iff,or_false] at hp
  rcases hp with rfl | rfl <;> simp
 refine Jg [0,0] [(6,Bo true)] ?_
 refine JW ?_
 refine Jf ?_
 refine Jd ?_
 refine Jc [0,0,0,0,0] [(10,.agg #[I e]),(11,Bo true)] ?_
 refine Jv 2 #[I 0] 122 (fun b1=>?_)
 refine JV [3,0] [(3,Bo true)] ([Sg b1 0 [I e]]::[Sg b 0 [Sr x]]::Lr) ?_
 refine Je ?_
 refine Jb ?_
 refine Jf ?_
 refine Jg [0,0] [(13,Bo false)] ?_
 refine Qq ?_
 refine Jq ?_
 refine Jb ?_
 refine Jd ?_
 refine Jc [0,2] [(16,I e)] ?_
 refine Jea 17 (Sr (Lib.itoa e)) hT (Jie G e he) ?_
 refine ZJ 18 ([101,114,114,32]) (Lib.itoa e) (by simp;omega) ?_
 refine JV [5] [] ([Sg b1 0 [I e]]::[Sg b 0 [Sr (([101,114,114,32])++(Lib.itoa e))]]::Lr) ?_
 refine Je ?_
 refine Qr ([Sg b 0 [Sr (([101,114,114,32])++(Lib.itoa e))]]::Lr) ?_
 exact Jph rfl (fun w hw=>⟨rfl,rfl,hw⟩)
theorem Jlr (G:J4) (b:Nat) (L:List (List Kh)) (w0:World) (G0:J4) (w:World) (hw:St w0 G0 w G L) :
  CallsD Tryz.prog 45 #[Pt b 0] .returning w (fun en u' w'=>en=.returned (.tuple #[])∧u'=.returning∧St w0 G0 w' G L):=by
 refine callsD_of_wpS Tryz.func45 rfl (fun c₀ cs hu=>?_)
 apply wpS_seq
 apply wpS_region
 rw [show List.range (Array.size _)=[0,1] from rfl]
 simp [wpOpsS,go_sem,recoverD,hu,Exit.thenS]
 refine wpS_of_wp ?_
 refine (show TC ⟨Tryz.prog,19,[],w0,G0⟩ _ _ [(0,Pt b 0),(1,.nilIface)] G L from ?_) _ w ⟨by simp,rfl,fun t v h=>?_⟩ hw
 rotate_left
 ·
  obtain ⟨p,hp,rfl,rfl⟩:=JbA h
  simp only [List.mem_cons,List.mem_nil_iff,or_false] at hp
  rcases hp with rfl | rfl <;> simp
 refine Jg [0,0] [(6,Bo false)] ?_
 refine Qq ?_
 refine Jq ?_
 exact fun a w ha hw=>⟨ha.defers,.returning,by rw [← hu],_,results_none rfl _ _ _,rfl,rfl,hw⟩
end Go.Proofs.YteaampgpgokjmaaGreatDoor
