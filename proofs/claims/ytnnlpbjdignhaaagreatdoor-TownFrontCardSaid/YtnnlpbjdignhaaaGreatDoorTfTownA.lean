import Derived.Test.YtnnlpbjdignhaaaGreatDoorTfTown
namespace Go.Proofs.YtnnlpbjdignhaaaGreatDoor
open Go.Tx
set_option linter.unusedVariables false
set_option linter.unusedSimpArgs false
open Go.Tx Go.Proofs
theorem JaR {t:JG} {l:JV} (h:t.town.clerk.heads.length≤9000000000000000000) (hr:1≤t.reach∧t.reach≤40):0≤Wj t l∧Wj t l≤9000000000000000000∧-1≤Yb t l∧Yb t l≤9000000000000000000∧-1≤Wz t∧Wz t≤9000000000000000000:=by
 unfold Yb Wj Wz minI maxI
 (repeat' split) <;> omega
structure JeT (p:QL):Prop where
 least:-9223372036854775808≤p.least∧p.least<9223372036854775808
 most:-9223372036854775808≤p.most∧p.most<9223372036854775808
 lost:-9223372036854775808≤p.lost∧p.lost<9223372036854775808
 gap:-9223372036854775808≤p.gap∧p.gap<9223372036854775808
 next:-9223372036854775808≤p.next∧p.next<9223372036854775808
 asked:-9223372036854775808≤p.asked∧p.asked<9223372036854775808
theorem JeT.ok {p:QL} (h:Yp p):JeT p:=by
 unfold Yp at h
 refine ⟨?_,?_,?_,?_,?_,?_⟩ <;> omega
theorem JfE:JeT YH:=⟨by decide,by decide,by decide,by decide,by decide,by decide⟩
theorem Y2 (p:QL) (now:Int):JeT (Kp p now).1:=by
 by_cases h:(Kp p now).2=0
 ·
  exact .ok ((W0 _).1 (JcI h).2.2.2.2.2.2.2.2.2.2.2.2.2.2.1)
 ·
  rw [JfB h];exact JfE
theorem JaS (p:QL) (now:Int):JeT (QK p now).1:=by
 by_cases h:(QK p now).2=0
 ·
  obtain ⟨q,_⟩:=JfC h
  obtain ⟨q1,q2,q3⟩:=(Jbn p now).1 q
  exact .ok ((W0 _).1 (JcO ((W0 _).2 q1) q2 q3))
 ·
  have e:(QK p now).1=YH:=by revert h;unfold QK;split <;> simp
  rw [e];exact JfE
theorem Jk3 {t:JG} {l:JV} (h:Wy t l.from_=false):KG t l=t:=by unfold KG;rw [if_pos h]
theorem Jk4 {t:JG} {l:JV} (h:Wy t l.from_=true):KG t l=QV t ⟨l.from_,0,0,0,(W3 t.town.clerk (Wj t l) (Yb t l)).1,(QD t.town.clerk (Jp t l.from_).name (Yb t l)).1⟩:=by unfold KG;rw [if_neg (by rw [h];simp)]
theorem Jk5 {t:JG} {l:JV} {k:Int} (e:l.from_=k) (h:Wy t l.from_=true):KG t l=QV t ⟨k,0,0,0,(W3 t.town.clerk (Wj t l) (Yb t l)).1,(QD t.town.clerk (Jp t k).name (Yb t l)).1⟩:=by subst e;exact Jk4 h
theorem Jiv {t:JG} {l:JV} {k:Nat} (e:l.to_=(k:Int)):WE t l=⟨⟨t.town.clerk,t.town.owners.set k (Jz (Jp t (k:Int)) l.heads l.reply).1,if (Jz (Jp t (k:Int)) l.heads l.reply).2.1=0∨(Jz (Jp t (k:Int)) l.heads l.reply).2.1=1 then t.town.polls.set k (QK (K4 t (k:Int)) t.town.clerk.now).1 else t.town.polls,t.town.net⟩,t.reach,t.fates,t.events++[⟨2,(k:Int),(Jz (Jp t (k:Int)) l.heads l.reply).2.1,(Jz (Jp t (k:Int)) l.heads l.reply).1.head.epoch⟩]⟩:=by
 unfold WE;rw [e];rfl
theorem tAsk0 {t:JG} {k:Int} (h:¬ (Kp (K4 t k) t.town.clerk.now).2=0):Wq t k=t:=by unfold Wq;rw [if_pos h]
theorem tAsk1 {t:JG} {k:Int} (h:(Kp (K4 t k) t.town.clerk.now).2=0) (h1:(W1 (Kp (K4 t k) t.town.clerk.now).1).1=true∧(W1 (K4 t k)).1=false):Wq t k=QH (VU t k) 3 k 0 t.town.clerk.now:=by
 have h2:VT (Kp (K4 t k) t.town.clerk.now).1=true∧VT (K4 t k)=false:=h1
 unfold Wq;rw [if_neg (by simpa using h),if_pos h2]
theorem tAsk2 {t:JG} {k:Int} (h:(Kp (K4 t k) t.town.clerk.now).2=0) (h1:(W1 (Kp (K4 t k) t.town.clerk.now).1).1=true→(W1 (K4 t k)).1=true):Wq t k=VU t k:=by
 unfold Wq;rw [if_neg (by simpa using h),if_neg]
 rintro ⟨q1,q2⟩
 have:=h1 q1
 have e:VT (K4 t k)=true:=this
 rw [e] at q2;cases q2
theorem JlE (o:KX) (l:List JU) (r:Wv):-9223372036854775808≤(Jz o l r).2.1∧(Jz o l r).2.1<9223372036854775808:=by
 have hv:0≤(JT o l r).1∧(JT o l r).1≤6:=by
  unfold JT KR
  (repeat' split) <;> simp_all <;> omega
 unfold Jz
 (repeat' split) <;> simp only <;> omega
set_option maxRecDepth 20000 in
abbrev Yd (kn1:Nat) (l:JV) (t:JG):=QD t.town.clerk ((Jp t (kn1:Int)).name) (Yb t l)
abbrev JgP (kn1:Nat) (l:JV):=(⟨l.to_,(kn1:Int),l.since,l.due,l.heads,l.reply⟩:JV)
abbrev Jem (l:JV) (t:JG):=W3 t.town.clerk (Wj t l) (Yb t l)
theorem JgQ (G:Jt) (b:Nat) (t:JG) (a_1:Option Addr) (c_1:Nat) (a_5:Option Addr) (c_5:Nat) (a_6:Option Addr) (c_6:Nat) (a_7:Option Addr) (c_7:Nat) (a_8:Option Addr) (c_8:Nat) (a_10:Option Addr) (c_10:Nat) (a_12:Option Addr) (c_12:Nat) (a_13:Option Addr) (c_13:Nat) (r_7:List Kq) (r_8:List Kq) (r_12:List Kq) (r_13:List Kq) (h_0:rI t.town.clerk.queue.most) (h_1:RS QO G a_1 c_1 t.town.clerk.queue.wait) (h_2:rI t.town.clerk.batch) (h_3:rI t.town.clerk.every) (h_4:rI t.town.clerk.now) (h_5:RS KA G a_5 c_5 t.town.clerk.heads) (h_6:RS Qf G a_6 c_6 t.town.clerk.books) (h_7:J8 QI G a_7 c_7 t.town.owners r_7) (h_8:J8 Wi G a_8 c_8 t.town.polls r_8) (h_9:rI t.town.net.now) (h_10:RS Ki G a_10 c_10 t.town.net.way) (h_11:rI t.reach) (h_12:J8 YG G a_12 c_12 t.fates r_12) (h_13:J8 Q0 G a_13 c_13 t.events r_13) (vs_l:List Value) (l:JV) (h_l:Ki.R G vs_l l) (hreach:1≤t.reach∧t.reach≤40):Jar Tryz.prog 115 #[Pt b 0,.agg vs_l.toArray] G [[Sg b 0 [I t.town.clerk.queue.most,Sl a_1 t.town.clerk.queue.wait.length c_1,I t.town.clerk.batch,I t.town.clerk.every,I t.town.clerk.now,Sl a_5 t.town.clerk.heads.length c_5,Sl a_6 t.town.clerk.books.length c_6,Sl a_7 t.town.owners.length c_7,Sl a_8 t.town.polls.length c_8,I t.town.net.now,Sl a_10 t.town.net.way.length c_10,I t.reach,Sl a_12 t.fates.length c_12,Sl a_13 t.events.length c_13]],r_7,r_8,r_12,r_13] (fun u G' L'=>∃ (a_z1:Option Addr) (c_z1:Nat) (a_z5:Option Addr) (c_z5:Nat) (a_z6:Option Addr) (c_z6:Nat) (a_z7:Option Addr) (c_z7:Nat) (a_z8:Option Addr) (c_z8:Nat) (a_z10:Option Addr) (c_z10:Nat) (a_z12:Option Addr) (c_z12:Nat) (a_z13:Option Addr) (c_z13:Nat) (r_z7:List Kq) (r_z8:List Kq) (r_z12:List Kq) (r_z13:List Kq),u=.tuple #[]∧(rI ((KG t l).town.clerk.queue.most))∧(RS QO G' a_z1 c_z1 ((KG t l).town.clerk.queue.wait))∧(rI ((KG t l).town.clerk.batch))∧(rI ((KG t l).town.clerk.every))∧(rI ((KG t l).town.clerk.now))∧(RS KA G' a_z5 c_z5 ((KG t l).town.clerk.heads))∧(RS Qf G' a_z6 c_z6 ((KG t l).town.clerk.books))∧(J8 QI G' a_z7 c_z7 ((KG t l).town.owners) r_z7)∧(J8 Wi G' a_z8 c_z8 ((KG t l).town.polls) r_z8)∧(rI ((KG t l).town.net.now))∧(RS Ki G' a_z10 c_z10 ((KG t l).town.net.way))∧(rI ((KG t l).reach))∧(J8 YG G' a_z12 c_z12 ((KG t l).fates) r_z12)∧(J8 Q0 G' a_z13 c_z13 ((KG t l).events) r_z13)∧L'=[[Sg b 0 [I ((KG t l).town.clerk.queue.most),Sl a_z1 (((KG t l).town.clerk.queue.wait).length) c_z1,I ((KG t l).town.clerk.batch),I ((KG t l).town.clerk.every),I ((KG t l).town.clerk.now),Sl a_z5 (((KG t l).town.clerk.heads).length) c_z5,Sl a_z6 (((KG t l).town.clerk.books).length) c_z6,Sl a_z7 (((KG t l).town.owners).length) c_z7,Sl a_z8 (((KG t l).town.polls).length) c_z8,I ((KG t l).town.net.now),Sl a_z10 (((KG t l).town.net.way).length) c_z10,I ((KG t l).reach),Sl a_z12 (((KG t l).fates).length) c_z12,Sl a_z13 (((KG t l).events).length) c_z13]],r_z7,r_z8,r_z12,r_z13]):=by
 obtain ⟨a1,c1,a2,c2,a3,c3,rfl,_,_,_,_,_,_,_,_,_,_,_,_⟩:=h_l
 intro Lr
 refine JL Tryz.func115 76 [(0,Pt b 0),(1,(KV l a1 c1 a2 c2 a3 c3))] rfl (fun w0 G0=>?_)
 show TC _ _ _ _ _ ([Sg b 0 (JR t a_1 c_1 a_5 c_5 a_6 c_6 a_7 c_7 a_8 c_8 a_10 c_10 a_12 c_12 a_13 c_13)]::r_7::r_8::r_12::r_13::Lr)
 refine Je (Jb ?_)
 refine Ju 3 #[I l.to_,I l.from_,I l.since,I l.due,Sl a1 l.heads.length c1,I l.reply.head.epoch,U l.reply.head.root,U l.reply.head.prev,I l.reply.head.at_,Sr l.reply.proof.name,Sl a2 l.reply.proof.entries.length c2,Sl a3 l.reply.proof.sides.length c3] 72 (fun b1=>?_)
 refine Jd (Ja (Je (Je (Jb ?_))))
 refine Jc [0,0,2] [(0,Pt b 0),(3,Pt b1 0),(11,Pt b 0),(13,I l.from_)] ?_
 refine JF 5 ?_
 refine JF 5 ?_
 refine JF 5 ?_
 refine JF 5 ?_
 refine JF 5 ?_
 refine Qk (Ls:=[[Sg b 0 (JR t a_1 c_1 a_5 c_5 a_6 c_6 a_7 c_7 a_8 c_8 a_10 c_10 a_12 c_12 a_13 c_13)],r_7,r_8,r_12,r_13]) (Lr:=([Sg b1 0 (J4 l a1 c1 a2 c2 a3 c3)]::Lr)) 14 (JaG G b t a_1 c_1 a_5 c_5 a_6 c_6 a_7 c_7 a_8 c_8 a_10 c_10 a_12 c_12 a_13 c_13 r_7 r_8 r_12 r_13 h_0 h_1 h_2 h_3 h_4 h_5 h_6 h_7 h_8 h_9 h_10 h_11 h_12 h_13 l.from_) (fun v G1 L1 hl1 hp=>?_)
 obtain ⟨a4,c4,a5,c5,a6,c6,a7,c7,a8,c8,a9,c9,a10,c10,a11,c11,r1,r2,r3,r4,rfl,w10,hs4,w11,w12,w13,hs5,hs6,hr1,hr2,w14,hs7,w15,hr3,hr4,rfl⟩:=hp
 refine Jc [0] [(0,Pt b 0),(3,Pt b1 0),(15,Bo (!(Wy t l.from_)))] (Jd (Ja ?_))
 refine Jo (!(Wy t l.from_)) (fun h1=>?_) (fun h1=>?_)
 try simp only [BB] at h1
 refine Jk (Jh ?_)
 refine Jj 4 ?_
 refine Jj 4 ?_
 refine Jj 4 ?_
 refine Jj 4 ?_
 refine Jj 4 ?_
 have hf1:KG t l=t:=by
  exact Jk3 ‹_›
 refine Jl [] [] (QW (Lr:=Lr) [[Sg b 0 (JR t a4 c4 a5 c5 a6 c6 a7 c7 a8 c8 a9 c9 a10 c10 a11 c11)],r1,r2,r3,r4] (.cons_cons _ (.cons_cons _ (.cons_cons _ (.cons_cons _ (.cons_cons _ (.cons _ (List.Sublist.refl _))))))) hl1 ?_)
 rw [hf1];try dsimp only
 exact ⟨a4,c4,a5,c5,a6,c6,a7,c7,a8,c8,a9,c9,a10,c10,a11,c11,r1,r2,r3,r4,rfl,w10,hs4,w11,w12,w13,hs5,hs6,hr1,hr2,w14,hs7,w15,hr3,hr4,rfl⟩
 try simp only [BB] at h1
 refine Jm (Ja ?_)
 have hown:=Vz.1 (show Wy t l.from_=true by assumption)
 obtain ⟨kn1,hkn1⟩:∃ k_:Nat,l.from_=(k_:Int):=⟨(l.from_).toNat,by omega⟩
 have e1:l.from_=(kn1:Int):=hkn1
 refine KJ (fr':=[(0,Pt b 0),(3,Pt b1 0),(15,Bo (!(Wy t l.from_)))]) (L':=([Sg b 0 [I t.town.clerk.queue.most,Sl a4 t.town.clerk.queue.wait.length c4,I t.town.clerk.batch,I t.town.clerk.every,I t.town.clerk.now,Sl a5 t.town.clerk.heads.length c5,Sl a6 t.town.clerk.books.length c6,Sl a7 t.town.owners.length c7,Sl a8 t.town.polls.length c8,I t.town.net.now,Sl a9 t.town.net.way.length c9,I t.reach,Sl a10 t.fates.length c10,Sl a11 t.events.length c11]]::r1::r2::r3::r4::[Sg b1 0 [I l.to_,I (kn1:Int),I l.since,I l.due,Sl a1 l.heads.length c1,I l.reply.head.epoch,U l.reply.head.root,U l.reply.head.prev,I l.reply.head.at_,Sr l.reply.proof.name,Sl a2 l.reply.proof.entries.length c2,Sl a3 l.reply.proof.sides.length c3]]::Lr)) (by rfl) (by (simp only [Kn,J4,Kt,WM,JR,KP,KV,Wr,e1];first | done | rfl)) ?_
 refine Jg [0,0,0,0,0,2,0,0,0] [(0,Pt b 0),(3,Pt b1 0),(4,I (IntKind.i64.wrap ((t.town.clerk.heads.length:Int)-1)))] ?_
 have e2:IntKind.i64.wrap ((t.town.clerk.heads.length:Int)-1)=(t.town.clerk.heads.length:Int)-1:=IntWalk.i64_in _ (by (have q_:=(JaR (l:=l) (by have q_:=h_5.fit;simp only [KA] at q_;omega) hreach);have q2_:=h_5.fit;simp only [KA] at q2_;omega))
 refine KJ (fr':=[(0,Pt b 0),(3,Pt b1 0),(4,I ((t.town.clerk.heads.length:Int)-1))]) (L':=([Sg b 0 [I t.town.clerk.queue.most,Sl a4 t.town.clerk.queue.wait.length c4,I t.town.clerk.batch,I t.town.clerk.every,I t.town.clerk.now,Sl a5 t.town.clerk.heads.length c5,Sl a6 t.town.clerk.books.length c6,Sl a7 t.town.owners.length c7,Sl a8 t.town.polls.length c8,I t.town.net.now,Sl a9 t.town.net.way.length c9,I t.reach,Sl a10 t.fates.length c10,Sl a11 t.events.length c11]]::r1::r2::r3::r4::[Sg b1 0 [I l.to_,I (kn1:Int),I l.since,I l.due,Sl a1 l.heads.length c1,I l.reply.head.epoch,U l.reply.head.root,U l.reply.head.prev,I l.reply.head.at_,Sr l.reply.proof.name,Sl a2 l.reply.proof.entries.length c2,Sl a3 l.reply.proof.sides.length c3]]::Lr)) (by simp only [Kn,J4,Kt,WM,JR,KP,KV,Wr,e2];first | done | rfl) (by rfl) ?_
 clear e2
 have e3:(t.town.clerk.heads.length:Int)-1=Wz t:=rfl
 refine KJ (fr':=[(0,Pt b 0),(3,Pt b1 0),(4,I (Wz t))]) (L':=([Sg b 0 (JR t a4 c4 a5 c5 a6 c6 a7 c7 a8 c8 a9 c9 a10 c10 a11 c11)]::r1::r2::r3::r4::[Sg b1 0 (J4 (JgP kn1 l) a1 c1 a2 c2 a3 c3)]::Lr)) (by rfl) (by rfl) ?_
 refine Jg [0,12,0,0,0,0] [(0,Pt b 0),(3,Pt b1 0),(4,I (Wz t)),(5,I (if 0 > (if (Wz t)<l.since then (Wz t) else l.since) then 0 else (if (Wz t)<l.since then (Wz t) else l.since)))] ?_
 have e4:(if 0 > (if (Wz t)<l.since then (Wz t) else l.since) then 0 else (if (Wz t)<l.since then (Wz t) else l.since))=Wj t l:=rfl
 refine KJ (fr':=[(0,Pt b 0),(3,Pt b1 0),(4,I (Wz t)),(5,I (Wj t l))]) (L':=([Sg b 0 (JR t a4 c4 a5 c5 a6 c6 a7 c7 a8 c8 a9 c9 a10 c10 a11 c11)]::r1::r2::r3::r4::[Sg b1 0 (J4 (JgP kn1 l) a1 c1 a2 c2 a3 c3)]::Lr)) (by rfl) (by rfl) ?_
 refine Jg [0,0,0,0,2,0,0,0,0,0] [(0,Pt b 0),(3,Pt b1 0),(5,I (Wj t l)),(6,I (if (Wz t)<(IntKind.i64.wrap ((IntKind.i64.wrap ((Wj t l)+t.reach))-1)) then (Wz t) else (IntKind.i64.wrap ((IntKind.i64.wrap ((Wj t l)+t.reach))-1))))] ?_
 have e5:IntKind.i64.wrap ((Wj t l)+t.reach)=(Wj t l)+t.reach:=IntWalk.i64_in _ (by (have q_:=(JaR (l:=l) (by have q_:=h_5.fit;simp only [KA] at q_;omega) hreach);have q2_:=h_5.fit;simp only [KA] at q2_;omega))
 have e6:IntKind.i64.wrap (((Wj t l)+t.reach)-1)=((Wj t l)+t.reach)-1:=IntWalk.i64_in _ (by (have q_:=(JaR (l:=l) (by have q_:=h_5.fit;simp only [KA] at q_;omega) hreach);have q2_:=h_5.fit;simp only [KA] at q2_;omega))
 refine KJ (fr':=[(0,Pt b 0),(3,Pt b1 0),(5,I (Wj t l)),(6,I (if (Wz t)<(((Wj t l)+t.reach)-1) then (Wz t) else (((Wj t l)+t.reach)-1)))]) (L':=([Sg b 0 [I t.town.clerk.queue.most,Sl a4 t.town.clerk.queue.wait.length c4,I t.town.clerk.batch,I t.town.clerk.every,I t.town.clerk.now,Sl a5 t.town.clerk.heads.length c5,Sl a6 t.town.clerk.books.length c6,Sl a7 t.town.owners.length c7,Sl a8 t.town.polls.length c8,I t.town.net.now,Sl a9 t.town.net.way.length c9,I t.reach,Sl a10 t.fates.length c10,Sl a11 t.events.length c11]]::r1::r2::r3::r4::[Sg b1 0 [I l.to_,I (kn1:Int),I l.since,I l.due,Sl a1 l.heads.length c1,I l.reply.head.epoch,U l.reply.head.root,U l.reply.head.prev,I l.reply.head.at_,Sr l.reply.proof.name,Sl a2 l.reply.proof.entries.length c2,Sl a3 l.reply.proof.sides.length c3]]::Lr)) (by simp only [Kn,J4,Kt,WM,JR,KP,KV,Wr,e5,e6];first | done | rfl) (by rfl) ?_
 clear e6 e5
 have e7:(if (Wz t)<(((Wj t l)+t.reach)-1) then (Wz t) else (((Wj t l)+t.reach)-1))=Yb t l:=rfl
 refine KJ (fr':=[(0,Pt b 0),(3,Pt b1 0),(5,I (Wj t l)),(6,I (Yb t l))]) (L':=([Sg b 0 (JR t a4 c4 a5 c5 a6 c6 a7 c7 a8 c8 a9 c9 a10 c10 a11 c11)]::r1::r2::r3::r4::[Sg b1 0 (J4 (JgP kn1 l) a1 c1 a2 c2 a3 c3)]::Lr)) (by rfl) (by rfl) ?_
 refine Je (Jb ?_)
 refine Jc [0,0,0,0,2,0,0] [(0,Pt b 0),(3,Pt b1 0),(6,I (Yb t l)),(43,(KP t.town.clerk a4 c4 a5 c5 a6 c6)),(44,I (Wj t l)),(45,I (Yb t l))] ?_
 refine JN 46 (JdN G1 (Kn t.town.clerk a4 c4 a5 c5 a6 c6) t.town.clerk (⟨a4,c4,a5,c5,a6,c6,rfl,‹_›,hs4,‹_›,‹_›,‹_›,hs5,hs6⟩) (Wj t l) (by omega) (Yb t l) (by (have q_:=(JaR (l:=l) (by have q_:=h_5.fit;simp only [KA] at q_;omega) hreach);omega))) (fun v G2 L1 hl2 hp=>?_)
 obtain ⟨a12,c12,rfl,hs8,rfl⟩:=hp
 refine Jc [0,0,0,0,0] [(0,Pt b 0),(3,Pt b1 0),(6,I (Yb t l)),(7,Sl a12 (((Jem l t).1).length) c12)] (Jd (Ja ?_))
 refine VC (σ:=Nat×(Option Addr)×Nat×(Option Addr)×Nat×Jt) (fun q_=>(Jt.le G2 q_.2.2.2.2.2)∧(rI (((Yd kn1 l t).1).head.epoch))∧(rU (((Yd kn1 l t).1).head.root))∧(rU (((Yd kn1 l t).1).head.prev))∧(rI (((Yd kn1 l t).1).head.at_))∧((((Yd kn1 l t).1).proof.name).length≤140737488351232)∧(RS Qj q_.2.2.2.2.2 q_.2.1 q_.2.2.1 (((Yd kn1 l t).1).proof.entries))∧(RS EU q_.2.2.2.2.2 q_.2.2.2.1 q_.2.2.2.2.1 (((Yd kn1 l t).1).proof.sides))) (fun q_=>[(0,Pt b 0),(3,Pt b1 0),(7,Sl a12 (((Jem l t).1).length) c12),(9,Pt q_.1 0)]) (fun q_=>q_.2.2.2.2.2) (fun q_=>([Sg q_.1 0 (WM (Yd kn1 l t).1 q_.2.1 q_.2.2.1 q_.2.2.2.1 q_.2.2.2.2.1)]::[Sg b 0 (JR t a4 c4 a5 c5 a6 c6 a7 c7 a8 c8 a9 c9 a10 c10 a11 c11)]::r1::r2::r3::r4::[Sg b1 0 (J4 (JgP kn1 l) a1 c1 a2 c2 a3 c3)]::Lr)) ?_ (fun q_ hs=>?_)
 have hx1:(t.town.owners)[kn1]? = some (Jp t (kn1:Int)):=Z4 (by omega)
 obtain ⟨b2,o1,_,_,⟨a13,c13,rfl,w16,_,_,_,_,_,_,_⟩,ha1,hre1,hc1⟩:=J8.ix (hr1.mono hl2) hx1
 refine Kw [16,20,21] ?_
 refine Wa [(0,Pt b 0),(1,Pt b 0),(2,Pt b 0),(3,Pt b 0),(4,(KP t.town.clerk a4 c4 a5 c5 a6 c6)),(5,Pt b 0),(6,Pt b 0),(7,Pt b 0),(8,Pt b 7),(9,Sl a7 t.town.owners.length c7),(10,Pt b1 1),(11,I (kn1:Int)),(12,Pt b2 (o1+kn1*8)),(13,Pt b2 (o1+kn1*8)),(14,Sr ((Jp t (kn1:Int)).name)),(15,I (Yb t l))] ?_
 refine JZ [] [(0,0),(1,0),(2,0),(3,0),(4,2),(5,0),(6,0),(7,0),(8,0),(9,2),(10,0),(11,12),(13,0),(15,0)] [12,14] [16,20] (List.forall_mem_cons.2 ⟨?_,(List.forall_mem_cons.2 ⟨?_,List.forall_mem_nil _⟩)⟩) (List.forall_mem_cons.2 ⟨?_,(List.forall_mem_cons.2 ⟨?_,List.forall_mem_nil _⟩)⟩)
 refine Jq 12 62 (Pt b2 (o1+kn1*8)) [(59,Sl a7 t.town.owners.length c7),(61,I (kn1:Int))] (fun X=>?_)
 exact Qq (b:=b2) (off:=o1) (len:=t.town.owners.length) (cap:=c7) (ik:=.i64) 62 52 8 kn1 ha1 (by omega) Jn
 refine Jq 14 64 (Sr ((Jp t (kn1:Int)).name)) [(63,Pt b2 (o1+kn1*8))] (fun X=>?_)
 exact WL (off:=o1) (p:=kn1*8) (cs:=(Kt (Jp t (kn1:Int)) a13 c13)) 64 9 1 0 (Sr ((Jp t (kn1:Int)).name)) hre1 hc1 Jn
 refine JO 16 [(54,(KP t.town.clerk a4 c4 a5 c5 a6 c6)),(64,Sr ((Jp t (kn1:Int)).name)),(65,I (Yb t l))] (fun X=>?_)
 refine JN 66 (Ja4 G2 (Kn t.town.clerk a4 c4 a5 c5 a6 c6) t.town.clerk (⟨a4,c4,a5,c5,a6,c6,rfl,‹_›,(hs4.mono hl2),‹_›,‹_›,‹_›,(hs5.mono hl2),(hs6.mono hl2)⟩) ((Jp t (kn1:Int)).name) w16 (Yb t l) (by (have q_:=(JaR (l:=l) (by have q_:=h_5.fit;simp only [KA] at q_;omega) hreach);omega))) (fun v G3 L1 hl3 hp=>?_)
 obtain ⟨a14,c14,a15,c15,rfl,w23,w24,w25,w26,w27,hs10,hs11,rfl⟩:=hp
 refine JS [(16,.tuple #[(Wr (Yd kn1 l t).1 a14 c14 a15 c15),I ((Yd kn1 l t).2)]),(17,.tuple #[(Wr (Yd kn1 l t).1 a14 c14 a15 c15),I ((Yd kn1 l t).2)]),(18,(Wr (Yd kn1 l t).1 a14 c14 a15 c15)),(19,I ((Yd kn1 l t).2))] ?_
 refine JZ [0,1,2,3,4,5,6,7,8,9,10,11,12,13,14,15] [(17,0),(18,0),(19,0)] [] [20] (List.forall_mem_nil _) (List.forall_mem_cons.2 ⟨?_,List.forall_mem_nil _⟩)
 refine JO 20 [] (fun X=>?_)
 refine Ju 9 #[I 0,U 0,U 0,I 0,Sr ([]),Sl none 0 0,Sl none 0 0] 70 (fun b3=>?_)
 refine JS [(20,Pt b3 0)] ?_
 refine JZ [0,1,2,3,4,5,6,7,8,9,10,11,12,13,14,15] [(17,0),(18,0),(19,0)] [] [21] (List.forall_mem_nil _) (List.forall_mem_cons.2 ⟨?_,List.forall_mem_nil _⟩)
 refine JO 21 [(9,Pt b3 0),(67,(Wr (Yd kn1 l t).1 a14 c14 a15 c15))] (fun X=>?_)
 refine KQ 0 ([Sg b3 0 (WM (Yd kn1 l t).1 a14 c14 a15 c15)]::[Sg b 0 (JR t a4 c4 a5 c5 a6 c6 a7 c7 a8 c8 a9 c9 a10 c10 a11 c11)]::r1::r2::r3::r4::[Sg b1 0 (J4 (JgP kn1 l) a1 c1 a2 c2 a3 c3)]::Lr) ?_
 refine Kj [(22,I ((Yd kn1 l t).2))] ?_
 refine Kv [0,1,2,3,4,5,6,7,8,9,10,11,12,13,14,15,17,18] [(19,0),(22,0)] [] [(0,Pt b 0),(3,Pt b1 0),(7,Sl a12 (((Jem l t).1).length) c12),(9,Pt b3 0)] (List.forall_mem_nil _) ?_
 exact WJ (b3,a14,c14,a15,c15,G3) ⟨hl3,w23,w24,w25,w26,w27,hs10,hs11⟩
 refine JO 20 [] (fun X=>?_)
 refine Ju 9 #[I 0,U 0,U 0,I 0,Sr ([]),Sl none 0 0,Sl none 0 0] 70 (fun b4=>?_)
 refine JS [(20,Pt b4 0)] ?_
 refine JZ [] [(0,0),(1,0),(2,0),(3,0),(4,4),(5,0),(6,0),(7,0),(8,0),(9,4),(10,0),(11,14),(13,0),(15,0)] [12,14] [16] (List.forall_mem_cons.2 ⟨?_,(List.forall_mem_cons.2 ⟨?_,List.forall_mem_nil _⟩)⟩) (List.forall_mem_cons.2 ⟨?_,List.forall_mem_nil _⟩)
 refine Jq 12 62 (Pt b2 (o1+kn1*8)) [(59,Sl a7 t.town.owners.length c7),(61,I (kn1:Int))] (fun X=>?_)
 exact Qq (b:=b2) (off:=o1) (len:=t.town.owners.length) (cap:=c7) (ik:=.i64) 62 52 8 kn1 ha1 (by omega) Jn
 refine Jq 14 64 (Sr ((Jp t (kn1:Int)).name)) [(63,Pt b2 (o1+kn1*8))] (fun X=>?_)
 exact WL (off:=o1) (p:=kn1*8) (cs:=(Kt (Jp t (kn1:Int)) a13 c13)) 64 9 2 0 (Sr ((Jp t (kn1:Int)).name)) hre1 hc1 Jn
 refine JO 16 [(54,(KP t.town.clerk a4 c4 a5 c5 a6 c6)),(64,Sr ((Jp t (kn1:Int)).name)),(65,I (Yb t l))] (fun X=>?_)
 refine JN 66 (Ja4 G2 (Kn t.town.clerk a4 c4 a5 c5 a6 c6) t.town.clerk (⟨a4,c4,a5,c5,a6,c6,rfl,‹_›,(hs4.mono hl2),‹_›,‹_›,‹_›,(hs5.mono hl2),(hs6.mono hl2)⟩) ((Jp t (kn1:Int)).name) w16 (Yb t l) (by (have q_:=(JaR (l:=l) (by have q_:=h_5.fit;simp only [KA] at q_;omega) hreach);omega))) (fun v G4 L1 hl4 hp=>?_)
 obtain ⟨a16,c16,a17,c17,rfl,w28,w29,w30,w31,w32,hs12,hs13,rfl⟩:=hp
 refine JS [(16,.tuple #[(Wr (Yd kn1 l t).1 a16 c16 a17 c17),I ((Yd kn1 l t).2)]),(17,.tuple #[(Wr (Yd kn1 l t).1 a16 c16 a17 c17),I ((Yd kn1 l t).2)]),(18,(Wr (Yd kn1 l t).1 a16 c16 a17 c17)),(19,I ((Yd kn1 l t).2))] ?_
 refine JZ [0,1,2,3,4,5,6,7,8,9,10,11,12,13,14,15] [(17,0),(18,0),(19,0)] [] [21] (List.forall_mem_nil _) (List.forall_mem_cons.2 ⟨?_,List.forall_mem_nil _⟩)
 refine JO 21 [(9,Pt b4 0),(67,(Wr (Yd kn1 l t).1 a16 c16 a17 c17))] (fun X=>?_)
 refine KQ 0 ([Sg b4 0 (WM (Yd kn1 l t).1 a16 c16 a17 c17)]::[Sg b 0 (JR t a4 c4 a5 c5 a6 c6 a7 c7 a8 c8 a9 c9 a10 c10 a11 c11)]::r1::r2::r3::r4::[Sg b1 0 (J4 (JgP kn1 l) a1 c1 a2 c2 a3 c3)]::Lr) ?_
 refine Kj [(22,I ((Yd kn1 l t).2))] ?_
 refine Kv [0,1,2,3,4,5,6,7,8,9,10,11,12,13,14,15,17,18] [(19,0),(22,0)] [] [(0,Pt b 0),(3,Pt b1 0),(7,Sl a12 (((Jem l t).1).length) c12),(9,Pt b4 0)] (List.forall_mem_nil _) ?_
 exact WJ (b4,a16,c16,a17,c17,G4) ⟨hl4,w28,w29,w30,w31,w32,hs12,hs13⟩
 obtain ⟨b3,a14,c14,a15,c15,G3⟩:=q_
 obtain ⟨hle1,hj1,hj2,hj3,hj4,hj5,hj6,hj7⟩:=hs
 dsimp only at hle1 hj1 hj2 hj3 hj4 hj5 hj6 hj7
 refine KJ (fr':=[(0,Pt b 0),(3,Pt b1 0),(7,Sl a12 (((Jem l t).1).length) c12),(9,Pt b3 0)]) (L':=([Sg b3 0 (WM (Yd kn1 l t).1 a14 c14 a15 c15)]::[Sg b 0 (JR t a4 c4 a5 c5 a6 c6 a7 c7 a8 c8 a9 c9 a10 c10 a11 c11)]::r1::r2::r3::r4::[Sg b1 0 (J4 (JgP kn1 l) a1 c1 a2 c2 a3 c3)]::Lr)) rfl rfl ?_
 refine Jb ?_
 refine Jc [0,0,14,0,2,0] [(69,Pt b 0),(74,(KV (⟨(kn1:Int),0,0,0,(Jem l t).1,(Yd kn1 l t).1⟩:JV) a12 c12 a14 c14 a15 c15))] ?_
 refine JF 5 ?_
 refine JF 5 ?_
 refine JF 5 ?_
 refine JF 5 ?_
 refine JF 5 ?_
 refine Qk (Ls:=[[Sg b 0 (JR t a4 c4 a5 c5 a6 c6 a7 c7 a8 c8 a9 c9 a10 c10 a11 c11)],r1,r2,r3,r4]) (Lr:=([Sg b3 0 (WM (Yd kn1 l t).1 a14 c14 a15 c15)]::[Sg b1 0 (J4 (JgP kn1 l) a1 c1 a2 c2 a3 c3)]::Lr)) 75 (JeS G3 b t a4 c4 a5 c5 a6 c6 a7 c7 a8 c8 a9 c9 a10 c10 a11 c11 r1 r2 r3 r4 ‹_› (hs4.mono (Jt.le_trans hl2 hle1)) ‹_› ‹_› ‹_› (hs5.mono (Jt.le_trans hl2 hle1)) (hs6.mono (Jt.le_trans hl2 hle1)) (hr1.mono (Jt.le_trans hl2 hle1)) (hr2.mono (Jt.le_trans hl2 hle1)) ‹_› (hs7.mono (Jt.le_trans hl2 hle1)) ‹_› (hr3.mono (Jt.le_trans hl2 hle1)) (hr4.mono (Jt.le_trans hl2 hle1)) (J4 (⟨(kn1:Int),0,0,0,(Jem l t).1,(Yd kn1 l t).1⟩:JV) a12 c12 a14 c14 a15 c15) (⟨(kn1:Int),0,0,0,(Jem l t).1,((Yd kn1 l t).1)⟩:JV) (⟨a12,c12,a14,c14,a15,c15,rfl,(by (dsimp only;omega)),(by (dsimp only;omega)),(by (dsimp only;omega)),(by (dsimp only;omega)),(hs8.mono hle1),hj1,hj2,hj3,hj4,hj5,hj6,hj7⟩)) (fun v G5 L1 hl5 hp=>?_)
 obtain ⟨a18,c18,a19,c19,a20,c20,a21,c21,a22,c22,a23,c23,a24,c24,a25,c25,r5,r6,r7,r8,rfl,w33,hs14,w34,w35,w36,hs15,hs16,hr5,hr6,w37,hs17,w38,hr7,hr8,rfl⟩:=hp
 refine Jd ?_
 refine Jj 4 ?_
 refine Jj 4 ?_
 refine Jj 4 ?_
 refine Jj 4 ?_
 refine Jj 4 ?_
 have hf2:KG t l=(QV t (⟨(kn1:Int),0,0,0,(Jem l t).1,((Yd kn1 l t).1)⟩:JV)):=by
  (rw [Jk5 ‹_› ‹_›];done)
 refine Zj [] [] (QW (Lr:=Lr) [[Sg b 0 (JR (QV t (⟨(kn1:Int),0,0,0,(Jem l t).1,((Yd kn1 l t).1)⟩:JV)) a18 c18 a19 c19 a20 c20 a21 c21 a22 c22 a23 c23 a24 c24 a25 c25)],r5,r6,r7,r8] (.cons_cons _ (.cons_cons _ (.cons_cons _ (.cons_cons _ (.cons_cons _ (.cons _ (.cons _ (List.Sublist.refl _)))))))) (Jt.le_trans (Jt.le_trans (Jt.le_trans hl1 hl2) hle1) hl5) ?_)
 rw [hf2];try dsimp only
 exact ⟨a18,c18,a19,c19,a20,c20,a21,c21,a22,c22,a23,c23,a24,c24,a25,c25,r5,r6,r7,r8,rfl,w33,hs14,w34,w35,w36,hs15,hs16,hr5,hr6,w37,hs17,w38,hr7,hr8,rfl⟩
set_option maxRecDepth 20000 in
abbrev Ye (kn1:Nat) (l:JV) (t:JG):=QH (⟨(⟨t.town.clerk,t.town.owners.set kn1 ((Jz (Jp t (kn1:Int)) l.heads l.reply).1),t.town.polls,t.town.net⟩:QN),t.reach,t.fates,t.events⟩:JG) 2 (kn1:Int) ((Jz (Jp t (kn1:Int)) l.heads l.reply).2.1) (((Jz (Jp t (kn1:Int)) l.heads l.reply).1).head.epoch)
abbrev Wk (kn1:Nat) (l:JV) (t:JG):=Jz (Jp t (kn1:Int)) l.heads l.reply
abbrev Jaf (kn1:Nat) (l:JV) (t:JG):=QK (K4 (Ye kn1 l t) (kn1:Int)) ((Ye kn1 l t).town.clerk.now)
abbrev JhM (kn1:Nat) (l:JV):=(⟨(kn1:Int),l.from_,l.since,l.due,l.heads,l.reply⟩:JV)
abbrev Jen (kn1:Nat) (l:JV) (t:JG):=K4 (Ye kn1 l t) (kn1:Int)
theorem Jk6 (G:Jt) (b:Nat) (t:JG) (a_1:Option Addr) (c_1:Nat) (a_5:Option Addr) (c_5:Nat) (a_6:Option Addr) (c_6:Nat) (a_7:Option Addr) (c_7:Nat) (a_8:Option Addr) (c_8:Nat) (a_10:Option Addr) (c_10:Nat) (a_12:Option Addr) (c_12:Nat) (a_13:Option Addr) (c_13:Nat) (r_7:List Kq) (r_8:List Kq) (r_12:List Kq) (r_13:List Kq) (h_0:rI t.town.clerk.queue.most) (h_1:RS QO G a_1 c_1 t.town.clerk.queue.wait) (h_2:rI t.town.clerk.batch) (h_3:rI t.town.clerk.every) (h_4:rI t.town.clerk.now) (h_5:RS KA G a_5 c_5 t.town.clerk.heads) (h_6:RS Qf G a_6 c_6 t.town.clerk.books) (h_7:J8 QI G a_7 c_7 t.town.owners r_7) (h_8:J8 Wi G a_8 c_8 t.town.polls r_8) (h_9:rI t.town.net.now) (h_10:RS Ki G a_10 c_10 t.town.net.way) (h_11:rI t.reach) (h_12:J8 YG G a_12 c_12 t.fates r_12) (h_13:J8 Q0 G a_13 c_13 t.events r_13) (vs_l:List Value) (l:JV) (h_l:Ki.R G vs_l l) (hev:t.events.length≤1000000) (hto:0≤l.to_∧l.to_<t.town.owners.length) (hpl:t.town.polls.length=t.town.owners.length):Jar Tryz.prog 116 #[Pt b 0,.agg vs_l.toArray] G [[Sg b 0 [I t.town.clerk.queue.most,Sl a_1 t.town.clerk.queue.wait.length c_1,I t.town.clerk.batch,I t.town.clerk.every,I t.town.clerk.now,Sl a_5 t.town.clerk.heads.length c_5,Sl a_6 t.town.clerk.books.length c_6,Sl a_7 t.town.owners.length c_7,Sl a_8 t.town.polls.length c_8,I t.town.net.now,Sl a_10 t.town.net.way.length c_10,I t.reach,Sl a_12 t.fates.length c_12,Sl a_13 t.events.length c_13]],r_7,r_8,r_12,r_13] (fun u G' L'=>∃ (a_z1:Option Addr) (c_z1:Nat) (a_z5:Option Addr) (c_z5:Nat) (a_z6:Option Addr) (c_z6:Nat) (a_z7:Option Addr) (c_z7:Nat) (a_z8:Option Addr) (c_z8:Nat) (a_z10:Option Addr) (c_z10:Nat) (a_z12:Option Addr) (c_z12:Nat) (a_z13:Option Addr) (c_z13:Nat) (r_z7:List Kq) (r_z8:List Kq) (r_z12:List Kq) (r_z13:List Kq),u=.tuple #[]∧(rI ((WE t l).town.clerk.queue.most))∧(RS QO G' a_z1 c_z1 ((WE t l).town.clerk.queue.wait))∧(rI ((WE t l).town.clerk.batch))∧(rI ((WE t l).town.clerk.every))∧(rI ((WE t l).town.clerk.now))∧(RS KA G' a_z5 c_z5 ((WE t l).town.clerk.heads))∧(RS Qf G' a_z6 c_z6 ((WE t l).town.clerk.books))∧(J8 QI G' a_z7 c_z7 ((WE t l).town.owners) r_z7)∧(J8 Wi G' a_z8 c_z8 ((WE t l).town.polls) r_z8)∧(rI ((WE t l).town.net.now))∧(RS Ki G' a_z10 c_z10 ((WE t l).town.net.way))∧(rI ((WE t l).reach))∧(J8 YG G' a_z12 c_z12 ((WE t l).fates) r_z12)∧(J8 Q0 G' a_z13 c_z13 ((WE t l).events) r_z13)∧L'=[[Sg b 0 [I ((WE t l).town.clerk.queue.most),Sl a_z1 (((WE t l).town.clerk.queue.wait).length) c_z1,I ((WE t l).town.clerk.batch),I ((WE t l).town.clerk.every),I ((WE t l).town.clerk.now),Sl a_z5 (((WE t l).town.clerk.heads).length) c_z5,Sl a_z6 (((WE t l).town.clerk.books).length) c_z6,Sl a_z7 (((WE t l).town.owners).length) c_z7,Sl a_z8 (((WE t l).town.polls).length) c_z8,I ((WE t l).town.net.now),Sl a_z10 (((WE t l).town.net.way).length) c_z10,I ((WE t l).reach),Sl a_z12 (((WE t l).fates).length) c_z12,Sl a_z13 (((WE t l).events).length) c_z13]],r_z7,r_z8,r_z12,r_z13]):=by
 obtain ⟨a1,c1,a2,c2,a3,c3,rfl,_,_,_,_,hs1,w5,w6,w7,w8,w9,hs2,hs3⟩:=h_l
 intro Lr
 refine JL Tryz.func116 75 [(0,Pt b 0),(1,(KV l a1 c1 a2 c2 a3 c3))] rfl (fun w0 G0=>?_)
 show TC _ _ _ _ _ ([Sg b 0 (JR t a_1 c_1 a_5 c_5 a_6 c_6 a_7 c_7 a_8 c_8 a_10 c_10 a_12 c_12 a_13 c_13)]::r_7::r_8::r_12::r_13::Lr)
 refine Je (Jb ?_)
 refine Ju 3 #[I l.to_,I l.from_,I l.since,I l.due,Sl a1 l.heads.length c1,I l.reply.head.epoch,U l.reply.head.root,U l.reply.head.prev,I l.reply.head.at_,Sr l.reply.proof.name,Sl a2 l.reply.proof.entries.length c2,Sl a3 l.reply.proof.sides.length c3] 72 (fun b1=>?_)
 refine Jd (Ja ?_)
 obtain ⟨kn1,hkn1⟩:∃ k_:Nat,l.to_=(k_:Int):=⟨(l.to_).toNat,by omega⟩
 have e1:l.to_=(kn1:Int):=hkn1
 refine JeY [(0,Pt b 0),(1,(KV l a1 c1 a2 c2 a3 c3)),(3,Pt b1 0)] (by as_aux_lemma=>kernel_rfl) ?_
 refine KJ (fr':=[(0,Pt b 0),(1,.agg #[I (kn1:Int),I l.from_,I l.since,I l.due,Sl a1 l.heads.length c1,I l.reply.head.epoch,U l.reply.head.root,U l.reply.head.prev,I l.reply.head.at_,Sr l.reply.proof.name,Sl a2 l.reply.proof.entries.length c2,Sl a3 l.reply.proof.sides.length c3]),(3,Pt b1 0)]) (L':=([Sg b1 0 [I (kn1:Int),I l.from_,I l.since,I l.due,Sl a1 l.heads.length c1,I l.reply.head.epoch,U l.reply.head.root,U l.reply.head.prev,I l.reply.head.at_,Sr l.reply.proof.name,Sl a2 l.reply.proof.entries.length c2,Sl a3 l.reply.proof.sides.length c3]]::[Sg b 0 [I t.town.clerk.queue.most,Sl a_1 t.town.clerk.queue.wait.length c_1,I t.town.clerk.batch,I t.town.clerk.every,I t.town.clerk.now,Sl a_5 t.town.clerk.heads.length c_5,Sl a_6 t.town.clerk.books.length c_6,Sl a_7 t.town.owners.length c_7,Sl a_8 t.town.polls.length c_8,I t.town.net.now,Sl a_10 t.town.net.way.length c_10,I t.reach,Sl a_12 t.fates.length c_12,Sl a_13 t.events.length c_13]]::r_7::r_8::r_12::r_13::Lr)) (by (simp only [J4,Kt,Zu,WM,JR,KV,Ko,WD,Wr,e1];first | done | rfl)) (by (simp only [J4,Kt,Zu,WM,JR,KV,Ko,WD,Wr,e1];first | done | rfl)) ?_
 refine VC (σ:=Nat×(Option Addr)×Nat×Jt) (fun q_=>(Jt.le G q_.2.2.2)∧((((Wk kn1 l t).1).name).length≤140737488351232)∧(rU (((Wk kn1 l t).1).key))∧(rI (((Wk kn1 l t).1).head.epoch))∧(rU (((Wk kn1 l t).1).head.root))∧(rU (((Wk kn1 l t).1).head.prev))∧(rI (((Wk kn1 l t).1).head.at_))∧(RS ES q_.2.2.2 q_.2.1 q_.2.2.1 (((Wk kn1 l t).1).wanted))∧(rI (((Wk kn1 l t).1).had))) (fun q_=>[(0,Pt b 0),(3,Pt b1 0),(4,Pt q_.1 0),(5,I ((Wk kn1 l t).2.1))]) (fun q_=>q_.2.2.2) (fun q_=>([Sg q_.1 0 (Kt (Wk kn1 l t).1 q_.2.1 q_.2.2.1)]::[Sg b1 0 (J4 (JhM kn1 l) a1 c1 a2 c2 a3 c3)]::[Sg b 0 (JR t a_1 c_1 a_5 c_5 a_6 c_6 a_7 c_7 a_8 c_8 a_10 c_10 a_12 c_12 a_13 c_13)]::r_7::r_8::r_12::r_13::Lr)) ?_ (fun q_ hs=>?_)
 have hx1:(t.town.owners)[kn1]? = some (Jp t (kn1:Int)):=Z4 (by omega)
 obtain ⟨b2,o1,_,_,⟨a4,c4,rfl,w10,w11,w12,w13,w14,w15,hs4,w16⟩,ha1,hre1,hc1⟩:=J8.ix h_7 hx1
 refine Kw [13,18,19] ?_
 refine Wa [(0,Pt b 0),(1,Pt b 0),(2,Pt b 0),(3,Pt b 7),(4,Sl a_7 t.town.owners.length c_7),(5,Pt b1 0),(6,I (kn1:Int)),(7,Pt b2 (o1+kn1*8)),(8,(Ko (Jp t (kn1:Int)) a4 c4)),(9,Pt b1 4),(10,Sl a1 l.heads.length c1),(11,Pt b1 5),(12,(Wr l.reply a2 c2 a3 c3))] ?_
 refine JZ [] [(0,0),(1,0),(2,0),(3,0),(4,4),(5,0),(6,2),(9,0),(10,2),(11,0),(12,2)] [7,8] [13,18] (List.forall_mem_cons.2 ⟨?_,(List.forall_mem_cons.2 ⟨?_,List.forall_mem_nil _⟩)⟩) (List.forall_mem_cons.2 ⟨?_,(List.forall_mem_cons.2 ⟨?_,List.forall_mem_nil _⟩)⟩)
 refine Jq 7 15 (Pt b2 (o1+kn1*8)) [(12,Sl a_7 t.town.owners.length c_7),(14,I (kn1:Int))] (fun X=>?_)
 exact Qq (b:=b2) (off:=o1) (len:=t.town.owners.length) (cap:=c_7) (ik:=.i64) 15 52 8 kn1 ha1 (by omega) Jn
 refine Jq 8 16 (Ko (Jp t (kn1:Int)) a4 c4) [(15,Pt b2 (o1+kn1*8))] (fun X=>?_)
 exact WL (off:=o1) (p:=kn1*8) (cs:=(Kt (Jp t (kn1:Int)) a4 c4)) 16 52 2 0 (Ko (Jp t (kn1:Int)) a4 c4) hre1 hc1 Jn
 refine JO 13 [(16,(Ko (Jp t (kn1:Int)) a4 c4)),(18,Sl a1 l.heads.length c1),(20,(Wr l.reply a2 c2 a3 c3))] (fun X=>?_)
 refine JN 21 (JbI G (Kt (Jp t (kn1:Int)) a4 c4) (Jp t (kn1:Int)) (⟨a4,c4,rfl,w10,w11,w12,w13,w14,w15,hs4,w16⟩) a1 c1 l.heads hs1 (WM l.reply a2 c2 a3 c3) l.reply (⟨a2,c2,a3,c3,rfl,w5,w6,w7,w8,w9,hs2,hs3⟩)) (fun v G1 L1 hl1 hp=>?_)
 obtain ⟨a5,c5,rfl,w17,w18,w19,w20,w21,w22,hs5,w23,rfl⟩:=hp
 refine JS [(13,.tuple #[(Ko (Wk kn1 l t).1 a5 c5),I ((Wk kn1 l t).2.1),I ((Wk kn1 l t).2.2)]),(14,.tuple #[(Ko (Wk kn1 l t).1 a5 c5),I ((Wk kn1 l t).2.1),I ((Wk kn1 l t).2.2)]),(15,(Ko (Wk kn1 l t).1 a5 c5)),(16,I ((Wk kn1 l t).2.1)),(17,I ((Wk kn1 l t).2.2))] ?_
 refine JZ [0,1,2,3,4,5,6,7,8,9,10,11,12] [(14,0),(15,0),(16,0),(17,0)] [] [18] (List.forall_mem_nil _) (List.forall_mem_cons.2 ⟨?_,List.forall_mem_nil _⟩)
 refine JO 18 [] (fun X=>?_)
 refine Ju 4 #[Sr ([]),U 0,I 0,U 0,U 0,I 0,Sl none 0 0,I 0] 52 (fun b3=>?_)
 refine JS [(18,Pt b3 0)] ?_
 refine JZ [0,1,2,3,4,5,6,7,8,9,10,11,12] [(14,0),(15,0),(16,0),(17,0)] [] [19] (List.forall_mem_nil _) (List.forall_mem_cons.2 ⟨?_,List.forall_mem_nil _⟩)
 refine JO 19 [(4,Pt b3 0),(22,(Ko (Wk kn1 l t).1 a5 c5))] (fun X=>?_)
 refine KQ 0 ([Sg b3 0 (Kt (Wk kn1 l t).1 a5 c5)]::[Sg b1 0 (J4 (JhM kn1 l) a1 c1 a2 c2 a3 c3)]::[Sg b 0 (JR t a_1 c_1 a_5 c_5 a_6 c_6 a_7 c_7 a_8 c_8 a_10 c_10 a_12 c_12 a_13 c_13)]::r_7::r_8::r_12::r_13::Lr) ?_
 refine Kj [(20,I ((Wk kn1 l t).2.1)),(21,I ((Wk kn1 l t).2.2))] ?_
 refine Kv [0,1,2,3,4,5,6,7,8,9,10,11,12,14,15] [(16,0),(17,0),(20,0),(21,0)] [] [(0,Pt b 0),(3,Pt b1 0),(4,Pt b3 0),(5,I ((Wk kn1 l t).2.1))] (List.forall_mem_nil _) ?_
 exact WJ (b3,a5,c5,G1) ⟨hl1,w17,w18,w19,w20,w21,w22,hs5,w23⟩
 refine JO 18 [] (fun X=>?_)
 refine Ju 4 #[Sr ([]),U 0,I 0,U 0,U 0,I 0,Sl none 0 0,I 0] 52 (fun b4=>?_)
 refine JS [(18,Pt b4 0)] ?_
 refine JZ [] [(0,0),(1,0),(2,0),(3,0),(4,6),(5,0),(6,4),(9,0),(10,4),(11,0),(12,4)] [7,8] [13] (List.forall_mem_cons.2 ⟨?_,(List.forall_mem_cons.2 ⟨?_,List.forall_mem_nil _⟩)⟩) (List.forall_mem_cons.2 ⟨?_,List.forall_mem_nil _⟩)
 refine Jq 7 15 (Pt b2 (o1+kn1*8)) [(12,Sl a_7 t.town.owners.length c_7),(14,I (kn1:Int))] (fun X=>?_)
 exact Qq (b:=b2) (off:=o1) (len:=t.town.owners.length) (cap:=c_7) (ik:=.i64) 15 52 8 kn1 ha1 (by omega) Jn
 refine Jq 8 16 (Ko (Jp t (kn1:Int)) a4 c4) [(15,Pt b2 (o1+kn1*8))] (fun X=>?_)
 exact WL (off:=o1) (p:=kn1*8) (cs:=(Kt (Jp t (kn1:Int)) a4 c4)) 16 52 3 0 (Ko (Jp t (kn1:Int)) a4 c4) hre1 hc1 Jn
 refine JO 13 [(16,(Ko (Jp t (kn1:Int)) a4 c4)),(18,Sl a1 l.heads.length c1),(20,(Wr l.reply a2 c2 a3 c3))] (fun X=>?_)
 refine JN 21 (JbI G (Kt (Jp t (kn1:Int)) a4 c4) (Jp t (kn1:Int)) (⟨a4,c4,rfl,w10,w11,w12,w13,w14,w15,hs4,w16⟩) a1 c1 l.heads hs1 (WM l.reply a2 c2 a3 c3) l.reply (⟨a2,c2,a3,c3,rfl,w5,w6,w7,w8,w9,hs2,hs3⟩)) (fun v G2 L1 hl2 hp=>?_)
 obtain ⟨a6,c6,rfl,w24,w25,w26,w27,w28,w29,hs6,w30,rfl⟩:=hp
 refine JS [(13,.tuple #[(Ko (Wk kn1 l t).1 a6 c6),I ((Wk kn1 l t).2.1),I ((Wk kn1 l t).2.2)]),(14,.tuple #[(Ko (Wk kn1 l t).1 a6 c6),I ((Wk kn1 l t).2.1),I ((Wk kn1 l t).2.2)]),(15,(Ko (Wk kn1 l t).1 a6 c6)),(16,I ((Wk kn1 l t).2.1)),(17,I ((Wk kn1 l t).2.2))] ?_
 refine JZ [0,1,2,3,4,5,6,7,8,9,10,11,12] [(14,0),(15,0),(16,0),(17,0)] [] [19] (List.forall_mem_nil _) (List.forall_mem_cons.2 ⟨?_,List.forall_mem_nil _⟩)
 refine JO 19 [(4,Pt b4 0),(22,(Ko (Wk kn1 l t).1 a6 c6))] (fun X=>?_)
 refine KQ 0 ([Sg b4 0 (Kt (Wk kn1 l t).1 a6 c6)]::[Sg b1 0 (J4 (JhM kn1 l) a1 c1 a2 c2 a3 c3)]::[Sg b 0 (JR t a_1 c_1 a_5 c_5 a_6 c_6 a_7 c_7 a_8 c_8 a_10 c_10 a_12 c_12 a_13 c_13)]::r_7::r_8::r_12::r_13::Lr) ?_
 refine Kj [(20,I ((Wk kn1 l t).2.1)),(21,I ((Wk kn1 l t).2.2))] ?_
 refine Kv [0,1,2,3,4,5,6,7,8,9,10,11,12,14,15] [(16,0),(17,0),(20,0),(21,0)] [] [(0,Pt b 0),(3,Pt b1 0),(4,Pt b4 0),(5,I ((Wk kn1 l t).2.1))] (List.forall_mem_nil _) ?_
 exact WJ (b4,a6,c6,G2) ⟨hl2,w24,w25,w26,w27,w28,w29,hs6,w30⟩
 obtain ⟨b3,a5,c5,G1⟩:=q_
 obtain ⟨hle1,hj1,hj2,hj3,hj4,hj5,hj6,hj7,hj8⟩:=hs
 dsimp only at hle1 hj1 hj2 hj3 hj4 hj5 hj6 hj7 hj8
 refine KJ (fr':=[(0,Pt b 0),(3,Pt b1 0),(4,Pt b3 0),(5,I ((Wk kn1 l t).2.1))]) (L':=([Sg b3 0 (Kt (Wk kn1 l t).1 a5 c5)]::[Sg b1 0 (J4 (JhM kn1 l) a1 c1 a2 c2 a3 c3)]::[Sg b 0 (JR t a_1 c_1 a_5 c_5 a_6 c_6 a_7 c_7 a_8 c_8 a_10 c_10 a_12 c_12 a_13 c_13)]::r_7::r_8::r_12::r_13::Lr)) rfl rfl ?_
 refine Je ?_
 have hx2:(t.town.owners)[kn1]? = some (Jp t (kn1:Int)):=Z4 (by omega)
 obtain ⟨b5,o2,_,_,⟨_,_,rfl,_,_,_,_,_,_,_,_⟩,ha2,_,_⟩:=J8.ix (h_7.mono hle1) hx2
 refine Kw [9] ?_
 refine Wa [(0,Pt b 0),(1,Pt b 0),(2,Pt b 0),(3,Pt b 7),(4,Sl a_7 t.town.owners.length c_7),(5,Pt b1 0),(6,I (kn1:Int)),(7,(Ko (Wk kn1 l t).1 a5 c5)),(8,Pt b5 (o2+kn1*8))] ?_
 refine JZ [] [(0,0),(1,0),(2,0),(3,0),(4,6),(5,0),(6,4),(7,2)] [8] [9] (List.forall_mem_cons.2 ⟨?_,List.forall_mem_nil _⟩) (List.forall_mem_cons.2 ⟨?_,List.forall_mem_nil _⟩)
 refine Jq 8 33 (Pt b5 (o2+kn1*8)) [(29,Sl a_7 t.town.owners.length c_7),(31,I (kn1:Int))] (fun X=>?_)
 exact Qq (b:=b5) (off:=o2) (len:=t.town.owners.length) (cap:=c_7) (ik:=.i64) 33 52 8 kn1 ha2 (by omega) Jn
 refine JO 9 [(32,(Ko (Wk kn1 l t).1 a5 c5)),(33,Pt b5 (o2+kn1*8))] (fun X=>?_)
 refine Yi (b:=b5) (off:=o2) 3 (h_7.mono hle1) kn1 ((Wk kn1 l t).1) ha2 (by omega) (Ko (Wk kn1 l t).1 a5 c5) (Kt (Wk kn1 l t).1 a5 c5) ⟨a5,c5,rfl,hj1,hj2,hj3,hj4,hj5,hj6,hj7,hj8⟩ (fun r1 hr1=>?_)
 have e2:t.town.owners.length=(t.town.owners.set kn1 ((Wk kn1 l t).1)).length:=(List.length_set ..).symm
 refine Kj [] ?_
 refine Kv [0,1,2,3,4,5,6,7,8] [] [] [(0,Pt b 0),(3,Pt b1 0),(4,Pt b3 0),(5,I ((Wk kn1 l t).2.1))] (List.forall_mem_nil _) ?_
 refine Jct (fr':=[(0,Pt b 0),(3,Pt b1 0),(4,Pt b3 0),(5,I ((Jz (Jp t (kn1:Int)) l.heads l.reply).2.1))]) (L':=([Sg b3 0 [Sr (((Jz (Jp t (kn1:Int)) l.heads l.reply).1).name),U (((Jz (Jp t (kn1:Int)) l.heads l.reply).1).key),I (((Jz (Jp t (kn1:Int)) l.heads l.reply).1).head.epoch),U (((Jz (Jp t (kn1:Int)) l.heads l.reply).1).head.root),U (((Jz (Jp t (kn1:Int)) l.heads l.reply).1).head.prev),I (((Jz (Jp t (kn1:Int)) l.heads l.reply).1).head.at_),Sl a5 ((((Jz (Jp t (kn1:Int)) l.heads l.reply).1).wanted).length) c5,I (((Jz (Jp t (kn1:Int)) l.heads l.reply).1).had)]]::[Sg b1 0 [I (kn1:Int),I l.from_,I l.since,I l.due,Sl a1 l.heads.length c1,I l.reply.head.epoch,U l.reply.head.root,U l.reply.head.prev,I l.reply.head.at_,Sr l.reply.proof.name,Sl a2 l.reply.proof.entries.length c2,Sl a3 l.reply.proof.sides.length c3]]::[Sg b 0 [I t.town.clerk.queue.most,Sl a_1 t.town.clerk.queue.wait.length c_1,I t.town.clerk.batch,I t.town.clerk.every,I t.town.clerk.now,Sl a_5 t.town.clerk.heads.length c_5,Sl a_6 t.town.clerk.books.length c_6,Sl a_7 ((t.town.owners.set kn1 ((Jz (Jp t (kn1:Int)) l.heads l.reply).1)).length) c_7,Sl a_8 t.town.polls.length c_8,I t.town.net.now,Sl a_10 t.town.net.way.length c_10,I t.reach,Sl a_12 t.fates.length c_12,Sl a_13 t.events.length c_13]]::r1::r_8::r_12::r_13::Lr)) (by rfl) (by (simp only [J4,Kt,Zu,WM,JR,KV,Ko,WD,Wr,e2];first | done | rfl)) ?_
 refine Ja (Je (Jb ?_))
 refine Jc [0,0,4,0,0,0,2] [(0,Pt b 0),(3,Pt b1 0),(5,I ((Wk kn1 l t).2.1)),(34,Pt b 0),(36,I (kn1:Int)),(37,I ((Wk kn1 l t).2.1)),(40,I (((Wk kn1 l t).1).head.epoch))] ?_
 refine JF 6 ?_
 refine JF 6 ?_
 refine JF 6 ?_
 refine JF 6 ?_
 refine JF 6 ?_
 refine Qk (Ls:=[[Sg b 0 (JR (⟨(⟨t.town.clerk,(t.town.owners.set kn1 ((Wk kn1 l t).1)),t.town.polls,t.town.net⟩:QN),t.reach,t.fates,t.events⟩:JG) a_1 c_1 a_5 c_5 a_6 c_6 a_7 c_7 a_8 c_8 a_10 c_10 a_12 c_12 a_13 c_13)],r1,r_8,r_12,r_13]) (Lr:=([Sg b3 0 (Kt (Wk kn1 l t).1 a5 c5)]::[Sg b1 0 (J4 (JhM kn1 l) a1 c1 a2 c2 a3 c3)]::Lr)) 41 (Jcm G1 b (⟨(⟨t.town.clerk,t.town.owners.set kn1 ((Wk kn1 l t).1),t.town.polls,t.town.net⟩:QN),t.reach,t.fates,t.events⟩:JG) a_1 c_1 a_5 c_5 a_6 c_6 a_7 c_7 a_8 c_8 a_10 c_10 a_12 c_12 a_13 c_13 r1 r_8 r_12 r_13 h_0 (h_1.mono hle1) h_2 h_3 h_4 (h_5.mono hle1) (h_6.mono hle1) hr1 (h_8.mono hle1) h_9 (h_10.mono hle1) h_11 (h_12.mono hle1) (h_13.mono hle1) 2 (by omega) (kn1:Int) (by omega) ((Wk kn1 l t).2.1) (JlE _ _ _) (((Wk kn1 l t).1).head.epoch) hj3 ‹_›) (fun v G3 L1 hl3 hp=>?_)
 obtain ⟨a8,c8,a9,c9,a10,c10,a11,c11,a12,c12,a13,c13,a14,c14,a15,c15,r2,r3,r4,r5,rfl,w38,hs8,w39,w40,w41,hs9,hs10,hr2,hr3,w42,hs11,w43,hr4,hr5,rfl⟩:=hp
 refine Jd (Ja (Je (Jb ?_)))
 refine Jc [0,0,0] [(0,Pt b 0),(3,Pt b1 0),(5,I ((Wk kn1 l t).2.1)),(44,Bo (decide ((Wk kn1 l t).2.1=0)))] ?_
 refine Ky (decide ((Wk kn1 l t).2.1=0)) (fun bb=>[(0,Pt b 0),(3,Pt b1 0),(5,I ((Wk kn1 l t).2.1)),(44,Bo bb)]) [1,1,0] [0,0,0] (fun bb=>[(0,Pt b 0),(3,Pt b1 0),(47,Bo (bb || (decide ((Wk kn1 l t).2.1=1))))]) ?_
 refine Jd (Ja ?_)
 refine Jo ((decide ((Wk kn1 l t).2.1=0)) || (decide ((Wk kn1 l t).2.1=1))) (fun h1=>?_) (fun h1=>?_)
 try simp only [BB] at h1
 have hx3:((Ye kn1 l t).town.polls)[kn1]? = some (Jen kn1 l t):=JdP (by (simp only [QH];omega))
 obtain ⟨b6,o3,_,_,⟨rfl,w44,w45,w46,w47,w48,w49⟩,ha3,hre3,hc3⟩:=J8.ix hr3 hx3
 refine Kw [27] ?_
 refine Wa [(0,Pt b 0),(1,Pt b 0),(2,Pt b 0),(3,Pt b 8),(4,Sl a12 (((Ye kn1 l t).town.polls).length) c12),(5,Pt b1 0),(6,I (kn1:Int)),(7,Pt b 0),(8,Pt b 0),(9,Pt b 0),(10,Pt b 8),(11,Sl a12 (((Ye kn1 l t).town.polls).length) c12),(12,Pt b1 0),(13,I (kn1:Int)),(14,Pt b6 (o3+kn1*6)),(15,(WD (Jen kn1 l t))),(16,Pt b 0),(17,Pt b 0),(18,Pt b 0),(19,Pt b 0),(20,Pt b 4),(21,I ((Ye kn1 l t).town.clerk.now)),(22,.tuple #[(WD (Jaf kn1 l t).1),I ((Jaf kn1 l t).2)]),(23,.tuple #[(WD (Jaf kn1 l t).1),I ((Jaf kn1 l t).2)]),(24,(WD (Jaf kn1 l t).1)),(25,I ((Jaf kn1 l t).2)),(26,Pt b6 (o3+kn1*6))] ?_
 refine JZ [] [(0,0),(1,0),(2,0),(3,0),(4,2),(5,0),(6,14),(7,0),(8,0),(9,0),(10,0),(11,2),(12,0),(13,14),(16,0),(17,0),(18,0),(19,0),(20,0),(21,2),(23,0),(24,0),(25,0)] [14,15,22,26] [27] (List.forall_mem_cons.2 ⟨?_,(List.forall_mem_cons.2 ⟨?_,(List.forall_mem_cons.2 ⟨?_,(List.forall_mem_cons.2 ⟨?_,List.forall_mem_nil _⟩)⟩)⟩)⟩) (List.forall_mem_cons.2 ⟨?_,List.forall_mem_nil _⟩)
 refine Jq 14 63 (Pt b6 (o3+kn1*6)) [(60,Sl a12 (((Ye kn1 l t).town.polls).length) c12),(62,I (kn1:Int))] (fun X=>?_)
 exact Qq (b:=b6) (off:=o3) (len:=((Ye kn1 l t).town.polls).length) (cap:=c12) (ik:=.i64) 63 56 6 kn1 ha3 (by (simp only [QH];omega)) Jn
 refine Jq 15 64 (WD (Jen kn1 l t)) [(63,Pt b6 (o3+kn1*6))] (fun X=>?_)
 exact WL (off:=o3) (p:=kn1*6) (cs:=(Zu (Jen kn1 l t))) 64 56 2 0 (WD (Jen kn1 l t)) hre3 hc3 Jn
 refine Jq 22 71 (.tuple #[(WD (Jaf kn1 l t).1),I ((Jaf kn1 l t).2)]) [(64,(WD (Jen kn1 l t))),(70,I ((Ye kn1 l t).town.clerk.now))] (fun X=>?_)
 exact Ji 71 (.tuple #[(WD (Jaf kn1 l t).1),I ((Jaf kn1 l t).2)]) (Jej G3 (Zu (Jen kn1 l t)) (Jen kn1 l t) (⟨rfl,w44,w45,w46,w47,w48,w49⟩) ((Ye kn1 l t).town.clerk.now)) Jn
 refine Jq 26 74 (Pt b6 (o3+kn1*6)) [(53,Sl a12 (((Ye kn1 l t).town.polls).length) c12),(55,I (kn1:Int))] (fun X=>?_)
 exact Qq (b:=b6) (off:=o3) (len:=((Ye kn1 l t).town.polls).length) (cap:=c12) (ik:=.i64) 74 56 6 kn1 ha3 (by (simp only [QH];omega)) Jn
 refine JO 27 [(72,(WD (Jaf kn1 l t).1)),(74,Pt b6 (o3+kn1*6))] (fun X=>?_)
 refine Yi (b:=b6) (off:=o3) 2 hr3 kn1 ((Jaf kn1 l t).1) ha3 (by (simp only [QH];omega)) (WD (Jaf kn1 l t).1) (Zu (Jaf kn1 l t).1) ⟨rfl,(JaS _ _).least,(JaS _ _).most,(JaS _ _).lost,(JaS _ _).gap,(JaS _ _).next,(JaS _ _).asked⟩ (fun r6 hr6=>?_)
 have e3:((Ye kn1 l t).town.polls).length=(((Ye kn1 l t).town.polls).set kn1 ((Jaf kn1 l t).1)).length:=(List.length_set ..).symm
 refine Kj [] ?_
 refine Kv [0,1,2,3,4,5,6,7,8,9,10,11,12,13,14,15,16,17,18,19,20,21,22,23,24,26] [(25,0)] [] [] (List.forall_mem_nil _) ?_
 refine Jct (fr':=[]) (L':=([Sg b 0 [I ((QH (⟨(⟨t.town.clerk,t.town.owners.set kn1 ((Jz (Jp t (kn1:Int)) l.heads l.reply).1),t.town.polls,t.town.net⟩:QN),t.reach,t.fates,t.events⟩:JG) 2 (kn1:Int) ((Jz (Jp t (kn1:Int)) l.heads l.reply).2.1) (((Jz (Jp t (kn1:Int)) l.heads l.reply).1).head.epoch)).town.clerk.queue.most),Sl a8 (((QH (⟨(⟨t.town.clerk,t.town.owners.set kn1 ((Jz (Jp t (kn1:Int)) l.heads l.reply).1),t.town.polls,t.town.net⟩:QN),t.reach,t.fates,t.events⟩:JG) 2 (kn1:Int) ((Jz (Jp t (kn1:Int)) l.heads l.reply).2.1) (((Jz (Jp t (kn1:Int)) l.heads l.reply).1).head.epoch)).town.clerk.queue.wait).length) c8,I ((QH (⟨(⟨t.town.clerk,t.town.owners.set kn1 ((Jz (Jp t (kn1:Int)) l.heads l.reply).1),t.town.polls,t.town.net⟩:QN),t.reach,t.fates,t.events⟩:JG) 2 (kn1:Int) ((Jz (Jp t (kn1:Int)) l.heads l.reply).2.1) (((Jz (Jp t (kn1:Int)) l.heads l.reply).1).head.epoch)).town.clerk.batch),I ((QH (⟨(⟨t.town.clerk,t.town.owners.set kn1 ((Jz (Jp t (kn1:Int)) l.heads l.reply).1),t.town.polls,t.town.net⟩:QN),t.reach,t.fates,t.events⟩:JG) 2 (kn1:Int) ((Jz (Jp t (kn1:Int)) l.heads l.reply).2.1) (((Jz (Jp t (kn1:Int)) l.heads l.reply).1).head.epoch)).town.clerk.every),I ((QH (⟨(⟨t.town.clerk,t.town.owners.set kn1 ((Jz (Jp t (kn1:Int)) l.heads l.reply).1),t.town.polls,t.town.net⟩:QN),t.reach,t.fates,t.events⟩:JG) 2 (kn1:Int) ((Jz (Jp t (kn1:Int)) l.heads l.reply).2.1) (((Jz (Jp t (kn1:Int)) l.heads l.reply).1).head.epoch)).town.clerk.now),Sl a9 (((QH (⟨(⟨t.town.clerk,t.town.owners.set kn1 ((Jz (Jp t (kn1:Int)) l.heads l.reply).1),t.town.polls,t.town.net⟩:QN),t.reach,t.fates,t.events⟩:JG) 2 (kn1:Int) ((Jz (Jp t (kn1:Int)) l.heads l.reply).2.1) (((Jz (Jp t (kn1:Int)) l.heads l.reply).1).head.epoch)).town.clerk.heads).length) c9,Sl a10 (((QH (⟨(⟨t.town.clerk,t.town.owners.set kn1 ((Jz (Jp t (kn1:Int)) l.heads l.reply).1),t.town.polls,t.town.net⟩:QN),t.reach,t.fates,t.events⟩:JG) 2 (kn1:Int) ((Jz (Jp t (kn1:Int)) l.heads l.reply).2.1) (((Jz (Jp t (kn1:Int)) l.heads l.reply).1).head.epoch)).town.clerk.books).length) c10,Sl a11 (((QH (⟨(⟨t.town.clerk,t.town.owners.set kn1 ((Jz (Jp t (kn1:Int)) l.heads l.reply).1),t.town.polls,t.town.net⟩:QN),t.reach,t.fates,t.events⟩:JG) 2 (kn1:Int) ((Jz (Jp t (kn1:Int)) l.heads l.reply).2.1) (((Jz (Jp t (kn1:Int)) l.heads l.reply).1).head.epoch)).town.owners).length) c11,Sl a12 ((((QH (⟨(⟨t.town.clerk,t.town.owners.set kn1 ((Jz (Jp t (kn1:Int)) l.heads l.reply).1),t.town.polls,t.town.net⟩:QN),t.reach,t.fates,t.events⟩:JG) 2 (kn1:Int) ((Jz (Jp t (kn1:Int)) l.heads l.reply).2.1) (((Jz (Jp t (kn1:Int)) l.heads l.reply).1).head.epoch)).town.polls).set kn1 ((QK (K4 (QH (⟨(⟨t.town.clerk,t.town.owners.set kn1 ((Jz (Jp t (kn1:Int)) l.heads l.reply).1),t.town.polls,t.town.net⟩:QN),t.reach,t.fates,t.events⟩:JG) 2 (kn1:Int) ((Jz (Jp t (kn1:Int)) l.heads l.reply).2.1) (((Jz (Jp t (kn1:Int)) l.heads l.reply).1).head.epoch)) (kn1:Int)) ((QH (⟨(⟨t.town.clerk,t.town.owners.set kn1 ((Jz (Jp t (kn1:Int)) l.heads l.reply).1),t.town.polls,t.town.net⟩:QN),t.reach,t.fates,t.events⟩:JG) 2 (kn1:Int) ((Jz (Jp t (kn1:Int)) l.heads l.reply).2.1) (((Jz (Jp t (kn1:Int)) l.heads l.reply).1).head.epoch)).town.clerk.now)).1)).length) c12,I ((QH (⟨(⟨t.town.clerk,t.town.owners.set kn1 ((Jz (Jp t (kn1:Int)) l.heads l.reply).1),t.town.polls,t.town.net⟩:QN),t.reach,t.fates,t.events⟩:JG) 2 (kn1:Int) ((Jz (Jp t (kn1:Int)) l.heads l.reply).2.1) (((Jz (Jp t (kn1:Int)) l.heads l.reply).1).head.epoch)).town.net.now),Sl a13 (((QH (⟨(⟨t.town.clerk,t.town.owners.set kn1 ((Jz (Jp t (kn1:Int)) l.heads l.reply).1),t.town.polls,t.town.net⟩:QN),t.reach,t.fates,t.events⟩:JG) 2 (kn1:Int) ((Jz (Jp t (kn1:Int)) l.heads l.reply).2.1) (((Jz (Jp t (kn1:Int)) l.heads l.reply).1).head.epoch)).town.net.way).length) c13,I ((QH (⟨(⟨t.town.clerk,t.town.owners.set kn1 ((Jz (Jp t (kn1:Int)) l.heads l.reply).1),t.town.polls,t.town.net⟩:QN),t.reach,t.fates,t.events⟩:JG) 2 (kn1:Int) ((Jz (Jp t (kn1:Int)) l.heads l.reply).2.1) (((Jz (Jp t (kn1:Int)) l.heads l.reply).1).head.epoch)).reach),Sl a14 (((QH (⟨(⟨t.town.clerk,t.town.owners.set kn1 ((Jz (Jp t (kn1:Int)) l.heads l.reply).1),t.town.polls,t.town.net⟩:QN),t.reach,t.fates,t.events⟩:JG) 2 (kn1:Int) ((Jz (Jp t (kn1:Int)) l.heads l.reply).2.1) (((Jz (Jp t (kn1:Int)) l.heads l.reply).1).head.epoch)).fates).length) c14,Sl a15 (((QH (⟨(⟨t.town.clerk,t.town.owners.set kn1 ((Jz (Jp t (kn1:Int)) l.heads l.reply).1),t.town.polls,t.town.net⟩:QN),t.reach,t.fates,t.events⟩:JG) 2 (kn1:Int) ((Jz (Jp t (kn1:Int)) l.heads l.reply).2.1) (((Jz (Jp t (kn1:Int)) l.heads l.reply).1).head.epoch)).events).length) c15]]::r2::r6::r4::r5::[Sg b3 0 [Sr (((Jz (Jp t (kn1:Int)) l.heads l.reply).1).name),U (((Jz (Jp t (kn1:Int)) l.heads l.reply).1).key),I (((Jz (Jp t (kn1:Int)) l.heads l.reply).1).head.epoch),U (((Jz (Jp t (kn1:Int)) l.heads l.reply).1).head.root),U (((Jz (Jp t (kn1:Int)) l.heads l.reply).1).head.prev),I (((Jz (Jp t (kn1:Int)) l.heads l.reply).1).head.at_),Sl a5 ((((Jz (Jp t (kn1:Int)) l.heads l.reply).1).wanted).length) c5,I (((Jz (Jp t (kn1:Int)) l.heads l.reply).1).had)]]::[Sg b1 0 [I (kn1:Int),I l.from_,I l.since,I l.due,Sl a1 l.heads.length c1,I l.reply.head.epoch,U l.reply.head.root,U l.reply.head.prev,I l.reply.head.at_,Sr l.reply.proof.name,Sl a2 l.reply.proof.entries.length c2,Sl a3 l.reply.proof.sides.length c3]]::Lr)) (by rfl) (by (simp only [J4,Kt,Zu,WM,JR,KV,Ko,WD,Wr,e3];first | done | rfl)) ?_
 refine Jj 4 ?_
 refine Jj 4 ?_
 refine Jj 4 ?_
 refine Jj 4 ?_
 refine Jj 4 ?_
 have hf1:WE t l=(⟨(⟨(Ye kn1 l t).town.clerk,(Ye kn1 l t).town.owners,((Ye kn1 l t).town.polls).set kn1 ((Jaf kn1 l t).1),(Ye kn1 l t).town.net⟩:QN),(Ye kn1 l t).reach,(Ye kn1 l t).fates,(Ye kn1 l t).events⟩:JG):=by
  (rw [Jiv ‹_›,if_pos (by first | omega | (simp only [Ye,Wk,Jaf,JhM,Jen] at *;omega))];rfl)
 refine Zj [] [] (QW (Lr:=Lr) [[Sg b 0 (JR (⟨(⟨(Ye kn1 l t).town.clerk,(Ye kn1 l t).town.owners,(((Ye kn1 l t).town.polls).set kn1 ((Jaf kn1 l t).1)),(Ye kn1 l t).town.net⟩:QN),(Ye kn1 l t).reach,(Ye kn1 l t).fates,(Ye kn1 l t).events⟩:JG) a8 c8 a9 c9 a10 c10 a11 c11 a12 c12 a13 c13 a14 c14 a15 c15)],r2,r6,r4,r5] (.cons_cons _ (.cons_cons _ (.cons_cons _ (.cons_cons _ (.cons_cons _ (.cons _ (.cons _ (List.Sublist.refl _)))))))) (Jt.le_trans hle1 hl3) ?_)
 rw [hf1];try dsimp only
 exact ⟨a8,c8,a9,c9,a10,c10,a11,c11,a12,c12,a13,c13,a14,c14,a15,c15,r2,r6,r4,r5,rfl,w38,hs8,w39,w40,w41,hs9,hs10,hr2,hr6,w42,hs11,w43,hr4,hr5,rfl⟩
 try simp only [BB] at h1
 refine Jm ?_
 refine Jj 4 ?_
 refine Jj 4 ?_
 refine Jj 4 ?_
 refine Jj 4 ?_
 refine Jj 4 ?_
 have hf2:WE t l=(Ye kn1 l t):=by
  (rw [Jiv ‹_›,if_neg (by first | omega | (simp only [Ye,Wk,Jaf,JhM,Jen] at *;omega))];done)
 refine Zj [] [] (QW (Lr:=Lr) [[Sg b 0 (JR (Ye kn1 l t) a8 c8 a9 c9 a10 c10 a11 c11 a12 c12 a13 c13 a14 c14 a15 c15)],r2,r3,r4,r5] (.cons_cons _ (.cons_cons _ (.cons_cons _ (.cons_cons _ (.cons_cons _ (.cons _ (.cons _ (List.Sublist.refl _)))))))) (Jt.le_trans hle1 hl3) ?_)
 rw [hf2];try dsimp only
 exact ⟨a8,c8,a9,c9,a10,c10,a11,c11,a12,c12,a13,c13,a14,c14,a15,c15,r2,r3,r4,r5,rfl,w38,hs8,w39,w40,w41,hs9,hs10,hr2,hr3,w42,hs11,w43,hr4,hr5,rfl⟩
set_option maxRecDepth 20000 in
abbrev Jeo (kn1:Nat) (t:JG):=QV (⟨(⟨t.town.clerk,t.town.owners,t.town.polls.set kn1 ((Kp (K4 t (kn1:Int)) t.town.clerk.now).1),t.town.net⟩:QN),t.reach,t.fates,t.events⟩:JG) (⟨(-1),(kn1:Int),((Jp t (kn1:Int)).head.epoch)+1,0,[],(⟨(⟨0,0,0,0⟩:JU),(⟨[],[],[]⟩:WF)⟩:Wv)⟩:JV)
abbrev Z9 (kn1:Nat) (t:JG):=Kp (K4 t (kn1:Int)) t.town.clerk.now
abbrev Jcn (kn1:Nat) (t:JG):=W1 (K4 t (kn1:Int))
abbrev Jep (kn1:Nat) (t:JG):=W1 ((Z9 kn1 t).1)
abbrev JgR (kn1:Nat) (t:JG):=WD (K4 t (kn1:Int))
theorem Jk7 (G:Jt) (b:Nat) (t:JG) (a_1:Option Addr) (c_1:Nat) (a_5:Option Addr) (c_5:Nat) (a_6:Option Addr) (c_6:Nat) (a_7:Option Addr) (c_7:Nat) (a_8:Option Addr) (c_8:Nat) (a_10:Option Addr) (c_10:Nat) (a_12:Option Addr) (c_12:Nat) (a_13:Option Addr) (c_13:Nat) (r_7:List Kq) (r_8:List Kq) (r_12:List Kq) (r_13:List Kq) (h_0:rI t.town.clerk.queue.most) (h_1:RS QO G a_1 c_1 t.town.clerk.queue.wait) (h_2:rI t.town.clerk.batch) (h_3:rI t.town.clerk.every) (h_4:rI t.town.clerk.now) (h_5:RS KA G a_5 c_5 t.town.clerk.heads) (h_6:RS Qf G a_6 c_6 t.town.clerk.books) (h_7:J8 QI G a_7 c_7 t.town.owners r_7) (h_8:J8 Wi G a_8 c_8 t.town.polls r_8) (h_9:rI t.town.net.now) (h_10:RS Ki G a_10 c_10 t.town.net.way) (h_11:rI t.reach) (h_12:J8 YG G a_12 c_12 t.fates r_12) (h_13:J8 Q0 G a_13 c_13 t.events r_13) (k:Int) (hw_k:rI k) (hev:t.events.length≤1000000) (hto:0≤k∧k<t.town.owners.length) (hpl:t.town.polls.length=t.town.owners.length) (hep:∀ (i:Nat) o,t.town.owners[i]? = some o→o.head.epoch≤1000000):Jar Tryz.prog 117 #[Pt b 0,I k] G [[Sg b 0 [I t.town.clerk.queue.most,Sl a_1 t.town.clerk.queue.wait.length c_1,I t.town.clerk.batch,I t.town.clerk.every,I t.town.clerk.now,Sl a_5 t.town.clerk.heads.length c_5,Sl a_6 t.town.clerk.books.length c_6,Sl a_7 t.town.owners.length c_7,Sl a_8 t.town.polls.length c_8,I t.town.net.now,Sl a_10 t.town.net.way.length c_10,I t.reach,Sl a_12 t.fates.length c_12,Sl a_13 t.events.length c_13]],r_7,r_8,r_12,r_13] (fun u G' L'=>∃ (a_z1:Option Addr) (c_z1:Nat) (a_z5:Option Addr) (c_z5:Nat) (a_z6:Option Addr) (c_z6:Nat) (a_z7:Option Addr) (c_z7:Nat) (a_z8:Option Addr) (c_z8:Nat) (a_z10:Option Addr) (c_z10:Nat) (a_z12:Option Addr) (c_z12:Nat) (a_z13:Option Addr) (c_z13:Nat) (r_z7:List Kq) (r_z8:List Kq) (r_z12:List Kq) (r_z13:List Kq),u=.tuple #[]∧(rI ((Wq t k).town.clerk.queue.most))∧(RS QO G' a_z1 c_z1 ((Wq t k).town.clerk.queue.wait))∧(rI ((Wq t k).town.clerk.batch))∧(rI ((Wq t k).town.clerk.every))∧(rI ((Wq t k).town.clerk.now))∧(RS KA G' a_z5 c_z5 ((Wq t k).town.clerk.heads))∧(RS Qf G' a_z6 c_z6 ((Wq t k).town.clerk.books))∧(J8 QI G' a_z7 c_z7 ((Wq t k).town.owners) r_z7)∧(J8 Wi G' a_z8 c_z8 ((Wq t k).town.polls) r_z8)∧(rI ((Wq t k).town.net.now))∧(RS Ki G' a_z10 c_z10 ((Wq t k).town.net.way))∧(rI ((Wq t k).reach))∧(J8 YG G' a_z12 c_z12 ((Wq t k).fates) r_z12)∧(J8 Q0 G' a_z13 c_z13 ((Wq t k).events) r_z13)∧L'=[[Sg b 0 [I ((Wq t k).town.clerk.queue.most),Sl a_z1 (((Wq t k).town.clerk.queue.wait).length) c_z1,I ((Wq t k).town.clerk.batch),I ((Wq t k).town.clerk.every),I ((Wq t k).town.clerk.now),Sl a_z5 (((Wq t k).town.clerk.heads).length) c_z5,Sl a_z6 (((Wq t k).town.clerk.books).length) c_z6,Sl a_z7 (((Wq t k).town.owners).length) c_z7,Sl a_z8 (((Wq t k).town.polls).length) c_z8,I ((Wq t k).town.net.now),Sl a_z10 (((Wq t k).town.net.way).length) c_z10,I ((Wq t k).reach),Sl a_z12 (((Wq t k).fates).length) c_z12,Sl a_z13 (((Wq t k).events).length) c_z13]],r_z7,r_z8,r_z12,r_z13]):=by
 intro Lr
 refine JL Tryz.func117 84 [(0,Pt b 0),(1,I k)] rfl (fun w0 G0=>?_)
 show TC _ _ _ _ _ ([Sg b 0 (JR t a_1 c_1 a_5 c_5 a_6 c_6 a_7 c_7 a_8 c_8 a_10 c_10 a_12 c_12 a_13 c_13)]::r_7::r_8::r_12::r_13::Lr)
 obtain ⟨kn1,hkn1⟩:∃ k_:Nat,k=(k_:Int):=⟨(k).toNat,by omega⟩
 have e1:k=(kn1:Int):=hkn1
 refine JeY [(0,Pt b 0),(1,I k)] (by as_aux_lemma=>kernel_rfl) ?_
 refine KJ (fr':=[(0,Pt b 0),(1,I (kn1:Int))]) (L':=([Sg b 0 [I t.town.clerk.queue.most,Sl a_1 t.town.clerk.queue.wait.length c_1,I t.town.clerk.batch,I t.town.clerk.every,I t.town.clerk.now,Sl a_5 t.town.clerk.heads.length c_5,Sl a_6 t.town.clerk.books.length c_6,Sl a_7 t.town.owners.length c_7,Sl a_8 t.town.polls.length c_8,I t.town.net.now,Sl a_10 t.town.net.way.length c_10,I t.reach,Sl a_12 t.fates.length c_12,Sl a_13 t.events.length c_13]]::r_7::r_8::r_12::r_13::Lr)) (by (simp only [Kt,Zu,JR,WD,e1];first | done | rfl)) (by rfl) ?_
 refine Je ?_
 have hx1:(t.town.polls)[kn1]? = some (K4 t (kn1:Int)):=JdP (by omega)
 obtain ⟨b1,o1,_,_,⟨rfl,w1,w2,w3,w4,w5,w6⟩,ha1,hre1,hc1⟩:=J8.ix h_8 hx1
 refine Kw [18,19] ?_
 refine Wa [(0,Pt b 0),(1,Pt b 0),(2,Pt b 0),(3,Pt b 8),(4,Sl a_8 t.town.polls.length c_8),(5,I (kn1:Int)),(6,Pt b1 (o1+kn1*6)),(7,(JgR kn1 t)),(8,Pt b 0),(9,Pt b 0),(10,Pt b 0),(11,Pt b 0),(12,Pt b 4),(13,I t.town.clerk.now),(14,.tuple #[(WD (Z9 kn1 t).1),I ((Z9 kn1 t).2)]),(15,.tuple #[(WD (Z9 kn1 t).1),I ((Z9 kn1 t).2)]),(16,(WD (Z9 kn1 t).1)),(17,I ((Z9 kn1 t).2))] ?_
 refine JZ [] [(0,0),(1,0),(2,0),(3,0),(4,2),(5,0),(8,0),(9,0),(10,0),(11,0),(12,0),(13,2),(15,0),(16,0),(17,0)] [6,7,14] [18] (List.forall_mem_cons.2 ⟨?_,(List.forall_mem_cons.2 ⟨?_,(List.forall_mem_cons.2 ⟨?_,List.forall_mem_nil _⟩)⟩)⟩) (List.forall_mem_cons.2 ⟨?_,List.forall_mem_nil _⟩)
 refine Jq 6 17 (Pt b1 (o1+kn1*6)) [(15,Sl a_8 t.town.polls.length c_8),(16,I (kn1:Int))] (fun X=>?_)
 exact Qq (b:=b1) (off:=o1) (len:=t.town.polls.length) (cap:=c_8) (ik:=.i64) 17 56 6 kn1 ha1 (by omega) Jn
 refine Jq 7 18 (JgR kn1 t) [(17,Pt b1 (o1+kn1*6))] (fun X=>?_)
 exact WL (off:=o1) (p:=kn1*6) (cs:=(Zu (K4 t (kn1:Int)))) 18 56 2 0 (JgR kn1 t) hre1 hc1 Jn
 refine Jq 14 25 (.tuple #[(WD (Z9 kn1 t).1),I ((Z9 kn1 t).2)]) [(18,(JgR kn1 t)),(24,I t.town.clerk.now)] (fun X=>?_)
 exact Ji 25 (.tuple #[(WD (Z9 kn1 t).1),I ((Z9 kn1 t).2)]) (JbN G (Zu (K4 t (kn1:Int))) (K4 t (kn1:Int)) (⟨rfl,w1,w2,w3,w4,w5,w6⟩) t.town.clerk.now) Jn
 refine JO 18 [] (fun X=>?_)
 refine Ju 4 #[I 0,I 0,I 0,I 0,I 0,I 0] 56 (fun b2=>?_)
 refine JS [(18,Pt b2 0)] ?_
 refine JZ [] [(0,0),(1,0),(2,0),(3,0),(4,4),(5,0),(8,0),(9,0),(10,0),(11,0),(12,0),(13,4),(15,0),(16,0),(17,0)] [6,7,14] [19] (List.forall_mem_cons.2 ⟨?_,(List.forall_mem_cons.2 ⟨?_,(List.forall_mem_cons.2 ⟨?_,List.forall_mem_nil _⟩)⟩)⟩) (List.forall_mem_cons.2 ⟨?_,List.forall_mem_nil _⟩)
 refine Jq 6 17 (Pt b1 (o1+kn1*6)) [(15,Sl a_8 t.town.polls.length c_8),(16,I (kn1:Int))] (fun X=>?_)
 exact Qq (b:=b1) (off:=o1) (len:=t.town.polls.length) (cap:=c_8) (ik:=.i64) 17 56 6 kn1 ha1 (by omega) Jn
 refine Jq 7 18 (JgR kn1 t) [(17,Pt b1 (o1+kn1*6))] (fun X=>?_)
 exact WL (off:=o1) (p:=kn1*6) (cs:=(Zu (K4 t (kn1:Int)))) 18 56 3 0 (JgR kn1 t) hre1 hc1 Jn
 refine Jq 14 25 (.tuple #[(WD (Z9 kn1 t).1),I ((Z9 kn1 t).2)]) [(18,(JgR kn1 t)),(24,I t.town.clerk.now)] (fun X=>?_)
 exact Ji 25 (.tuple #[(WD (Z9 kn1 t).1),I ((Z9 kn1 t).2)]) (JbN G (Zu (K4 t (kn1:Int))) (K4 t (kn1:Int)) (⟨rfl,w1,w2,w3,w4,w5,w6⟩) t.town.clerk.now) Jn
 refine JO 19 [(4,Pt b2 0),(26,(WD (Z9 kn1 t).1))] (fun X=>?_)
 refine KQ 0 ([Sg b2 0 (Zu (Z9 kn1 t).1)]::[Sg b 0 (JR t a_1 c_1 a_5 c_5 a_6 c_6 a_7 c_7 a_8 c_8 a_10 c_10 a_12 c_12 a_13 c_13)]::r_7::r_8::r_12::r_13::Lr) ?_
 refine Kj [(20,I ((Z9 kn1 t).2))] ?_
 refine Kv [0,1,2,3,4,5,6,7,8,9,10,11,12,13,14,15,16] [(17,0),(20,0)] [] [(0,Pt b 0),(1,I (kn1:Int)),(4,Pt b2 0),(5,I ((Z9 kn1 t).2))] (List.forall_mem_nil _) ?_
 refine Ja (Je ?_)
 refine Jg [0,0] [(0,Pt b 0),(1,I (kn1:Int)),(4,Pt b2 0),(29,Bo (!decide ((Z9 kn1 t).2=0)))] ?_
 refine Jo (!decide ((Z9 kn1 t).2=0)) (fun h1=>?_) (fun h1=>?_)
 try simp only [BB] at h1
 refine Jk (Jh ?_)
 refine Jj 5 ?_
 refine Jj 5 ?_
 refine Jj 5 ?_
 refine Jj 5 ?_
 refine Jj 5 ?_
 have hf1:Wq t k=t:=by
  rw [show k=(kn1:Int) by assumption];exact tAsk0 ‹_›
 refine Jl [] [] (QW (Lr:=Lr) [[Sg b 0 (JR t a_1 c_1 a_5 c_5 a_6 c_6 a_7 c_7 a_8 c_8 a_10 c_10 a_12 c_12 a_13 c_13)],r_7,r_8,r_12,r_13] (.cons_cons _ (.cons_cons _ (.cons_cons _ (.cons_cons _ (.cons_cons _ (.cons _ (List.Sublist.refl _))))))) (Jt.le_refl _) ?_)
 rw [hf1];try dsimp only
 exact ⟨a_1,c_1,a_5,c_5,a_6,c_6,a_7,c_7,a_8,c_8,a_10,c_10,a_12,c_12,a_13,c_13,r_7,r_8,r_12,r_13,rfl,h_0,h_1,h_2,h_3,h_4,h_5,h_6,h_7,h_8,h_9,h_10,h_11,h_12,h_13,rfl⟩
 try simp only [BB] at h1
 refine Jm (Ja (Je (Jb ?_)))
 refine Jc [0,0,0,0,4,0] [(0,Pt b 0),(1,I (kn1:Int)),(4,Pt b2 0),(35,Sl a_8 t.town.polls.length c_8),(36,I (kn1:Int))] ?_
 refine Qq (b:=b1) (off:=o1) (len:=t.town.polls.length) (cap:=c_8) (ik:=.i64) 37 56 6 kn1 ha1 (by omega) ?_
 refine WL (off:=o1) (p:=kn1*6) (cs:=(Zu (K4 t (kn1:Int)))) 38 56 3 0 (JgR kn1 t) hre1 hc1 ?_
 refine Ji 39 (.tuple #[Bo ((Jcn kn1 t).1),I ((Jcn kn1 t).2)]) (Ja7 G (Zu (K4 t (kn1:Int))) (K4 t (kn1:Int)) (⟨rfl,w1,w2,w3,w4,w5,w6⟩)) ?_
 refine Jc [0,0,0,0,0] [(0,Pt b 0),(1,I (kn1:Int)),(4,Pt b2 0),(6,Bo ((Jcn kn1 t).1))] (Jd (Ja (Je (Jb ?_))))
 refine Jc [2] [(0,Pt b 0),(1,I (kn1:Int)),(4,Pt b2 0),(6,Bo ((Jcn kn1 t).1)),(43,(WD (Z9 kn1 t).1))] ?_
 refine Ji 44 (.tuple #[Bo ((Jep kn1 t).1),I ((Jep kn1 t).2)]) (Ja7 G (Zu (Z9 kn1 t).1) ((Z9 kn1 t).1) (⟨rfl,(Y2 _ _).least,(Y2 _ _).most,(Y2 _ _).lost,(Y2 _ _).gap,(Y2 _ _).next,(Y2 _ _).asked⟩)) ?_
 refine Jc [0,0,0,0,0] [(0,Pt b 0),(1,I (kn1:Int)),(4,Pt b2 0),(6,Bo ((Jcn kn1 t).1)),(8,Bo ((Jep kn1 t).1))] (Jd (Ja (Je ?_)))
 refine Kw [8] ?_
 refine Wa [(0,Pt b 0),(1,Pt b 0),(2,Pt b 0),(3,Pt b 8),(4,Sl a_8 t.town.polls.length c_8),(5,I (kn1:Int)),(6,(WD (Z9 kn1 t).1)),(7,Pt b1 (o1+kn1*6))] ?_
 refine JZ [] [(0,0),(1,0),(2,0),(3,0),(4,4),(5,0),(6,2)] [7] [8] (List.forall_mem_cons.2 ⟨?_,List.forall_mem_nil _⟩) (List.forall_mem_cons.2 ⟨?_,List.forall_mem_nil _⟩)
 refine Jq 7 54 (Pt b1 (o1+kn1*6)) [(51,Sl a_8 t.town.polls.length c_8),(52,I (kn1:Int))] (fun X=>?_)
 exact Qq (b:=b1) (off:=o1) (len:=t.town.polls.length) (cap:=c_8) (ik:=.i64) 54 56 6 kn1 ha1 (by omega) Jn
 refine JO 8 [(53,(WD (Z9 kn1 t).1)),(54,Pt b1 (o1+kn1*6))] (fun X=>?_)
 refine Yi (b:=b1) (off:=o1) 3 h_8 kn1 ((Z9 kn1 t).1) ha1 (by omega) (WD (Z9 kn1 t).1) (Zu (Z9 kn1 t).1) ⟨rfl,(Y2 _ _).least,(Y2 _ _).most,(Y2 _ _).lost,(Y2 _ _).gap,(Y2 _ _).next,(Y2 _ _).asked⟩ (fun r1 hr1=>?_)
 have e2:t.town.polls.length=(t.town.polls.set kn1 ((Z9 kn1 t).1)).length:=(List.length_set ..).symm
 refine Kj [] ?_
 refine Kv [0,1,2,3,4,5,6,7] [] [] [(0,Pt b 0),(1,I (kn1:Int)),(6,Bo ((Jcn kn1 t).1)),(8,Bo ((Jep kn1 t).1))] (List.forall_mem_nil _) ?_
 refine Jct (fr':=[(0,Pt b 0),(1,I (kn1:Int)),(6,Bo ((W1 (K4 t (kn1:Int))).1)),(8,Bo ((W1 ((Kp (K4 t (kn1:Int)) t.town.clerk.now).1)).1))]) (L':=([Sg b2 0 [I (((Kp (K4 t (kn1:Int)) t.town.clerk.now).1).least),I (((Kp (K4 t (kn1:Int)) t.town.clerk.now).1).most),I (((Kp (K4 t (kn1:Int)) t.town.clerk.now).1).lost),I (((Kp (K4 t (kn1:Int)) t.town.clerk.now).1).gap),I (((Kp (K4 t (kn1:Int)) t.town.clerk.now).1).next),I (((Kp (K4 t (kn1:Int)) t.town.clerk.now).1).asked)]]::[Sg b 0 [I t.town.clerk.queue.most,Sl a_1 t.town.clerk.queue.wait.length c_1,I t.town.clerk.batch,I t.town.clerk.every,I t.town.clerk.now,Sl a_5 t.town.clerk.heads.length c_5,Sl a_6 t.town.clerk.books.length c_6,Sl a_7 t.town.owners.length c_7,Sl a_8 ((t.town.polls.set kn1 ((Kp (K4 t (kn1:Int)) t.town.clerk.now).1)).length) c_8,I t.town.net.now,Sl a_10 t.town.net.way.length c_10,I t.reach,Sl a_12 t.fates.length c_12,Sl a_13 t.events.length c_13]]::r_7::r1::r_12::r_13::Lr)) (by rfl) (by (simp only [Kt,Zu,JR,WD,e2];first | done | rfl)) ?_
 refine Ja (Je (Jb ?_))
 refine Jc [0,0,0,0,0,0,4,0] [(0,Pt b 0),(1,I (kn1:Int)),(6,Bo ((Jcn kn1 t).1)),(8,Bo ((Jep kn1 t).1)),(55,Pt b 0),(56,I (kn1:Int)),(61,Sl a_7 t.town.owners.length c_7),(62,I (kn1:Int))] ?_
 have hx2:(t.town.owners)[kn1]? = some (Jp t (kn1:Int)):=Z4 (by omega)
 obtain ⟨b3,o2,_,_,⟨a1,c1,rfl,_,_,_,_,_,_,_,_⟩,ha2,hre2,hc2⟩:=J8.ix h_7 hx2
 refine Qq (b:=b3) (off:=o2) (len:=t.town.owners.length) (cap:=c_7) (ik:=.i64) 63 52 8 kn1 ha2 (by omega) ?_
 refine Jc [0,0] [(0,Pt b 0),(1,I (kn1:Int)),(6,Bo ((Jcn kn1 t).1)),(8,Bo ((Jep kn1 t).1)),(55,Pt b 0),(56,I (kn1:Int)),(65,Pt b3 (o2+kn1*8+2))] ?_
 refine WL (off:=o2) (p:=kn1*8) (cs:=(Kt (Jp t (kn1:Int)) a1 c1)) 66 2 2 2 (I ((Jp t (kn1:Int)).head.epoch)) hre2 hc2 ?_
 refine Jc [0,0] [(0,Pt b 0),(1,I (kn1:Int)),(6,Bo ((Jcn kn1 t).1)),(8,Bo ((Jep kn1 t).1)),(55,Pt b 0),(68,.agg #[I (-1),I (kn1:Int),I (IntKind.i64.wrap (((Jp t (kn1:Int)).head.epoch)+1)),I 0,Sl none 0 0,I 0,U 0,U 0,I 0,Sr ([]),Sl none 0 0,Sl none 0 0])] ?_
 have e3:IntKind.i64.wrap (((Jp t (kn1:Int)).head.epoch)+1)=((Jp t (kn1:Int)).head.epoch)+1:=IntWalk.i64_in _ (by (have q_:=hep kn1 _ (Z4 (by omega));omega))
 refine J2 (fr':=[(0,Pt b 0),(1,I (kn1:Int)),(6,Bo ((W1 (K4 t (kn1:Int))).1)),(8,Bo ((W1 ((Kp (K4 t (kn1:Int)) t.town.clerk.now).1)).1)),(55,Pt b 0),(68,.agg #[I (-1),I (kn1:Int),I (((Jp t (kn1:Int)).head.epoch)+1),I 0,Sl none 0 0,I 0,U 0,U 0,I 0,Sr ([]),Sl none 0 0,Sl none 0 0])]) (L':=([Sg b2 0 [I (((Kp (K4 t (kn1:Int)) t.town.clerk.now).1).least),I (((Kp (K4 t (kn1:Int)) t.town.clerk.now).1).most),I (((Kp (K4 t (kn1:Int)) t.town.clerk.now).1).lost),I (((Kp (K4 t (kn1:Int)) t.town.clerk.now).1).gap),I (((Kp (K4 t (kn1:Int)) t.town.clerk.now).1).next),I (((Kp (K4 t (kn1:Int)) t.town.clerk.now).1).asked)]]::[Sg b 0 [I t.town.clerk.queue.most,Sl a_1 t.town.clerk.queue.wait.length c_1,I t.town.clerk.batch,I t.town.clerk.every,I t.town.clerk.now,Sl a_5 t.town.clerk.heads.length c_5,Sl a_6 t.town.clerk.books.length c_6,Sl a_7 t.town.owners.length c_7,Sl a_8 ((t.town.polls.set kn1 ((Kp (K4 t (kn1:Int)) t.town.clerk.now).1)).length) c_8,I t.town.net.now,Sl a_10 t.town.net.way.length c_10,I t.reach,Sl a_12 t.fates.length c_12,Sl a_13 t.events.length c_13]]::r_7::r1::r_12::r_13::Lr)) (by simp only [Kt,Zu,JR,WD,e3];first | done | rfl) (by rfl) ?_
 clear e3
 refine JF 5 ?_
 refine JF 5 ?_
 refine JF 5 ?_
 refine JF 5 ?_
 refine JF 5 ?_
 refine Qk (Ls:=[[Sg b 0 (JR (⟨(⟨t.town.clerk,t.town.owners,(t.town.polls.set kn1 ((Z9 kn1 t).1)),t.town.net⟩:QN),t.reach,t.fates,t.events⟩:JG) a_1 c_1 a_5 c_5 a_6 c_6 a_7 c_7 a_8 c_8 a_10 c_10 a_12 c_12 a_13 c_13)],r_7,r1,r_12,r_13]) (Lr:=([Sg b2 0 (Zu (Z9 kn1 t).1)]::Lr)) 69 (JeS G b (⟨(⟨t.town.clerk,t.town.owners,t.town.polls.set kn1 ((Z9 kn1 t).1),t.town.net⟩:QN),t.reach,t.fates,t.events⟩:JG) a_1 c_1 a_5 c_5 a_6 c_6 a_7 c_7 a_8 c_8 a_10 c_10 a_12 c_12 a_13 c_13 r_7 r1 r_12 r_13 ‹_› h_1 ‹_› ‹_› ‹_› h_5 h_6 h_7 hr1 ‹_› h_10 ‹_› h_12 h_13 [I (-1),I (kn1:Int),I (((Jp t (kn1:Int)).head.epoch)+1),I 0,Sl none 0 0,I 0,U 0,U 0,I 0,Sr ([]),Sl none 0 0,Sl none 0 0] (⟨(-1),(kn1:Int),((Jp t (kn1:Int)).head.epoch)+1,0,[],(⟨(⟨0,0,0,0⟩:JU),(⟨[],[],[]⟩:WF)⟩:Wv)⟩:JV) (⟨none,0,none,0,none,0,rfl,(by (dsimp only;omega)),(by (dsimp only;omega)),(by (dsimp only;(have q_:=hep kn1 _ (Z4 (by omega));omega))),(by (dsimp only;omega)),(RS.nil' KA G),(by (dsimp only;omega)),(by (dsimp only;omega)),(by (dsimp only;omega)),(by (dsimp only;omega)),(Nat.le_of_ble_eq_true rfl),(RS.nil' Qj G),(RS.nil' EU G)⟩)) (fun v G1 L1 hl1 hp=>?_)
 obtain ⟨a2,c2,a3,c3,a4,c4,a5,c5,a6,c6,a7,c7,a8,c8,a9,c9,r2,r3,r4,r5,rfl,w14,hs2,w15,w16,w17,hs3,hs4,hr2,hr3,w18,hs5,w19,hr4,hr5,rfl⟩:=hp
 refine Jd (Ja (Je (Jb ?_)))
 refine Jc [0,0] [(0,Pt b 0),(1,I (kn1:Int)),(6,Bo ((Jcn kn1 t).1)),(71,Bo ((Jep kn1 t).1))] ?_
 refine Ky ((Jep kn1 t).1) (fun bb=>[(0,Pt b 0),(1,I (kn1:Int)),(6,Bo ((Jcn kn1 t).1)),(71,Bo bb)]) [0,0,0] [1,1,0] (fun bb=>[(0,Pt b 0),(1,I (kn1:Int)),(74,Bo (bb && (!((Jcn kn1 t).1))))]) ?_
 refine Jd (Ja ?_)
 refine Jo (((Jep kn1 t).1) && (!((Jcn kn1 t).1))) (fun h2=>?_) (fun h2=>?_)
 try simp only [BB] at h2
 refine Jb ?_
 refine Jc [0,0,0,0,0,0,0,2] [(75,Pt b 0),(76,I (kn1:Int)),(82,I ((Jeo kn1 t).town.clerk.now))] ?_
 refine JF 4 ?_
 refine JF 4 ?_
 refine JF 4 ?_
 refine JF 4 ?_
 refine JF 4 ?_
 refine Qk (Ls:=[[Sg b 0 (JR (Jeo kn1 t) a2 c2 a3 c3 a4 c4 a5 c5 a6 c6 a7 c7 a8 c8 a9 c9)],r2,r3,r4,r5]) (Lr:=([Sg b2 0 (Zu (Z9 kn1 t).1)]::Lr)) 83 (Jcm G1 b (Jeo kn1 t) a2 c2 a3 c3 a4 c4 a5 c5 a6 c6 a7 c7 a8 c8 a9 c9 r2 r3 r4 r5 w14 hs2 w15 w16 w17 hs3 hs4 hr2 hr3 w18 hs5 w19 hr4 hr5 3 (by omega) (kn1:Int) (by omega) 0 (by omega) ((Jeo kn1 t).town.clerk.now) w17 ‹_›) (fun v G2 L1 hl2 hp=>?_)
 obtain ⟨a10,c10,a11,c11,a12,c12,a13,c13,a14,c14,a15,c15,a16,c16,a17,c17,r6,r7,r8,r9,rfl,w20,hs6,w21,w22,w23,hs7,hs8,hr6,hr7,w24,hs9,w25,hr8,hr9,rfl⟩:=hp
 refine Jd ?_
 refine Jj 4 ?_
 refine Jj 4 ?_
 refine Jj 4 ?_
 refine Jj 4 ?_
 refine Jj 4 ?_
 have hf2:Wq t k=(QH (Jeo kn1 t) 3 (kn1:Int) 0 ((Jeo kn1 t).town.clerk.now)):=by
  rw [show k=(kn1:Int) by assumption];exact tAsk1 ‹_› ‹_›
 refine Zj [] [] (QW (Lr:=Lr) [[Sg b 0 (JR (QH (Jeo kn1 t) 3 (kn1:Int) 0 ((Jeo kn1 t).town.clerk.now)) a10 c10 a11 c11 a12 c12 a13 c13 a14 c14 a15 c15 a16 c16 a17 c17)],r6,r7,r8,r9] (.cons_cons _ (.cons_cons _ (.cons_cons _ (.cons_cons _ (.cons_cons _ (.cons _ (List.Sublist.refl _))))))) (Jt.le_trans hl1 hl2) ?_)
 rw [hf2];try dsimp only
 exact ⟨a10,c10,a11,c11,a12,c12,a13,c13,a14,c14,a15,c15,a16,c16,a17,c17,r6,r7,r8,r9,rfl,w20,hs6,w21,w22,w23,hs7,hs8,hr6,hr7,w24,hs9,w25,hr8,hr9,rfl⟩
 try simp only [BB] at h2
 refine Jm ?_
 refine Jj 4 ?_
 refine Jj 4 ?_
 refine Jj 4 ?_
 refine Jj 4 ?_
 refine Jj 4 ?_
 have hf3:Wq t k=(Jeo kn1 t):=by
  rw [show k=(kn1:Int) by assumption];exact tAsk2 ‹_› ‹_›
 refine Zj [] [] (QW (Lr:=Lr) [[Sg b 0 (JR (Jeo kn1 t) a2 c2 a3 c3 a4 c4 a5 c5 a6 c6 a7 c7 a8 c8 a9 c9)],r2,r3,r4,r5] (.cons_cons _ (.cons_cons _ (.cons_cons _ (.cons_cons _ (.cons_cons _ (.cons _ (List.Sublist.refl _))))))) hl1 ?_)
 rw [hf3];try dsimp only
 exact ⟨a2,c2,a3,c3,a4,c4,a5,c5,a6,c6,a7,c7,a8,c8,a9,c9,r2,r3,r4,r5,rfl,w14,hs2,w15,w16,w17,hs3,hs4,hr2,hr3,w18,hs5,w19,hr4,hr5,rfl⟩
end Go.Proofs.YtnnlpbjdignhaaaGreatDoor
