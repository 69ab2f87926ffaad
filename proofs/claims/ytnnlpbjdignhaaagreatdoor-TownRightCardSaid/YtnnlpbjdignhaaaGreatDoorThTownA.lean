import Derived.Test.YtnnlpbjdignhaaaGreatDoorThTown
namespace Go.Proofs.YtnnlpbjdignhaaaGreatDoor
open Go.Tx
set_option linter.unusedVariables false
set_option linter.unusedSimpArgs false
open Go.Tx Go.Proofs
theorem JgJ {t:JF} {l:JV} (h:t.town.clerk.heads.length ≤ 9000000000000000000) (hr:1 ≤ t.reach ∧ t.reach ≤ 40):0 ≤ Jch t l ∧ Jch t l ≤ 9000000000000000000 ∧ -1 ≤ Jea t l ∧ Jea t l ≤ 9000000000000000000 ∧ -1 ≤ Jcx t ∧ Jcx t ≤ 9000000000000000000:=by
 unfold Jea Jch Jcx minI maxI
 (repeat' split) <;> omega
structure JkL (p:JbJ):Prop where
 least:-9223372036854775808 ≤ p.least ∧ p.least < 9223372036854775808
 most:-9223372036854775808 ≤ p.most ∧ p.most < 9223372036854775808
 lost:-9223372036854775808 ≤ p.lost ∧ p.lost < 9223372036854775808
 gap:-9223372036854775808 ≤ p.gap ∧ p.gap < 9223372036854775808
 next:-9223372036854775808 ≤ p.next ∧ p.next < 9223372036854775808
 asked:-9223372036854775808 ≤ p.asked ∧ p.asked < 9223372036854775808
theorem JkL.ok {p:JbJ} (h:Jen p):JkL p:=by
 unfold Jen at h
 refine ⟨?_,?_,?_,?_,?_,?_⟩ <;> omega
theorem Jlw:JkL JeE:=⟨by decide,by decide,by decide,by decide,by decide,by decide⟩
theorem JeY (p:JbJ) (now:Int):JkL (Jaq p now).1:=by
 by_cases h:(Jaq p now).2 = 0
 ·
  exact .ok ((JcY _).1 (JiB h).2.2.2.2.2.2.2.2.2.2.2.2.2.2.1)
 ·
  rw [Jlt h];exact Jlw
theorem JgK (p:JbJ) (now:Int):JkL (JbI p now).1:=by
 by_cases h:(JbI p now).2 = 0
 ·
  obtain ⟨q,_⟩:=Jlu h
  obtain ⟨q1,q2,q3⟩:=(Jhf p now).1 q
  exact .ok ((JcY _).1 (JiH ((JcY _).2 q1) q2 q3))
 ·
  have e:(JbI p now).1 = JeE:=by revert h;unfold JbI;split <;> simp
  rw [e];exact Jlw
theorem JqS {t:JF} {l:JV} (h:Jcw t l.from_ = false):JaG t l = t:=by unfold JaG;rw [if_pos h]
theorem JqT {t:JF} {l:JV} (h:Jcw t l.from_ = true):JaG t l = JbS t ⟨l.from_,0,0,0,(Jc2 t.town.clerk (Jch t l) (Jea t l)).1,(JbB t.town.clerk (Jp t l.from_).name (Jea t l)).1⟩:=by unfold JaG;rw [if_neg (by rw [h];simp)]
theorem JqU {t:JF} {l:JV} {k:Int} (e:l.from_ = k) (h:Jcw t l.from_ = true):JaG t l = JbS t ⟨k,0,0,0,(Jc2 t.town.clerk (Jch t l) (Jea t l)).1,(JbB t.town.clerk (Jp t k).name (Jea t l)).1⟩:=by subst e;exact JqT h
theorem Jol {t:JF} {l:JV} {k:Nat} (e:l.to_ = (k:Int)):JcC t l = ⟨⟨t.town.clerk,t.town.owners.set k (Jz (Jp t (k:Int)) l.heads l.reply).1,if (Jz (Jp t (k:Int)) l.heads l.reply).2.1 = 0 ∨ (Jz (Jp t (k:Int)) l.heads l.reply).2.1 = 1 then t.town.polls.set k (JbI (Ja2 t (k:Int)) t.town.clerk.now).1 else t.town.polls,t.town.net⟩,t.reach,t.fates,t.events ++ [⟨2,(k:Int),(Jz (Jp t (k:Int)) l.heads l.reply).2.1,(Jz (Jp t (k:Int)) l.heads l.reply).1.head.epoch⟩]⟩:=by
 unfold JcC;rw [e];rfl
theorem tAsk0 {t:JF} {k:Int} (h:¬ (Jaq (Ja2 t k) t.town.clerk.now).2 = 0):Jcn t k = t:=by unfold Jcn;rw [if_pos h]
theorem tAsk1 {t:JF} {k:Int} (h:(Jaq (Ja2 t k) t.town.clerk.now).2 = 0) (h1:(JcZ (Jaq (Ja2 t k) t.town.clerk.now).1).1 = true ∧ (JcZ (Ja2 t k)).1 = false):Jcn t k = JbF (JfM t k) 3 k 0 t.town.clerk.now:=by
 have h2:JfL (Jaq (Ja2 t k) t.town.clerk.now).1 = true ∧ JfL (Ja2 t k) = false:=h1
 unfold Jcn;rw [if_neg (by simpa using h),if_pos h2]
theorem tAsk2 {t:JF} {k:Int} (h:(Jaq (Ja2 t k) t.town.clerk.now).2 = 0) (h1:(JcZ (Jaq (Ja2 t k) t.town.clerk.now).1).1 = true → (JcZ (Ja2 t k)).1 = true):Jcn t k = JfM t k:=by
 unfold Jcn;rw [if_neg (by simpa using h),if_neg]
 rintro ⟨q1,q2⟩
 have:=h1 q1
 have e:JfL (Ja2 t k) = true:=this
 rw [e] at q2;cases q2
theorem Jrt (o:JaX) (l:List JS) (r:Jct):-9223372036854775808 ≤ (Jz o l r).2.1 ∧ (Jz o l r).2.1 < 9223372036854775808:=by
 have hv:0 ≤ (JR o l r).1 ∧ (JR o l r).1 ≤ 6:=by
  unfold JR JaQ
  (repeat' split) <;> simp_all <;> omega
 unfold Jz
 (repeat' split) <;> simp only <;> omega
set_option maxRecDepth 20000 in
abbrev Jec (kn1:Nat) (l:JV) (t:JF):=JbB t.town.clerk ((Jp t (kn1:Int)).name) (Jea t l)
abbrev JmF (kn1:Nat) (l:JV):=(⟨l.to_,(kn1:Int),l.since,l.due,l.heads,l.reply⟩:JV)
abbrev Jkg (l:JV) (t:JF):=Jc2 t.town.clerk (Jch t l) (Jea t l)
theorem JmG (G:Jt) (b:Nat) (t:JF) (a_1:Option Addr) (c_1:Nat) (a_5:Option Addr) (c_5:Nat) (a_6:Option Addr) (c_6:Nat) (a_7:Option Addr) (c_7:Nat) (a_8:Option Addr) (c_8:Nat) (a_10:Option Addr) (c_10:Nat) (a_12:Option Addr) (c_12:Nat) (a_13:Option Addr) (c_13:Nat) (r_7:List Seg) (r_8:List Seg) (r_12:List Seg) (r_13:List Seg) (h_0:rI t.town.clerk.queue.most) (h_1:RS JbL G a_1 c_1 t.town.clerk.queue.wait) (h_2:rI t.town.clerk.batch) (h_3:rI t.town.clerk.every) (h_4:rI t.town.clerk.now) (h_5:RS Jaz G a_5 c_5 t.town.clerk.heads) (h_6:RS Jbd G a_6 c_6 t.town.clerk.books) (h_7:J8 JbG G a_7 c_7 t.town.owners r_7) (h_8:J8 Jcf G a_8 c_8 t.town.polls r_8) (h_9:rI t.town.net.now) (h_10:RS Jaj G a_10 c_10 t.town.net.way) (h_11:rI t.reach) (h_12:J8 JeD G a_12 c_12 t.fates r_12) (h_13:J8 Jb4 G a_13 c_13 t.events r_13) (vs_l:List Value) (l:JV) (h_l:Jaj.R G vs_l l) (hreach:1 ≤ t.reach ∧ t.reach ≤ 40):Jgi Tryz.prog 115 #[Pt b 0,.agg vs_l.toArray] G [[Sg b 0 [I t.town.clerk.queue.most,Sl a_1 t.town.clerk.queue.wait.length c_1,I t.town.clerk.batch,I t.town.clerk.every,I t.town.clerk.now,Sl a_5 t.town.clerk.heads.length c_5,Sl a_6 t.town.clerk.books.length c_6,Sl a_7 t.town.owners.length c_7,Sl a_8 t.town.polls.length c_8,I t.town.net.now,Sl a_10 t.town.net.way.length c_10,I t.reach,Sl a_12 t.fates.length c_12,Sl a_13 t.events.length c_13]],r_7,r_8,r_12,r_13] (fun u G' L'=>∃ (a_z1:Option Addr) (c_z1:Nat) (a_z5:Option Addr) (c_z5:Nat) (a_z6:Option Addr) (c_z6:Nat) (a_z7:Option Addr) (c_z7:Nat) (a_z8:Option Addr) (c_z8:Nat) (a_z10:Option Addr) (c_z10:Nat) (a_z12:Option Addr) (c_z12:Nat) (a_z13:Option Addr) (c_z13:Nat) (r_z7:List Seg) (r_z8:List Seg) (r_z12:List Seg) (r_z13:List Seg),u = .tuple #[] ∧ (rI ((JaG t l).town.clerk.queue.most)) ∧ (RS JbL G' a_z1 c_z1 ((JaG t l).town.clerk.queue.wait)) ∧ (rI ((JaG t l).town.clerk.batch)) ∧ (rI ((JaG t l).town.clerk.every)) ∧ (rI ((JaG t l).town.clerk.now)) ∧ (RS Jaz G' a_z5 c_z5 ((JaG t l).town.clerk.heads)) ∧ (RS Jbd G' a_z6 c_z6 ((JaG t l).town.clerk.books)) ∧ (J8 JbG G' a_z7 c_z7 ((JaG t l).town.owners) r_z7) ∧ (J8 Jcf G' a_z8 c_z8 ((JaG t l).town.polls) r_z8) ∧ (rI ((JaG t l).town.net.now)) ∧ (RS Jaj G' a_z10 c_z10 ((JaG t l).town.net.way)) ∧ (rI ((JaG t l).reach)) ∧ (J8 JeD G' a_z12 c_z12 ((JaG t l).fates) r_z12) ∧ (J8 Jb4 G' a_z13 c_z13 ((JaG t l).events) r_z13) ∧ L' = [[Sg b 0 [I ((JaG t l).town.clerk.queue.most),Sl a_z1 (((JaG t l).town.clerk.queue.wait).length) c_z1,I ((JaG t l).town.clerk.batch),I ((JaG t l).town.clerk.every),I ((JaG t l).town.clerk.now),Sl a_z5 (((JaG t l).town.clerk.heads).length) c_z5,Sl a_z6 (((JaG t l).town.clerk.books).length) c_z6,Sl a_z7 (((JaG t l).town.owners).length) c_z7,Sl a_z8 (((JaG t l).town.polls).length) c_z8,I ((JaG t l).town.net.now),Sl a_z10 (((JaG t l).town.net.way).length) c_z10,I ((JaG t l).reach),Sl a_z12 (((JaG t l).fates).length) c_z12,Sl a_z13 (((JaG t l).events).length) c_z13]],r_z7,r_z8,r_z12,r_z13]):=by
 obtain ⟨a1,c1,a2,c2,a3,c3,rfl,_,_,_,_,_,_,_,_,_,_,_,_⟩:=h_l
 intro Lr
 refine JL Tryz.func115 76 [(0,Pt b 0),(1,(JaV l a1 c1 a2 c2 a3 c3))] rfl (fun w0 G0=>?_)
 show TC _ _ _ _ _ ([Sg b 0 (JQ t a_1 c_1 a_5 c_5 a_6 c_6 a_7 c_7 a_8 c_8 a_10 c_10 a_12 c_12 a_13 c_13)] :: r_7 :: r_8 :: r_12 :: r_13 :: Lr)
 refine Je (Jb ?_)
 refine Ju 3 #[I l.to_,I l.from_,I l.since,I l.due,Sl a1 l.heads.length c1,I l.reply.head.epoch,U l.reply.head.root,U l.reply.head.prev,I l.reply.head.at_,Sr l.reply.proof.name,Sl a2 l.reply.proof.entries.length c2,Sl a3 l.reply.proof.sides.length c3] 72 (fun b1=>?_)
 refine Jc (Ja (Je (Je (Jb ?_))))
 refine Jd [0,0,2] [(0,Pt b 0),(3,Pt b1 0),(11,Pt b 0),(13,I l.from_)] ?_
 refine JE 5 ?_
 refine JE 5 ?_
 refine JE 5 ?_
 refine JE 5 ?_
 refine JE 5 ?_
 refine Jbi (Ls:=[[Sg b 0 (JQ t a_1 c_1 a_5 c_5 a_6 c_6 a_7 c_7 a_8 c_8 a_10 c_10 a_12 c_12 a_13 c_13)],r_7,r_8,r_12,r_13]) (Lr:=([Sg b1 0 (J3 l a1 c1 a2 c2 a3 c3)] :: Lr)) 14 (Jgy G b t a_1 c_1 a_5 c_5 a_6 c_6 a_7 c_7 a_8 c_8 a_10 c_10 a_12 c_12 a_13 c_13 r_7 r_8 r_12 r_13 h_0 h_1 h_2 h_3 h_4 h_5 h_6 h_7 h_8 h_9 h_10 h_11 h_12 h_13 l.from_) (fun v G1 L1 hl1 hp=>?_)
 obtain ⟨a4,c4,a5,c5,a6,c6,a7,c7,a8,c8,a9,c9,a10,c10,a11,c11,r1,r2,r3,r4,rfl,w10,hs4,w11,w12,w13,hs5,hs6,hr1,hr2,w14,hs7,w15,hr3,hr4,rfl⟩:=hp
 refine Jd [0] [(0,Pt b 0),(3,Pt b1 0),(15,Bo (!(Jcw t l.from_)))] (Jc (Ja ?_))
 refine Jo (!(Jcw t l.from_)) (fun h1=>?_) (fun h1=>?_)
 try simp only [BB] at h1
 refine Jk (Jh ?_)
 refine Jj 4 ?_
 refine Jj 4 ?_
 refine Jj 4 ?_
 refine Jj 4 ?_
 refine Jj 4 ?_
 have hf1:JaG t l = t:=by
  exact JqS ‹_›
 refine Jl [] [] (JbU (Lr:=Lr) [[Sg b 0 (JQ t a4 c4 a5 c5 a6 c6 a7 c7 a8 c8 a9 c9 a10 c10 a11 c11)],r1,r2,r3,r4] (.cons_cons _ (.cons_cons _ (.cons_cons _ (.cons_cons _ (.cons_cons _ (.cons _ (List.Sublist.refl _))))))) hl1 ?_)
 rw [hf1];try dsimp only
 exact ⟨a4,c4,a5,c5,a6,c6,a7,c7,a8,c8,a9,c9,a10,c10,a11,c11,r1,r2,r3,r4,rfl,w10,hs4,w11,w12,w13,hs5,hs6,hr1,hr2,w14,hs7,w15,hr3,hr4,rfl⟩
 try simp only [BB] at h1
 refine Jn (Ja ?_)
 have hown:=Jfs.1 (show Jcw t l.from_ = true by assumption)
 obtain ⟨kn1,hkn1⟩:∃ k_:Nat,l.from_ = (k_:Int):=⟨(l.from_).toNat,by omega⟩
 have e1:l.from_ = (kn1:Int):=hkn1
 refine JaJ (fr':=[(0,Pt b 0),(3,Pt b1 0),(15,Bo (!(Jcw t l.from_)))]) (L':=([Sg b 0 [I t.town.clerk.queue.most,Sl a4 t.town.clerk.queue.wait.length c4,I t.town.clerk.batch,I t.town.clerk.every,I t.town.clerk.now,Sl a5 t.town.clerk.heads.length c5,Sl a6 t.town.clerk.books.length c6,Sl a7 t.town.owners.length c7,Sl a8 t.town.polls.length c8,I t.town.net.now,Sl a9 t.town.net.way.length c9,I t.reach,Sl a10 t.fates.length c10,Sl a11 t.events.length c11]] :: r1 :: r2 :: r3 :: r4 :: [Sg b1 0 [I l.to_,I (kn1:Int),I l.since,I l.due,Sl a1 l.heads.length c1,I l.reply.head.epoch,U l.reply.head.root,U l.reply.head.prev,I l.reply.head.at_,Sr l.reply.proof.name,Sl a2 l.reply.proof.entries.length c2,Sl a3 l.reply.proof.sides.length c3]] :: Lr)) (by rfl) (by (simp only [Jal,J3,Jap,JcK,JQ,JaL,JaV,Jcp,e1];first | done | rfl)) ?_
 refine Jg [0,0,0,0,0,2,0,0,0] [(0,Pt b 0),(3,Pt b1 0),(4,I (IntKind.i64.wrap ((t.town.clerk.heads.length:Int) - 1)))] ?_
 have e2:IntKind.i64.wrap ((t.town.clerk.heads.length:Int) - 1) = (t.town.clerk.heads.length:Int) - 1:=IntWalk.i64_in _ (by (have q_:=(JgJ (l:=l) (by have q_:=h_5.fit;simp only [Jaz] at q_;omega) hreach);have q2_:=h_5.fit;simp only [Jaz] at q2_;omega))
 refine JaJ (fr':=[(0,Pt b 0),(3,Pt b1 0),(4,I ((t.town.clerk.heads.length:Int) - 1))]) (L':=([Sg b 0 [I t.town.clerk.queue.most,Sl a4 t.town.clerk.queue.wait.length c4,I t.town.clerk.batch,I t.town.clerk.every,I t.town.clerk.now,Sl a5 t.town.clerk.heads.length c5,Sl a6 t.town.clerk.books.length c6,Sl a7 t.town.owners.length c7,Sl a8 t.town.polls.length c8,I t.town.net.now,Sl a9 t.town.net.way.length c9,I t.reach,Sl a10 t.fates.length c10,Sl a11 t.events.length c11]] :: r1 :: r2 :: r3 :: r4 :: [Sg b1 0 [I l.to_,I (kn1:Int),I l.since,I l.due,Sl a1 l.heads.length c1,I l.reply.head.epoch,U l.reply.head.root,U l.reply.head.prev,I l.reply.head.at_,Sr l.reply.proof.name,Sl a2 l.reply.proof.entries.length c2,Sl a3 l.reply.proof.sides.length c3]] :: Lr)) (by simp only [Jal,J3,Jap,JcK,JQ,JaL,JaV,Jcp,e2];first | done | rfl) (by rfl) ?_
 clear e2
 have e3:(t.town.clerk.heads.length:Int) - 1 = Jcx t:=rfl
 refine JaJ (fr':=[(0,Pt b 0),(3,Pt b1 0),(4,I (Jcx t))]) (L':=([Sg b 0 (JQ t a4 c4 a5 c5 a6 c6 a7 c7 a8 c8 a9 c9 a10 c10 a11 c11)] :: r1 :: r2 :: r3 :: r4 :: [Sg b1 0 (J3 (JmF kn1 l) a1 c1 a2 c2 a3 c3)] :: Lr)) (by rfl) (by rfl) ?_
 refine Jg [0,12,0,0,0,0] [(0,Pt b 0),(3,Pt b1 0),(4,I (Jcx t)),(5,I (if 0 > (if (Jcx t) < l.since then (Jcx t) else l.since) then 0 else (if (Jcx t) < l.since then (Jcx t) else l.since)))] ?_
 have e4:(if 0 > (if (Jcx t) < l.since then (Jcx t) else l.since) then 0 else (if (Jcx t) < l.since then (Jcx t) else l.since)) = Jch t l:=rfl
 refine JaJ (fr':=[(0,Pt b 0),(3,Pt b1 0),(4,I (Jcx t)),(5,I (Jch t l))]) (L':=([Sg b 0 (JQ t a4 c4 a5 c5 a6 c6 a7 c7 a8 c8 a9 c9 a10 c10 a11 c11)] :: r1 :: r2 :: r3 :: r4 :: [Sg b1 0 (J3 (JmF kn1 l) a1 c1 a2 c2 a3 c3)] :: Lr)) (by rfl) (by rfl) ?_
 refine Jg [0,0,0,0,2,0,0,0,0,0] [(0,Pt b 0),(3,Pt b1 0),(5,I (Jch t l)),(6,I (if (Jcx t) < (IntKind.i64.wrap ((IntKind.i64.wrap ((Jch t l) + t.reach)) - 1)) then (Jcx t) else (IntKind.i64.wrap ((IntKind.i64.wrap ((Jch t l) + t.reach)) - 1))))] ?_
 have e5:IntKind.i64.wrap ((Jch t l) + t.reach) = (Jch t l) + t.reach:=IntWalk.i64_in _ (by (have q_:=(JgJ (l:=l) (by have q_:=h_5.fit;simp only [Jaz] at q_;omega) hreach);have q2_:=h_5.fit;simp only [Jaz] at q2_;omega))
 have e6:IntKind.i64.wrap (((Jch t l) + t.reach) - 1) = ((Jch t l) + t.reach) - 1:=IntWalk.i64_in _ (by (have q_:=(JgJ (l:=l) (by have q_:=h_5.fit;simp only [Jaz] at q_;omega) hreach);have q2_:=h_5.fit;simp only [Jaz] at q2_;omega))
 refine JaJ (fr':=[(0,Pt b 0),(3,Pt b1 0),(5,I (Jch t l)),(6,I (if (Jcx t) < (((Jch t l) + t.reach) - 1) then (Jcx t) else (((Jch t l) + t.reach) - 1)))]) (L':=([Sg b 0 [I t.town.clerk.queue.most,Sl a4 t.town.clerk.queue.wait.length c4,I t.town.clerk.batch,I t.town.clerk.every,I t.town.clerk.now,Sl a5 t.town.clerk.heads.length c5,Sl a6 t.town.clerk.books.length c6,Sl a7 t.town.owners.length c7,Sl a8 t.town.polls.length c8,I t.town.net.now,Sl a9 t.town.net.way.length c9,I t.reach,Sl a10 t.fates.length c10,Sl a11 t.events.length c11]] :: r1 :: r2 :: r3 :: r4 :: [Sg b1 0 [I l.to_,I (kn1:Int),I l.since,I l.due,Sl a1 l.heads.length c1,I l.reply.head.epoch,U l.reply.head.root,U l.reply.head.prev,I l.reply.head.at_,Sr l.reply.proof.name,Sl a2 l.reply.proof.entries.length c2,Sl a3 l.reply.proof.sides.length c3]] :: Lr)) (by simp only [Jal,J3,Jap,JcK,JQ,JaL,JaV,Jcp,e5,e6];first | done | rfl) (by rfl) ?_
 clear e6 e5
 have e7:(if (Jcx t) < (((Jch t l) + t.reach) - 1) then (Jcx t) else (((Jch t l) + t.reach) - 1)) = Jea t l:=rfl
 refine JaJ (fr':=[(0,Pt b 0),(3,Pt b1 0),(5,I (Jch t l)),(6,I (Jea t l))]) (L':=([Sg b 0 (JQ t a4 c4 a5 c5 a6 c6 a7 c7 a8 c8 a9 c9 a10 c10 a11 c11)] :: r1 :: r2 :: r3 :: r4 :: [Sg b1 0 (J3 (JmF kn1 l) a1 c1 a2 c2 a3 c3)] :: Lr)) (by rfl) (by rfl) ?_
 refine Je (Jb ?_)
 refine Jd [0,0,0,0,2,0,0] [(0,Pt b 0),(3,Pt b1 0),(6,I (Jea t l)),(43,(JaL t.town.clerk a4 c4 a5 c5 a6 c6)),(44,I (Jch t l)),(45,I (Jea t l))] ?_
 refine JN 46 (JjH G1 (Jal t.town.clerk a4 c4 a5 c5 a6 c6) t.town.clerk (⟨a4,c4,a5,c5,a6,c6,rfl,‹_›,hs4,‹_›,‹_›,‹_›,hs5,hs6⟩) (Jch t l) (by omega) (Jea t l) (by (have q_:=(JgJ (l:=l) (by have q_:=h_5.fit;simp only [Jaz] at q_;omega) hreach);omega))) (fun v G2 L1 hl2 hp=>?_)
 obtain ⟨a12,c12,rfl,hs8,rfl⟩:=hp
 refine Jd [0,0,0,0,0] [(0,Pt b 0),(3,Pt b1 0),(6,I (Jea t l)),(7,Sl a12 (((Jkg l t).1).length) c12)] (Jc (Ja ?_))
 refine Jfv (σ:=Nat × (Option Addr) × Nat × (Option Addr) × Nat × Jt) (fun q_=>(Jt.le G2 q_.2.2.2.2.2) ∧ (rI (((Jec kn1 l t).1).head.epoch)) ∧ (rU (((Jec kn1 l t).1).head.root)) ∧ (rU (((Jec kn1 l t).1).head.prev)) ∧ (rI (((Jec kn1 l t).1).head.at_)) ∧ ((((Jec kn1 l t).1).proof.name).length ≤ 140737488351232) ∧ (RS Jbh q_.2.2.2.2.2 q_.2.1 q_.2.2.1 (((Jec kn1 l t).1).proof.entries)) ∧ (RS EU q_.2.2.2.2.2 q_.2.2.2.1 q_.2.2.2.2.1 (((Jec kn1 l t).1).proof.sides))) (fun q_=>[(0,Pt b 0),(3,Pt b1 0),(7,Sl a12 (((Jkg l t).1).length) c12),(9,Pt q_.1 0)]) (fun q_=>q_.2.2.2.2.2) (fun q_=>([Sg q_.1 0 (JcK (Jec kn1 l t).1 q_.2.1 q_.2.2.1 q_.2.2.2.1 q_.2.2.2.2.1)] :: [Sg b 0 (JQ t a4 c4 a5 c5 a6 c6 a7 c7 a8 c8 a9 c9 a10 c10 a11 c11)] :: r1 :: r2 :: r3 :: r4 :: [Sg b1 0 (J3 (JmF kn1 l) a1 c1 a2 c2 a3 c3)] :: Lr)) ?_ (fun q_ hs=>?_)
 have hx1:(t.town.owners)[kn1]? = some (Jp t (kn1:Int)):=Jd5 (by omega)
 obtain ⟨b2,o1,_,_,⟨a13,c13,rfl,w16,_,_,_,_,_,_,_⟩,ha1,hre1,hc1⟩:=J8.ix (hr1.mono hl2) hx1
 refine Jau [16,20,21] ?_
 refine Jb6 [(0,Pt b 0),(1,Pt b 0),(2,Pt b 0),(3,Pt b 0),(4,(JaL t.town.clerk a4 c4 a5 c5 a6 c6)),(5,Pt b 0),(6,Pt b 0),(7,Pt b 0),(8,Pt b 7),(9,Sl a7 t.town.owners.length c7),(10,Pt b1 1),(11,I (kn1:Int)),(12,Pt b2 (o1 + kn1 * 8)),(13,Pt b2 (o1 + kn1 * 8)),(14,Sr ((Jp t (kn1:Int)).name)),(15,I (Jea t l))] ?_
 refine JZ [] [(0,0),(1,0),(2,0),(3,0),(4,2),(5,0),(6,0),(7,0),(8,0),(9,2),(10,0),(11,12),(13,0),(15,0)] [12,14] [16,20] (List.forall_mem_cons.2 ⟨?_,(List.forall_mem_cons.2 ⟨?_,List.forall_mem_nil _⟩)⟩) (List.forall_mem_cons.2 ⟨?_,(List.forall_mem_cons.2 ⟨?_,List.forall_mem_nil _⟩)⟩)
 refine Jq 12 62 (Pt b2 (o1 + kn1 * 8)) [(59,Sl a7 t.town.owners.length c7),(61,I (kn1:Int))] (fun X=>?_)
 exact Jbo (b:=b2) (off:=o1) (len:=t.town.owners.length) (cap:=c7) (ik:=.i64) 62 52 8 kn1 ha1 (by omega) Jm
 refine Jq 14 64 (Sr ((Jp t (kn1:Int)).name)) [(63,Pt b2 (o1 + kn1 * 8))] (fun X=>?_)
 exact JcJ (off:=o1) (p:=kn1 * 8) (cs:=(Jap (Jp t (kn1:Int)) a13 c13)) 64 9 1 0 (Sr ((Jp t (kn1:Int)).name)) hre1 hc1 Jm
 refine JP 16 [(54,(JaL t.town.clerk a4 c4 a5 c5 a6 c6)),(64,Sr ((Jp t (kn1:Int)).name)),(65,I (Jea t l))] (fun X=>?_)
 refine JN 66 (JgV G2 (Jal t.town.clerk a4 c4 a5 c5 a6 c6) t.town.clerk (⟨a4,c4,a5,c5,a6,c6,rfl,‹_›,(hs4.mono hl2),‹_›,‹_›,‹_›,(hs5.mono hl2),(hs6.mono hl2)⟩) ((Jp t (kn1:Int)).name) w16 (Jea t l) (by (have q_:=(JgJ (l:=l) (by have q_:=h_5.fit;simp only [Jaz] at q_;omega) hreach);omega))) (fun v G3 L1 hl3 hp=>?_)
 obtain ⟨a14,c14,a15,c15,rfl,w23,w24,w25,w26,w27,hs10,hs11,rfl⟩:=hp
 refine JU [(16,.tuple #[(Jcp (Jec kn1 l t).1 a14 c14 a15 c15),I ((Jec kn1 l t).2)]),(17,.tuple #[(Jcp (Jec kn1 l t).1 a14 c14 a15 c15),I ((Jec kn1 l t).2)]),(18,(Jcp (Jec kn1 l t).1 a14 c14 a15 c15)),(19,I ((Jec kn1 l t).2))] ?_
 refine JZ [0,1,2,3,4,5,6,7,8,9,10,11,12,13,14,15] [(17,0),(18,0),(19,0)] [] [20] (List.forall_mem_nil _) (List.forall_mem_cons.2 ⟨?_,List.forall_mem_nil _⟩)
 refine JP 20 [] (fun X=>?_)
 refine Ju 9 #[I 0,U 0,U 0,I 0,Sr ([]),Sl none 0 0,Sl none 0 0] 70 (fun b3=>?_)
 refine JU [(20,Pt b3 0)] ?_
 refine JZ [0,1,2,3,4,5,6,7,8,9,10,11,12,13,14,15] [(17,0),(18,0),(19,0)] [] [21] (List.forall_mem_nil _) (List.forall_mem_cons.2 ⟨?_,List.forall_mem_nil _⟩)
 refine JP 21 [(9,Pt b3 0),(67,(Jcp (Jec kn1 l t).1 a14 c14 a15 c15))] (fun X=>?_)
 refine JaU 0 ([Sg b3 0 (JcK (Jec kn1 l t).1 a14 c14 a15 c15)] :: [Sg b 0 (JQ t a4 c4 a5 c5 a6 c6 a7 c7 a8 c8 a9 c9 a10 c10 a11 c11)] :: r1 :: r2 :: r3 :: r4 :: [Sg b1 0 (J3 (JmF kn1 l) a1 c1 a2 c2 a3 c3)] :: Lr) ?_
 refine Jao [(22,I ((Jec kn1 l t).2))] ?_
 refine Jav [0,1,2,3,4,5,6,7,8,9,10,11,12,13,14,15,17,18] [(19,0),(22,0)] [] [(0,Pt b 0),(3,Pt b1 0),(7,Sl a12 (((Jkg l t).1).length) c12),(9,Pt b3 0)] (List.forall_mem_nil _) ?_
 exact JcH (b3,a14,c14,a15,c15,G3) ⟨hl3,w23,w24,w25,w26,w27,hs10,hs11⟩
 refine JP 20 [] (fun X=>?_)
 refine Ju 9 #[I 0,U 0,U 0,I 0,Sr ([]),Sl none 0 0,Sl none 0 0] 70 (fun b4=>?_)
 refine JU [(20,Pt b4 0)] ?_
 refine JZ [] [(0,0),(1,0),(2,0),(3,0),(4,4),(5,0),(6,0),(7,0),(8,0),(9,4),(10,0),(11,14),(13,0),(15,0)] [12,14] [16] (List.forall_mem_cons.2 ⟨?_,(List.forall_mem_cons.2 ⟨?_,List.forall_mem_nil _⟩)⟩) (List.forall_mem_cons.2 ⟨?_,List.forall_mem_nil _⟩)
 refine Jq 12 62 (Pt b2 (o1 + kn1 * 8)) [(59,Sl a7 t.town.owners.length c7),(61,I (kn1:Int))] (fun X=>?_)
 exact Jbo (b:=b2) (off:=o1) (len:=t.town.owners.length) (cap:=c7) (ik:=.i64) 62 52 8 kn1 ha1 (by omega) Jm
 refine Jq 14 64 (Sr ((Jp t (kn1:Int)).name)) [(63,Pt b2 (o1 + kn1 * 8))] (fun X=>?_)
 exact JcJ (off:=o1) (p:=kn1 * 8) (cs:=(Jap (Jp t (kn1:Int)) a13 c13)) 64 9 2 0 (Sr ((Jp t (kn1:Int)).name)) hre1 hc1 Jm
 refine JP 16 [(54,(JaL t.town.clerk a4 c4 a5 c5 a6 c6)),(64,Sr ((Jp t (kn1:Int)).name)),(65,I (Jea t l))] (fun X=>?_)
 refine JN 66 (JgV G2 (Jal t.town.clerk a4 c4 a5 c5 a6 c6) t.town.clerk (⟨a4,c4,a5,c5,a6,c6,rfl,‹_›,(hs4.mono hl2),‹_›,‹_›,‹_›,(hs5.mono hl2),(hs6.mono hl2)⟩) ((Jp t (kn1:Int)).name) w16 (Jea t l) (by (have q_:=(JgJ (l:=l) (by have q_:=h_5.fit;simp only [Jaz] at q_;omega) hreach);omega))) (fun v G4 L1 hl4 hp=>?_)
 obtain ⟨a16,c16,a17,c17,rfl,w28,w29,w30,w31,w32,hs12,hs13,rfl⟩:=hp
 refine JU [(16,.tuple #[(Jcp (Jec kn1 l t).1 a16 c16 a17 c17),I ((Jec kn1 l t).2)]),(17,.tuple #[(Jcp (Jec kn1 l t).1 a16 c16 a17 c17),I ((Jec kn1 l t).2)]),(18,(Jcp (Jec kn1 l t).1 a16 c16 a17 c17)),(19,I ((Jec kn1 l t).2))] ?_
 refine JZ [0,1,2,3,4,5,6,7,8,9,10,11,12,13,14,15] [(17,0),(18,0),(19,0)] [] [21] (List.forall_mem_nil _) (List.forall_mem_cons.2 ⟨?_,List.forall_mem_nil _⟩)
 refine JP 21 [(9,Pt b4 0),(67,(Jcp (Jec kn1 l t).1 a16 c16 a17 c17))] (fun X=>?_)
 refine JaU 0 ([Sg b4 0 (JcK (Jec kn1 l t).1 a16 c16 a17 c17)] :: [Sg b 0 (JQ t a4 c4 a5 c5 a6 c6 a7 c7 a8 c8 a9 c9 a10 c10 a11 c11)] :: r1 :: r2 :: r3 :: r4 :: [Sg b1 0 (J3 (JmF kn1 l) a1 c1 a2 c2 a3 c3)] :: Lr) ?_
 refine Jao [(22,I ((Jec kn1 l t).2))] ?_
 refine Jav [0,1,2,3,4,5,6,7,8,9,10,11,12,13,14,15,17,18] [(19,0),(22,0)] [] [(0,Pt b 0),(3,Pt b1 0),(7,Sl a12 (((Jkg l t).1).length) c12),(9,Pt b4 0)] (List.forall_mem_nil _) ?_
 exact JcH (b4,a16,c16,a17,c17,G4) ⟨hl4,w28,w29,w30,w31,w32,hs12,hs13⟩
 obtain ⟨b3,a14,c14,a15,c15,G3⟩:=q_
 obtain ⟨hle1,hj1,hj2,hj3,hj4,hj5,hj6,hj7⟩:=hs
 dsimp only at hle1 hj1 hj2 hj3 hj4 hj5 hj6 hj7
 refine JaJ (fr':=[(0,Pt b 0),(3,Pt b1 0),(7,Sl a12 (((Jkg l t).1).length) c12),(9,Pt b3 0)]) (L':=([Sg b3 0 (JcK (Jec kn1 l t).1 a14 c14 a15 c15)] :: [Sg b 0 (JQ t a4 c4 a5 c5 a6 c6 a7 c7 a8 c8 a9 c9 a10 c10 a11 c11)] :: r1 :: r2 :: r3 :: r4 :: [Sg b1 0 (J3 (JmF kn1 l) a1 c1 a2 c2 a3 c3)] :: Lr)) rfl rfl ?_
 refine Jb ?_
 refine Jd [0,0,14,0,2,0] [(69,Pt b 0),(74,(JaV (⟨(kn1:Int),0,0,0,(Jkg l t).1,(Jec kn1 l t).1⟩:JV) a12 c12 a14 c14 a15 c15))] ?_
 refine JE 5 ?_
 refine JE 5 ?_
 refine JE 5 ?_
 refine JE 5 ?_
 refine JE 5 ?_
 refine Jbi (Ls:=[[Sg b 0 (JQ t a4 c4 a5 c5 a6 c6 a7 c7 a8 c8 a9 c9 a10 c10 a11 c11)],r1,r2,r3,r4]) (Lr:=([Sg b3 0 (JcK (Jec kn1 l t).1 a14 c14 a15 c15)] :: [Sg b1 0 (J3 (JmF kn1 l) a1 c1 a2 c2 a3 c3)] :: Lr)) 75 (JkK G3 b t a4 c4 a5 c5 a6 c6 a7 c7 a8 c8 a9 c9 a10 c10 a11 c11 r1 r2 r3 r4 ‹_› (hs4.mono (Jt.le_trans hl2 hle1)) ‹_› ‹_› ‹_› (hs5.mono (Jt.le_trans hl2 hle1)) (hs6.mono (Jt.le_trans hl2 hle1)) (hr1.mono (Jt.le_trans hl2 hle1)) (hr2.mono (Jt.le_trans hl2 hle1)) ‹_› (hs7.mono (Jt.le_trans hl2 hle1)) ‹_› (hr3.mono (Jt.le_trans hl2 hle1)) (hr4.mono (Jt.le_trans hl2 hle1)) (J3 (⟨(kn1:Int),0,0,0,(Jkg l t).1,(Jec kn1 l t).1⟩:JV) a12 c12 a14 c14 a15 c15) (⟨(kn1:Int),0,0,0,(Jkg l t).1,((Jec kn1 l t).1)⟩:JV) (⟨a12,c12,a14,c14,a15,c15,rfl,(by (dsimp only;omega)),(by (dsimp only;omega)),(by (dsimp only;omega)),(by (dsimp only;omega)),(hs8.mono hle1),hj1,hj2,hj3,hj4,hj5,hj6,hj7⟩)) (fun v G5 L1 hl5 hp=>?_)
 obtain ⟨a18,c18,a19,c19,a20,c20,a21,c21,a22,c22,a23,c23,a24,c24,a25,c25,r5,r6,r7,r8,rfl,w33,hs14,w34,w35,w36,hs15,hs16,hr5,hr6,w37,hs17,w38,hr7,hr8,rfl⟩:=hp
 refine Jc ?_
 refine Jj 4 ?_
 refine Jj 4 ?_
 refine Jj 4 ?_
 refine Jj 4 ?_
 refine Jj 4 ?_
 have hf2:JaG t l = (JbS t (⟨(kn1:Int),0,0,0,(Jkg l t).1,((Jec kn1 l t).1)⟩:JV)):=by
  (rw [JqU ‹_› ‹_›];done)
 refine Jdl [] [] (JbU (Lr:=Lr) [[Sg b 0 (JQ (JbS t (⟨(kn1:Int),0,0,0,(Jkg l t).1,((Jec kn1 l t).1)⟩:JV)) a18 c18 a19 c19 a20 c20 a21 c21 a22 c22 a23 c23 a24 c24 a25 c25)],r5,r6,r7,r8] (.cons_cons _ (.cons_cons _ (.cons_cons _ (.cons_cons _ (.cons_cons _ (.cons _ (.cons _ (List.Sublist.refl _)))))))) (Jt.le_trans (Jt.le_trans (Jt.le_trans hl1 hl2) hle1) hl5) ?_)
 rw [hf2];try dsimp only
 exact ⟨a18,c18,a19,c19,a20,c20,a21,c21,a22,c22,a23,c23,a24,c24,a25,c25,r5,r6,r7,r8,rfl,w33,hs14,w34,w35,w36,hs15,hs16,hr5,hr6,w37,hs17,w38,hr7,hr8,rfl⟩
set_option maxRecDepth 20000 in
abbrev Jep (kn1:Nat) (l:JV) (t:JF):=JbF (⟨(⟨t.town.clerk,t.town.owners.set kn1 ((Jz (Jp t (kn1:Int)) l.heads l.reply).1),t.town.polls,t.town.net⟩:JbK),t.reach,t.fates,t.events⟩:JF) 2 (kn1:Int) ((Jz (Jp t (kn1:Int)) l.heads l.reply).2.1) (((Jz (Jp t (kn1:Int)) l.heads l.reply).1).head.epoch)
abbrev Jco (kn1:Nat) (l:JV) (t:JF):=Jz (Jp t (kn1:Int)) l.heads l.reply
abbrev JgA (kn1:Nat) (l:JV) (t:JF):=JbI (Ja2 (Jep kn1 l t) (kn1:Int)) ((Jep kn1 l t).town.clerk.now)
abbrev z6_3 (kn1:Nat) (l:JV):=(⟨(kn1:Int),l.from_,l.since,l.due,l.heads,l.reply⟩:JV)
abbrev JmH (kn1:Nat) (l:JV) (t:JF):=Ja2 (Jep kn1 l t) (kn1:Int)
theorem JqV (G:Jt) (b:Nat) (t:JF) (a_1:Option Addr) (c_1:Nat) (a_5:Option Addr) (c_5:Nat) (a_6:Option Addr) (c_6:Nat) (a_7:Option Addr) (c_7:Nat) (a_8:Option Addr) (c_8:Nat) (a_10:Option Addr) (c_10:Nat) (a_12:Option Addr) (c_12:Nat) (a_13:Option Addr) (c_13:Nat) (r_7:List Seg) (r_8:List Seg) (r_12:List Seg) (r_13:List Seg) (h_0:rI t.town.clerk.queue.most) (h_1:RS JbL G a_1 c_1 t.town.clerk.queue.wait) (h_2:rI t.town.clerk.batch) (h_3:rI t.town.clerk.every) (h_4:rI t.town.clerk.now) (h_5:RS Jaz G a_5 c_5 t.town.clerk.heads) (h_6:RS Jbd G a_6 c_6 t.town.clerk.books) (h_7:J8 JbG G a_7 c_7 t.town.owners r_7) (h_8:J8 Jcf G a_8 c_8 t.town.polls r_8) (h_9:rI t.town.net.now) (h_10:RS Jaj G a_10 c_10 t.town.net.way) (h_11:rI t.reach) (h_12:J8 JeD G a_12 c_12 t.fates r_12) (h_13:J8 Jb4 G a_13 c_13 t.events r_13) (vs_l:List Value) (l:JV) (h_l:Jaj.R G vs_l l) (hev:t.events.length ≤ 1000000) (hto:0 ≤ l.to_ ∧ l.to_ < t.town.owners.length) (hpl:t.town.polls.length = t.town.owners.length):Jgi Tryz.prog 116 #[Pt b 0,.agg vs_l.toArray] G [[Sg b 0 [I t.town.clerk.queue.most,Sl a_1 t.town.clerk.queue.wait.length c_1,I t.town.clerk.batch,I t.town.clerk.every,I t.town.clerk.now,Sl a_5 t.town.clerk.heads.length c_5,Sl a_6 t.town.clerk.books.length c_6,Sl a_7 t.town.owners.length c_7,Sl a_8 t.town.polls.length c_8,I t.town.net.now,Sl a_10 t.town.net.way.length c_10,I t.reach,Sl a_12 t.fates.length c_12,Sl a_13 t.events.length c_13]],r_7,r_8,r_12,r_13] (fun u G' L'=>∃ (a_z1:Option Addr) (c_z1:Nat) (a_z5:Option Addr) (c_z5:Nat) (a_z6:Option Addr) (c_z6:Nat) (a_z7:Option Addr) (c_z7:Nat) (a_z8:Option Addr) (c_z8:Nat) (a_z10:Option Addr) (c_z10:Nat) (a_z12:Option Addr) (c_z12:Nat) (a_z13:Option Addr) (c_z13:Nat) (r_z7:List Seg) (r_z8:List Seg) (r_z12:List Seg) (r_z13:List Seg),u = .tuple #[] ∧ (rI ((JcC t l).town.clerk.queue.most)) ∧ (RS JbL G' a_z1 c_z1 ((JcC t l).town.clerk.queue.wait)) ∧ (rI ((JcC t l).town.clerk.batch)) ∧ (rI ((JcC t l).town.clerk.every)) ∧ (rI ((JcC t l).town.clerk.now)) ∧ (RS Jaz G' a_z5 c_z5 ((JcC t l).town.clerk.heads)) ∧ (RS Jbd G' a_z6 c_z6 ((JcC t l).town.clerk.books)) ∧ (J8 JbG G' a_z7 c_z7 ((JcC t l).town.owners) r_z7) ∧ (J8 Jcf G' a_z8 c_z8 ((JcC t l).town.polls) r_z8) ∧ (rI ((JcC t l).town.net.now)) ∧ (RS Jaj G' a_z10 c_z10 ((JcC t l).town.net.way)) ∧ (rI ((JcC t l).reach)) ∧ (J8 JeD G' a_z12 c_z12 ((JcC t l).fates) r_z12) ∧ (J8 Jb4 G' a_z13 c_z13 ((JcC t l).events) r_z13) ∧ L' = [[Sg b 0 [I ((JcC t l).town.clerk.queue.most),Sl a_z1 (((JcC t l).town.clerk.queue.wait).length) c_z1,I ((JcC t l).town.clerk.batch),I ((JcC t l).town.clerk.every),I ((JcC t l).town.clerk.now),Sl a_z5 (((JcC t l).town.clerk.heads).length) c_z5,Sl a_z6 (((JcC t l).town.clerk.books).length) c_z6,Sl a_z7 (((JcC t l).town.owners).length) c_z7,Sl a_z8 (((JcC t l).town.polls).length) c_z8,I ((JcC t l).town.net.now),Sl a_z10 (((JcC t l).town.net.way).length) c_z10,I ((JcC t l).reach),Sl a_z12 (((JcC t l).fates).length) c_z12,Sl a_z13 (((JcC t l).events).length) c_z13]],r_z7,r_z8,r_z12,r_z13]):=by
 obtain ⟨a1,c1,a2,c2,a3,c3,rfl,_,_,_,_,hs1,w5,w6,w7,w8,w9,hs2,hs3⟩:=h_l
 intro Lr
 refine JL Tryz.func116 75 [(0,Pt b 0),(1,(JaV l a1 c1 a2 c2 a3 c3))] rfl (fun w0 G0=>?_)
 show TC _ _ _ _ _ ([Sg b 0 (JQ t a_1 c_1 a_5 c_5 a_6 c_6 a_7 c_7 a_8 c_8 a_10 c_10 a_12 c_12 a_13 c_13)] :: r_7 :: r_8 :: r_12 :: r_13 :: Lr)
 refine Je (Jb ?_)
 refine Ju 3 #[I l.to_,I l.from_,I l.since,I l.due,Sl a1 l.heads.length c1,I l.reply.head.epoch,U l.reply.head.root,U l.reply.head.prev,I l.reply.head.at_,Sr l.reply.proof.name,Sl a2 l.reply.proof.entries.length c2,Sl a3 l.reply.proof.sides.length c3] 72 (fun b1=>?_)
 refine Jc (Ja ?_)
 obtain ⟨kn1,hkn1⟩:∃ k_:Nat,l.to_ = (k_:Int):=⟨(l.to_).toNat,by omega⟩
 have e1:l.to_ = (kn1:Int):=hkn1
 refine JnG [(0,Pt b 0),(1,(JaV l a1 c1 a2 c2 a3 c3)),(3,Pt b1 0)] (by as_aux_lemma=>kernel_rfl) ?_
 refine JaJ (fr':=[(0,Pt b 0),(1,.agg #[I (kn1:Int),I l.from_,I l.since,I l.due,Sl a1 l.heads.length c1,I l.reply.head.epoch,U l.reply.head.root,U l.reply.head.prev,I l.reply.head.at_,Sr l.reply.proof.name,Sl a2 l.reply.proof.entries.length c2,Sl a3 l.reply.proof.sides.length c3]),(3,Pt b1 0)]) (L':=([Sg b1 0 [I (kn1:Int),I l.from_,I l.since,I l.due,Sl a1 l.heads.length c1,I l.reply.head.epoch,U l.reply.head.root,U l.reply.head.prev,I l.reply.head.at_,Sr l.reply.proof.name,Sl a2 l.reply.proof.entries.length c2,Sl a3 l.reply.proof.sides.length c3]] :: [Sg b 0 [I t.town.clerk.queue.most,Sl a_1 t.town.clerk.queue.wait.length c_1,I t.town.clerk.batch,I t.town.clerk.every,I t.town.clerk.now,Sl a_5 t.town.clerk.heads.length c_5,Sl a_6 t.town.clerk.books.length c_6,Sl a_7 t.town.owners.length c_7,Sl a_8 t.town.polls.length c_8,I t.town.net.now,Sl a_10 t.town.net.way.length c_10,I t.reach,Sl a_12 t.fates.length c_12,Sl a_13 t.events.length c_13]] :: r_7 :: r_8 :: r_12 :: r_13 :: Lr)) (by (simp only [J3,Jap,Jc6,JcK,JQ,JaV,Jag,Jci,Jcp,e1];first | done | rfl)) (by (simp only [J3,Jap,Jc6,JcK,JQ,JaV,Jag,Jci,Jcp,e1];first | done | rfl)) ?_
 refine Jfv (σ:=Nat × (Option Addr) × Nat × Jt) (fun q_=>(Jt.le G q_.2.2.2) ∧ ((((Jco kn1 l t).1).name).length ≤ 140737488351232) ∧ (rU (((Jco kn1 l t).1).key)) ∧ (rI (((Jco kn1 l t).1).head.epoch)) ∧ (rU (((Jco kn1 l t).1).head.root)) ∧ (rU (((Jco kn1 l t).1).head.prev)) ∧ (rI (((Jco kn1 l t).1).head.at_)) ∧ (RS ES q_.2.2.2 q_.2.1 q_.2.2.1 (((Jco kn1 l t).1).wanted)) ∧ (rI (((Jco kn1 l t).1).had))) (fun q_=>[(0,Pt b 0),(3,Pt b1 0),(4,Pt q_.1 0),(5,I ((Jco kn1 l t).2.1))]) (fun q_=>q_.2.2.2) (fun q_=>([Sg q_.1 0 (Jap (Jco kn1 l t).1 q_.2.1 q_.2.2.1)] :: [Sg b1 0 (J3 (z6_3 kn1 l) a1 c1 a2 c2 a3 c3)] :: [Sg b 0 (JQ t a_1 c_1 a_5 c_5 a_6 c_6 a_7 c_7 a_8 c_8 a_10 c_10 a_12 c_12 a_13 c_13)] :: r_7 :: r_8 :: r_12 :: r_13 :: Lr)) ?_ (fun q_ hs=>?_)
 have hx1:(t.town.owners)[kn1]? = some (Jp t (kn1:Int)):=Jd5 (by omega)
 obtain ⟨b2,o1,_,_,⟨a4,c4,rfl,w10,w11,w12,w13,w14,w15,hs4,w16⟩,ha1,hre1,hc1⟩:=J8.ix h_7 hx1
 refine Jau [13,18,19] ?_
 refine Jb6 [(0,Pt b 0),(1,Pt b 0),(2,Pt b 0),(3,Pt b 7),(4,Sl a_7 t.town.owners.length c_7),(5,Pt b1 0),(6,I (kn1:Int)),(7,Pt b2 (o1 + kn1 * 8)),(8,(Jag (Jp t (kn1:Int)) a4 c4)),(9,Pt b1 4),(10,Sl a1 l.heads.length c1),(11,Pt b1 5),(12,(Jcp l.reply a2 c2 a3 c3))] ?_
 refine JZ [] [(0,0),(1,0),(2,0),(3,0),(4,4),(5,0),(6,2),(9,0),(10,2),(11,0),(12,2)] [7,8] [13,18] (List.forall_mem_cons.2 ⟨?_,(List.forall_mem_cons.2 ⟨?_,List.forall_mem_nil _⟩)⟩) (List.forall_mem_cons.2 ⟨?_,(List.forall_mem_cons.2 ⟨?_,List.forall_mem_nil _⟩)⟩)
 refine Jq 7 15 (Pt b2 (o1 + kn1 * 8)) [(12,Sl a_7 t.town.owners.length c_7),(14,I (kn1:Int))] (fun X=>?_)
 exact Jbo (b:=b2) (off:=o1) (len:=t.town.owners.length) (cap:=c_7) (ik:=.i64) 15 52 8 kn1 ha1 (by omega) Jm
 refine Jq 8 16 (Jag (Jp t (kn1:Int)) a4 c4) [(15,Pt b2 (o1 + kn1 * 8))] (fun X=>?_)
 exact JcJ (off:=o1) (p:=kn1 * 8) (cs:=(Jap (Jp t (kn1:Int)) a4 c4)) 16 52 2 0 (Jag (Jp t (kn1:Int)) a4 c4) hre1 hc1 Jm
 refine JP 13 [(16,(Jag (Jp t (kn1:Int)) a4 c4)),(18,Sl a1 l.heads.length c1),(20,(Jcp l.reply a2 c2 a3 c3))] (fun X=>?_)
 refine JN 21 (JhB G (Jap (Jp t (kn1:Int)) a4 c4) (Jp t (kn1:Int)) (⟨a4,c4,rfl,w10,w11,w12,w13,w14,w15,hs4,w16⟩) a1 c1 l.heads hs1 (JcK l.reply a2 c2 a3 c3) l.reply (⟨a2,c2,a3,c3,rfl,w5,w6,w7,w8,w9,hs2,hs3⟩)) (fun v G1 L1 hl1 hp=>?_)
 obtain ⟨a5,c5,rfl,w17,w18,w19,w20,w21,w22,hs5,w23,rfl⟩:=hp
 refine JU [(13,.tuple #[(Jag (Jco kn1 l t).1 a5 c5),I ((Jco kn1 l t).2.1),I ((Jco kn1 l t).2.2)]),(14,.tuple #[(Jag (Jco kn1 l t).1 a5 c5),I ((Jco kn1 l t).2.1),I ((Jco kn1 l t).2.2)]),(15,(Jag (Jco kn1 l t).1 a5 c5)),(16,I ((Jco kn1 l t).2.1)),(17,I ((Jco kn1 l t).2.2))] ?_
 refine JZ [0,1,2,3,4,5,6,7,8,9,10,11,12] [(14,0),(15,0),(16,0),(17,0)] [] [18] (List.forall_mem_nil _) (List.forall_mem_cons.2 ⟨?_,List.forall_mem_nil _⟩)
 refine JP 18 [] (fun X=>?_)
 refine Ju 4 #[Sr ([]),U 0,I 0,U 0,U 0,I 0,Sl none 0 0,I 0] 52 (fun b3=>?_)
 refine JU [(18,Pt b3 0)] ?_
 refine JZ [0,1,2,3,4,5,6,7,8,9,10,11,12] [(14,0),(15,0),(16,0),(17,0)] [] [19] (List.forall_mem_nil _) (List.forall_mem_cons.2 ⟨?_,List.forall_mem_nil _⟩)
 refine JP 19 [(4,Pt b3 0),(22,(Jag (Jco kn1 l t).1 a5 c5))] (fun X=>?_)
 refine JaU 0 ([Sg b3 0 (Jap (Jco kn1 l t).1 a5 c5)] :: [Sg b1 0 (J3 (z6_3 kn1 l) a1 c1 a2 c2 a3 c3)] :: [Sg b 0 (JQ t a_1 c_1 a_5 c_5 a_6 c_6 a_7 c_7 a_8 c_8 a_10 c_10 a_12 c_12 a_13 c_13)] :: r_7 :: r_8 :: r_12 :: r_13 :: Lr) ?_
 refine Jao [(20,I ((Jco kn1 l t).2.1)),(21,I ((Jco kn1 l t).2.2))] ?_
 refine Jav [0,1,2,3,4,5,6,7,8,9,10,11,12,14,15] [(16,0),(17,0),(20,0),(21,0)] [] [(0,Pt b 0),(3,Pt b1 0),(4,Pt b3 0),(5,I ((Jco kn1 l t).2.1))] (List.forall_mem_nil _) ?_
 exact JcH (b3,a5,c5,G1) ⟨hl1,w17,w18,w19,w20,w21,w22,hs5,w23⟩
 refine JP 18 [] (fun X=>?_)
 refine Ju 4 #[Sr ([]),U 0,I 0,U 0,U 0,I 0,Sl none 0 0,I 0] 52 (fun b4=>?_)
 refine JU [(18,Pt b4 0)] ?_
 refine JZ [] [(0,0),(1,0),(2,0),(3,0),(4,6),(5,0),(6,4),(9,0),(10,4),(11,0),(12,4)] [7,8] [13] (List.forall_mem_cons.2 ⟨?_,(List.forall_mem_cons.2 ⟨?_,List.forall_mem_nil _⟩)⟩) (List.forall_mem_cons.2 ⟨?_,List.forall_mem_nil _⟩)
 refine Jq 7 15 (Pt b2 (o1 + kn1 * 8)) [(12,Sl a_7 t.town.owners.length c_7),(14,I (kn1:Int))] (fun X=>?_)
 exact Jbo (b:=b2) (off:=o1) (len:=t.town.owners.length) (cap:=c_7) (ik:=.i64) 15 52 8 kn1 ha1 (by omega) Jm
 refine Jq 8 16 (Jag (Jp t (kn1:Int)) a4 c4) [(15,Pt b2 (o1 + kn1 * 8))] (fun X=>?_)
 exact JcJ (off:=o1) (p:=kn1 * 8) (cs:=(Jap (Jp t (kn1:Int)) a4 c4)) 16 52 3 0 (Jag (Jp t (kn1:Int)) a4 c4) hre1 hc1 Jm
 refine JP 13 [(16,(Jag (Jp t (kn1:Int)) a4 c4)),(18,Sl a1 l.heads.length c1),(20,(Jcp l.reply a2 c2 a3 c3))] (fun X=>?_)
 refine JN 21 (JhB G (Jap (Jp t (kn1:Int)) a4 c4) (Jp t (kn1:Int)) (⟨a4,c4,rfl,w10,w11,w12,w13,w14,w15,hs4,w16⟩) a1 c1 l.heads hs1 (JcK l.reply a2 c2 a3 c3) l.reply (⟨a2,c2,a3,c3,rfl,w5,w6,w7,w8,w9,hs2,hs3⟩)) (fun v G2 L1 hl2 hp=>?_)
 obtain ⟨a6,c6,rfl,w24,w25,w26,w27,w28,w29,hs6,w30,rfl⟩:=hp
 refine JU [(13,.tuple #[(Jag (Jco kn1 l t).1 a6 c6),I ((Jco kn1 l t).2.1),I ((Jco kn1 l t).2.2)]),(14,.tuple #[(Jag (Jco kn1 l t).1 a6 c6),I ((Jco kn1 l t).2.1),I ((Jco kn1 l t).2.2)]),(15,(Jag (Jco kn1 l t).1 a6 c6)),(16,I ((Jco kn1 l t).2.1)),(17,I ((Jco kn1 l t).2.2))] ?_
 refine JZ [0,1,2,3,4,5,6,7,8,9,10,11,12] [(14,0),(15,0),(16,0),(17,0)] [] [19] (List.forall_mem_nil _) (List.forall_mem_cons.2 ⟨?_,List.forall_mem_nil _⟩)
 refine JP 19 [(4,Pt b4 0),(22,(Jag (Jco kn1 l t).1 a6 c6))] (fun X=>?_)
 refine JaU 0 ([Sg b4 0 (Jap (Jco kn1 l t).1 a6 c6)] :: [Sg b1 0 (J3 (z6_3 kn1 l) a1 c1 a2 c2 a3 c3)] :: [Sg b 0 (JQ t a_1 c_1 a_5 c_5 a_6 c_6 a_7 c_7 a_8 c_8 a_10 c_10 a_12 c_12 a_13 c_13)] :: r_7 :: r_8 :: r_12 :: r_13 :: Lr) ?_
 refine Jao [(20,I ((Jco kn1 l t).2.1)),(21,I ((Jco kn1 l t).2.2))] ?_
 refine Jav [0,1,2,3,4,5,6,7,8,9,10,11,12,14,15] [(16,0),(17,0),(20,0),(21,0)] [] [(0,Pt b 0),(3,Pt b1 0),(4,Pt b4 0),(5,I ((Jco kn1 l t).2.1))] (List.forall_mem_nil _) ?_
 exact JcH (b4,a6,c6,G2) ⟨hl2,w24,w25,w26,w27,w28,w29,hs6,w30⟩
 obtain ⟨b3,a5,c5,G1⟩:=q_
 obtain ⟨hle1,hj1,hj2,hj3,hj4,hj5,hj6,hj7,hj8⟩:=hs
 dsimp only at hle1 hj1 hj2 hj3 hj4 hj5 hj6 hj7 hj8
 refine JaJ (fr':=[(0,Pt b 0),(3,Pt b1 0),(4,Pt b3 0),(5,I ((Jco kn1 l t).2.1))]) (L':=([Sg b3 0 (Jap (Jco kn1 l t).1 a5 c5)] :: [Sg b1 0 (J3 (z6_3 kn1 l) a1 c1 a2 c2 a3 c3)] :: [Sg b 0 (JQ t a_1 c_1 a_5 c_5 a_6 c_6 a_7 c_7 a_8 c_8 a_10 c_10 a_12 c_12 a_13 c_13)] :: r_7 :: r_8 :: r_12 :: r_13 :: Lr)) rfl rfl ?_
 refine Je ?_
 have hx2:(t.town.owners)[kn1]? = some (Jp t (kn1:Int)):=Jd5 (by omega)
 obtain ⟨b5,o2,_,_,⟨_,_,rfl,_,_,_,_,_,_,_,_⟩,ha2,_,_⟩:=J8.ix (h_7.mono hle1) hx2
 refine Jau [9] ?_
 refine Jb6 [(0,Pt b 0),(1,Pt b 0),(2,Pt b 0),(3,Pt b 7),(4,Sl a_7 t.town.owners.length c_7),(5,Pt b1 0),(6,I (kn1:Int)),(7,(Jag (Jco kn1 l t).1 a5 c5)),(8,Pt b5 (o2 + kn1 * 8))] ?_
 refine JZ [] [(0,0),(1,0),(2,0),(3,0),(4,6),(5,0),(6,4),(7,2)] [8] [9] (List.forall_mem_cons.2 ⟨?_,List.forall_mem_nil _⟩) (List.forall_mem_cons.2 ⟨?_,List.forall_mem_nil _⟩)
 refine Jq 8 33 (Pt b5 (o2 + kn1 * 8)) [(29,Sl a_7 t.town.owners.length c_7),(31,I (kn1:Int))] (fun X=>?_)
 exact Jbo (b:=b5) (off:=o2) (len:=t.town.owners.length) (cap:=c_7) (ik:=.i64) 33 52 8 kn1 ha2 (by omega) Jm
 refine JP 9 [(32,(Jag (Jco kn1 l t).1 a5 c5)),(33,Pt b5 (o2 + kn1 * 8))] (fun X=>?_)
 refine Jeg (b:=b5) (off:=o2) 3 (h_7.mono hle1) kn1 ((Jco kn1 l t).1) ha2 (by omega) (Jag (Jco kn1 l t).1 a5 c5) (Jap (Jco kn1 l t).1 a5 c5) ⟨a5,c5,rfl,hj1,hj2,hj3,hj4,hj5,hj6,hj7,hj8⟩ (fun r1 hr1=>?_)
 have e2:t.town.owners.length = (t.town.owners.set kn1 ((Jco kn1 l t).1)).length:=(List.length_set ..).symm
 refine Jao [] ?_
 refine Jav [0,1,2,3,4,5,6,7,8] [] [] [(0,Pt b 0),(3,Pt b1 0),(4,Pt b3 0),(5,I ((Jco kn1 l t).2.1))] (List.forall_mem_nil _) ?_
 refine Jim (fr':=[(0,Pt b 0),(3,Pt b1 0),(4,Pt b3 0),(5,I ((Jz (Jp t (kn1:Int)) l.heads l.reply).2.1))]) (L':=([Sg b3 0 [Sr (((Jz (Jp t (kn1:Int)) l.heads l.reply).1).name),U (((Jz (Jp t (kn1:Int)) l.heads l.reply).1).key),I (((Jz (Jp t (kn1:Int)) l.heads l.reply).1).head.epoch),U (((Jz (Jp t (kn1:Int)) l.heads l.reply).1).head.root),U (((Jz (Jp t (kn1:Int)) l.heads l.reply).1).head.prev),I (((Jz (Jp t (kn1:Int)) l.heads l.reply).1).head.at_),Sl a5 ((((Jz (Jp t (kn1:Int)) l.heads l.reply).1).wanted).length) c5,I (((Jz (Jp t (kn1:Int)) l.heads l.reply).1).had)]] :: [Sg b1 0 [I (kn1:Int),I l.from_,I l.since,I l.due,Sl a1 l.heads.length c1,I l.reply.head.epoch,U l.reply.head.root,U l.reply.head.prev,I l.reply.head.at_,Sr l.reply.proof.name,Sl a2 l.reply.proof.entries.length c2,Sl a3 l.reply.proof.sides.length c3]] :: [Sg b 0 [I t.town.clerk.queue.most,Sl a_1 t.town.clerk.queue.wait.length c_1,I t.town.clerk.batch,I t.town.clerk.every,I t.town.clerk.now,Sl a_5 t.town.clerk.heads.length c_5,Sl a_6 t.town.clerk.books.length c_6,Sl a_7 ((t.town.owners.set kn1 ((Jz (Jp t (kn1:Int)) l.heads l.reply).1)).length) c_7,Sl a_8 t.town.polls.length c_8,I t.town.net.now,Sl a_10 t.town.net.way.length c_10,I t.reach,Sl a_12 t.fates.length c_12,Sl a_13 t.events.length c_13]] :: r1 :: r_8 :: r_12 :: r_13 :: Lr)) (by rfl) (by (simp only [J3,Jap,Jc6,JcK,JQ,JaV,Jag,Jci,Jcp,e2];first | done | rfl)) ?_
 refine Ja (Je (Jb ?_))
 refine Jd [0,0,4,0,0,0,2] [(0,Pt b 0),(3,Pt b1 0),(5,I ((Jco kn1 l t).2.1)),(34,Pt b 0),(36,I (kn1:Int)),(37,I ((Jco kn1 l t).2.1)),(40,I (((Jco kn1 l t).1).head.epoch))] ?_
 refine JE 6 ?_
 refine JE 6 ?_
 refine JE 6 ?_
 refine JE 6 ?_
 refine JE 6 ?_
 refine Jbi (Ls:=[[Sg b 0 (JQ (⟨(⟨t.town.clerk,(t.town.owners.set kn1 ((Jco kn1 l t).1)),t.town.polls,t.town.net⟩:JbK),t.reach,t.fates,t.events⟩:JF) a_1 c_1 a_5 c_5 a_6 c_6 a_7 c_7 a_8 c_8 a_10 c_10 a_12 c_12 a_13 c_13)],r1,r_8,r_12,r_13]) (Lr:=([Sg b3 0 (Jap (Jco kn1 l t).1 a5 c5)] :: [Sg b1 0 (J3 (z6_3 kn1 l) a1 c1 a2 c2 a3 c3)] :: Lr)) 41 (Jif G1 b (⟨(⟨t.town.clerk,t.town.owners.set kn1 ((Jco kn1 l t).1),t.town.polls,t.town.net⟩:JbK),t.reach,t.fates,t.events⟩:JF) a_1 c_1 a_5 c_5 a_6 c_6 a_7 c_7 a_8 c_8 a_10 c_10 a_12 c_12 a_13 c_13 r1 r_8 r_12 r_13 h_0 (h_1.mono hle1) h_2 h_3 h_4 (h_5.mono hle1) (h_6.mono hle1) hr1 (h_8.mono hle1) h_9 (h_10.mono hle1) h_11 (h_12.mono hle1) (h_13.mono hle1) 2 (by omega) (kn1:Int) (by omega) ((Jco kn1 l t).2.1) (Jrt _ _ _) (((Jco kn1 l t).1).head.epoch) hj3 ‹_›) (fun v G3 L1 hl3 hp=>?_)
 obtain ⟨a8,c8,a9,c9,a10,c10,a11,c11,a12,c12,a13,c13,a14,c14,a15,c15,r2,r3,r4,r5,rfl,w38,hs8,w39,w40,w41,hs9,hs10,hr2,hr3,w42,hs11,w43,hr4,hr5,rfl⟩:=hp
 refine Jc (Ja (Je (Jb ?_)))
 refine Jd [0,0,0] [(0,Pt b 0),(3,Pt b1 0),(5,I ((Jco kn1 l t).2.1)),(44,Bo (decide ((Jco kn1 l t).2.1 = 0)))] ?_
 refine Jay (decide ((Jco kn1 l t).2.1 = 0)) (fun bb=>[(0,Pt b 0),(3,Pt b1 0),(5,I ((Jco kn1 l t).2.1)),(44,Bo bb)]) [1,1,0] [0,0,0] (fun bb=>[(0,Pt b 0),(3,Pt b1 0),(47,Bo (bb || (decide ((Jco kn1 l t).2.1 = 1))))]) ?_
 refine Jc (Ja ?_)
 refine Jo ((decide ((Jco kn1 l t).2.1 = 0)) || (decide ((Jco kn1 l t).2.1 = 1))) (fun h1=>?_) (fun h1=>?_)
 try simp only [BB] at h1
 have hx3:((Jep kn1 l t).town.polls)[kn1]? = some (JmH kn1 l t):=JjJ (by (simp only [JbF];omega))
 obtain ⟨b6,o3,_,_,⟨rfl,w44,w45,w46,w47,w48,w49⟩,ha3,hre3,hc3⟩:=J8.ix hr3 hx3
 refine Jau [27] ?_
 refine Jb6 [(0,Pt b 0),(1,Pt b 0),(2,Pt b 0),(3,Pt b 8),(4,Sl a12 (((Jep kn1 l t).town.polls).length) c12),(5,Pt b1 0),(6,I (kn1:Int)),(7,Pt b 0),(8,Pt b 0),(9,Pt b 0),(10,Pt b 8),(11,Sl a12 (((Jep kn1 l t).town.polls).length) c12),(12,Pt b1 0),(13,I (kn1:Int)),(14,Pt b6 (o3 + kn1 * 6)),(15,(Jci (JmH kn1 l t))),(16,Pt b 0),(17,Pt b 0),(18,Pt b 0),(19,Pt b 0),(20,Pt b 4),(21,I ((Jep kn1 l t).town.clerk.now)),(22,.tuple #[(Jci (JgA kn1 l t).1),I ((JgA kn1 l t).2)]),(23,.tuple #[(Jci (JgA kn1 l t).1),I ((JgA kn1 l t).2)]),(24,(Jci (JgA kn1 l t).1)),(25,I ((JgA kn1 l t).2)),(26,Pt b6 (o3 + kn1 * 6))] ?_
 refine JZ [] [(0,0),(1,0),(2,0),(3,0),(4,2),(5,0),(6,14),(7,0),(8,0),(9,0),(10,0),(11,2),(12,0),(13,14),(16,0),(17,0),(18,0),(19,0),(20,0),(21,2),(23,0),(24,0),(25,0)] [14,15,22,26] [27] (List.forall_mem_cons.2 ⟨?_,(List.forall_mem_cons.2 ⟨?_,(List.forall_mem_cons.2 ⟨?_,(List.forall_mem_cons.2 ⟨?_,List.forall_mem_nil _⟩)⟩)⟩)⟩) (List.forall_mem_cons.2 ⟨?_,List.forall_mem_nil _⟩)
 refine Jq 14 63 (Pt b6 (o3 + kn1 * 6)) [(60,Sl a12 (((Jep kn1 l t).town.polls).length) c12),(62,I (kn1:Int))] (fun X=>?_)
 exact Jbo (b:=b6) (off:=o3) (len:=((Jep kn1 l t).town.polls).length) (cap:=c12) (ik:=.i64) 63 56 6 kn1 ha3 (by (simp only [JbF];omega)) Jm
 refine Jq 15 64 (Jci (JmH kn1 l t)) [(63,Pt b6 (o3 + kn1 * 6))] (fun X=>?_)
 exact JcJ (off:=o3) (p:=kn1 * 6) (cs:=(Jc6 (JmH kn1 l t))) 64 56 2 0 (Jci (JmH kn1 l t)) hre3 hc3 Jm
 refine Jq 22 71 (.tuple #[(Jci (JgA kn1 l t).1),I ((JgA kn1 l t).2)]) [(64,(Jci (JmH kn1 l t))),(70,I ((Jep kn1 l t).town.clerk.now))] (fun X=>?_)
 exact Ji 71 (.tuple #[(Jci (JgA kn1 l t).1),I ((JgA kn1 l t).2)]) (Jkd G3 (Jc6 (JmH kn1 l t)) (JmH kn1 l t) (⟨rfl,w44,w45,w46,w47,w48,w49⟩) ((Jep kn1 l t).town.clerk.now)) Jm
 refine Jq 26 74 (Pt b6 (o3 + kn1 * 6)) [(53,Sl a12 (((Jep kn1 l t).town.polls).length) c12),(55,I (kn1:Int))] (fun X=>?_)
 exact Jbo (b:=b6) (off:=o3) (len:=((Jep kn1 l t).town.polls).length) (cap:=c12) (ik:=.i64) 74 56 6 kn1 ha3 (by (simp only [JbF];omega)) Jm
 refine JP 27 [(72,(Jci (JgA kn1 l t).1)),(74,Pt b6 (o3 + kn1 * 6))] (fun X=>?_)
 refine Jeg (b:=b6) (off:=o3) 2 hr3 kn1 ((JgA kn1 l t).1) ha3 (by (simp only [JbF];omega)) (Jci (JgA kn1 l t).1) (Jc6 (JgA kn1 l t).1) ⟨rfl,(JgK _ _).least,(JgK _ _).most,(JgK _ _).lost,(JgK _ _).gap,(JgK _ _).next,(JgK _ _).asked⟩ (fun r6 hr6=>?_)
 have e3:((Jep kn1 l t).town.polls).length = (((Jep kn1 l t).town.polls).set kn1 ((JgA kn1 l t).1)).length:=(List.length_set ..).symm
 refine Jao [] ?_
 refine Jav [0,1,2,3,4,5,6,7,8,9,10,11,12,13,14,15,16,17,18,19,20,21,22,23,24,26] [(25,0)] [] [] (List.forall_mem_nil _) ?_
 refine Jim (fr':=[]) (L':=([Sg b 0 [I ((JbF (⟨(⟨t.town.clerk,t.town.owners.set kn1 ((Jz (Jp t (kn1:Int)) l.heads l.reply).1),t.town.polls,t.town.net⟩:JbK),t.reach,t.fates,t.events⟩:JF) 2 (kn1:Int) ((Jz (Jp t (kn1:Int)) l.heads l.reply).2.1) (((Jz (Jp t (kn1:Int)) l.heads l.reply).1).head.epoch)).town.clerk.queue.most),Sl a8 (((JbF (⟨(⟨t.town.clerk,t.town.owners.set kn1 ((Jz (Jp t (kn1:Int)) l.heads l.reply).1),t.town.polls,t.town.net⟩:JbK),t.reach,t.fates,t.events⟩:JF) 2 (kn1:Int) ((Jz (Jp t (kn1:Int)) l.heads l.reply).2.1) (((Jz (Jp t (kn1:Int)) l.heads l.reply).1).head.epoch)).town.clerk.queue.wait).length) c8,I ((JbF (⟨(⟨t.town.clerk,t.town.owners.set kn1 ((Jz (Jp t (kn1:Int)) l.heads l.reply).1),t.town.polls,t.town.net⟩:JbK),t.reach,t.fates,t.events⟩:JF) 2 (kn1:Int) ((Jz (Jp t (kn1:Int)) l.heads l.reply).2.1) (((Jz (Jp t (kn1:Int)) l.heads l.reply).1).head.epoch)).town.clerk.batch),I ((JbF (⟨(⟨t.town.clerk,t.town.owners.set kn1 ((Jz (Jp t (kn1:Int)) l.heads l.reply).1),t.town.polls,t.town.net⟩:JbK),t.reach,t.fates,t.events⟩:JF) 2 (kn1:Int) ((Jz (Jp t (kn1:Int)) l.heads l.reply).2.1) (((Jz (Jp t (kn1:Int)) l.heads l.reply).1).head.epoch)).town.clerk.every),I ((JbF (⟨(⟨t.town.clerk,t.town.owners.set kn1 ((Jz (Jp t (kn1:Int)) l.heads l.reply).1),t.town.polls,t.town.net⟩:JbK),t.reach,t.fates,t.events⟩:JF) 2 (kn1:Int) ((Jz (Jp t (kn1:Int)) l.heads l.reply).2.1) (((Jz (Jp t (kn1:Int)) l.heads l.reply).1).head.epoch)).town.clerk.now),Sl a9 (((JbF (⟨(⟨t.town.clerk,t.town.owners.set kn1 ((Jz (Jp t (kn1:Int)) l.heads l.reply).1),t.town.polls,t.town.net⟩:JbK),t.reach,t.fates,t.events⟩:JF) 2 (kn1:Int) ((Jz (Jp t (kn1:Int)) l.heads l.reply).2.1) (((Jz (Jp t (kn1:Int)) l.heads l.reply).1).head.epoch)).town.clerk.heads).length) c9,Sl a10 (((JbF (⟨(⟨t.town.clerk,t.town.owners.set kn1 ((Jz (Jp t (kn1:Int)) l.heads l.reply).1),t.town.polls,t.town.net⟩:JbK),t.reach,t.fates,t.events⟩:JF) 2 (kn1:Int) ((Jz (Jp t (kn1:Int)) l.heads l.reply).2.1) (((Jz (Jp t (kn1:Int)) l.heads l.reply).1).head.epoch)).town.clerk.books).length) c10,Sl a11 (((JbF (⟨(⟨t.town.clerk,t.town.owners.set kn1 ((Jz (Jp t (kn1:Int)) l.heads l.reply).1),t.town.polls,t.town.net⟩:JbK),t.reach,t.fates,t.events⟩:JF) 2 (kn1:Int) ((Jz (Jp t (kn1:Int)) l.heads l.reply).2.1) (((Jz (Jp t (kn1:Int)) l.heads l.reply).1).head.epoch)).town.owners).length) c11,Sl a12 ((((JbF (⟨(⟨t.town.clerk,t.town.owners.set kn1 ((Jz (Jp t (kn1:Int)) l.heads l.reply).1),t.town.polls,t.town.net⟩:JbK),t.reach,t.fates,t.events⟩:JF) 2 (kn1:Int) ((Jz (Jp t (kn1:Int)) l.heads l.reply).2.1) (((Jz (Jp t (kn1:Int)) l.heads l.reply).1).head.epoch)).town.polls).set kn1 ((JbI (Ja2 (JbF (⟨(⟨t.town.clerk,t.town.owners.set kn1 ((Jz (Jp t (kn1:Int)) l.heads l.reply).1),t.town.polls,t.town.net⟩:JbK),t.reach,t.fates,t.events⟩:JF) 2 (kn1:Int) ((Jz (Jp t (kn1:Int)) l.heads l.reply).2.1) (((Jz (Jp t (kn1:Int)) l.heads l.reply).1).head.epoch)) (kn1:Int)) ((JbF (⟨(⟨t.town.clerk,t.town.owners.set kn1 ((Jz (Jp t (kn1:Int)) l.heads l.reply).1),t.town.polls,t.town.net⟩:JbK),t.reach,t.fates,t.events⟩:JF) 2 (kn1:Int) ((Jz (Jp t (kn1:Int)) l.heads l.reply).2.1) (((Jz (Jp t (kn1:Int)) l.heads l.reply).1).head.epoch)).town.clerk.now)).1)).length) c12,I ((JbF (⟨(⟨t.town.clerk,t.town.owners.set kn1 ((Jz (Jp t (kn1:Int)) l.heads l.reply).1),t.town.polls,t.town.net⟩:JbK),t.reach,t.fates,t.events⟩:JF) 2 (kn1:Int) ((Jz (Jp t (kn1:Int)) l.heads l.reply).2.1) (((Jz (Jp t (kn1:Int)) l.heads l.reply).1).head.epoch)).town.net.now),Sl a13 (((JbF (⟨(⟨t.town.clerk,t.town.owners.set kn1 ((Jz (Jp t (kn1:Int)) l.heads l.reply).1),t.town.polls,t.town.net⟩:JbK),t.reach,t.fates,t.events⟩:JF) 2 (kn1:Int) ((Jz (Jp t (kn1:Int)) l.heads l.reply).2.1) (((Jz (Jp t (kn1:Int)) l.heads l.reply).1).head.epoch)).town.net.way).length) c13,I ((JbF (⟨(⟨t.town.clerk,t.town.owners.set kn1 ((Jz (Jp t (kn1:Int)) l.heads l.reply).1),t.town.polls,t.town.net⟩:JbK),t.reach,t.fates,t.events⟩:JF) 2 (kn1:Int) ((Jz (Jp t (kn1:Int)) l.heads l.reply).2.1) (((Jz (Jp t (kn1:Int)) l.heads l.reply).1).head.epoch)).reach),Sl a14 (((JbF (⟨(⟨t.town.clerk,t.town.owners.set kn1 ((Jz (Jp t (kn1:Int)) l.heads l.reply).1),t.town.polls,t.town.net⟩:JbK),t.reach,t.fates,t.events⟩:JF) 2 (kn1:Int) ((Jz (Jp t (kn1:Int)) l.heads l.reply).2.1) (((Jz (Jp t (kn1:Int)) l.heads l.reply).1).head.epoch)).fates).length) c14,Sl a15 (((JbF (⟨(⟨t.town.clerk,t.town.owners.set kn1 ((Jz (Jp t (kn1:Int)) l.heads l.reply).1),t.town.polls,t.town.net⟩:JbK),t.reach,t.fates,t.events⟩:JF) 2 (kn1:Int) ((Jz (Jp t (kn1:Int)) l.heads l.reply).2.1) (((Jz (Jp t (kn1:Int)) l.heads l.reply).1).head.epoch)).events).length) c15]] :: r2 :: r6 :: r4 :: r5 :: [Sg b3 0 [Sr (((Jz (Jp t (kn1:Int)) l.heads l.reply).1).name),U (((Jz (Jp t (kn1:Int)) l.heads l.reply).1).key),I (((Jz (Jp t (kn1:Int)) l.heads l.reply).1).head.epoch),U (((Jz (Jp t (kn1:Int)) l.heads l.reply).1).head.root),U (((Jz (Jp t (kn1:Int)) l.heads l.reply).1).head.prev),I (((Jz (Jp t (kn1:Int)) l.heads l.reply).1).head.at_),Sl a5 ((((Jz (Jp t (kn1:Int)) l.heads l.reply).1).wanted).length) c5,I (((Jz (Jp t (kn1:Int)) l.heads l.reply).1).had)]] :: [Sg b1 0 [I (kn1:Int),I l.from_,I l.since,I l.due,Sl a1 l.heads.length c1,I l.reply.head.epoch,U l.reply.head.root,U l.reply.head.prev,I l.reply.head.at_,Sr l.reply.proof.name,Sl a2 l.reply.proof.entries.length c2,Sl a3 l.reply.proof.sides.length c3]] :: Lr)) (by rfl) (by (simp only [J3,Jap,Jc6,JcK,JQ,JaV,Jag,Jci,Jcp,e3];first | done | rfl)) ?_
 refine Jj 4 ?_
 refine Jj 4 ?_
 refine Jj 4 ?_
 refine Jj 4 ?_
 refine Jj 4 ?_
 have hf1:JcC t l = (⟨(⟨(Jep kn1 l t).town.clerk,(Jep kn1 l t).town.owners,((Jep kn1 l t).town.polls).set kn1 ((JgA kn1 l t).1),(Jep kn1 l t).town.net⟩:JbK),(Jep kn1 l t).reach,(Jep kn1 l t).fates,(Jep kn1 l t).events⟩:JF):=by
  (rw [Jol ‹_›,if_pos (by first | omega | (simp only [Jco] at *;omega))];rfl)
 refine Jdl [] [] (JbU (Lr:=Lr) [[Sg b 0 (JQ (⟨(⟨(Jep kn1 l t).town.clerk,(Jep kn1 l t).town.owners,(((Jep kn1 l t).town.polls).set kn1 ((JgA kn1 l t).1)),(Jep kn1 l t).town.net⟩:JbK),(Jep kn1 l t).reach,(Jep kn1 l t).fates,(Jep kn1 l t).events⟩:JF) a8 c8 a9 c9 a10 c10 a11 c11 a12 c12 a13 c13 a14 c14 a15 c15)],r2,r6,r4,r5] (.cons_cons _ (.cons_cons _ (.cons_cons _ (.cons_cons _ (.cons_cons _ (.cons _ (.cons _ (List.Sublist.refl _)))))))) (Jt.le_trans hle1 hl3) ?_)
 rw [hf1];try dsimp only
 exact ⟨a8,c8,a9,c9,a10,c10,a11,c11,a12,c12,a13,c13,a14,c14,a15,c15,r2,r6,r4,r5,rfl,w38,hs8,w39,w40,w41,hs9,hs10,hr2,hr6,w42,hs11,w43,hr4,hr5,rfl⟩
 try simp only [BB] at h1
 refine Jn ?_
 refine Jj 4 ?_
 refine Jj 4 ?_
 refine Jj 4 ?_
 refine Jj 4 ?_
 refine Jj 4 ?_
 have hf2:JcC t l = (Jep kn1 l t):=by
  (rw [Jol ‹_›,if_neg (by first | omega | (simp only [Jco] at *;omega))];done)
 refine Jdl [] [] (JbU (Lr:=Lr) [[Sg b 0 (JQ (Jep kn1 l t) a8 c8 a9 c9 a10 c10 a11 c11 a12 c12 a13 c13 a14 c14 a15 c15)],r2,r3,r4,r5] (.cons_cons _ (.cons_cons _ (.cons_cons _ (.cons_cons _ (.cons_cons _ (.cons _ (.cons _ (List.Sublist.refl _)))))))) (Jt.le_trans hle1 hl3) ?_)
 rw [hf2];try dsimp only
 exact ⟨a8,c8,a9,c9,a10,c10,a11,c11,a12,c12,a13,c13,a14,c14,a15,c15,r2,r3,r4,r5,rfl,w38,hs8,w39,w40,w41,hs9,hs10,hr2,hr3,w42,hs11,w43,hr4,hr5,rfl⟩
set_option maxRecDepth 20000 in
abbrev Jkh (kn1:Nat) (t:JF):=JbS (⟨(⟨t.town.clerk,t.town.owners,t.town.polls.set kn1 ((Jaq (Ja2 t (kn1:Int)) t.town.clerk.now).1),t.town.net⟩:JbK),t.reach,t.fates,t.events⟩:JF) (⟨(-1),(kn1:Int),((Jp t (kn1:Int)).head.epoch) + 1,0,[],(⟨(⟨0,0,0,0⟩:JS),(⟨[],[],[]⟩:JcD)⟩:Jct)⟩:JV)
abbrev Jd9 (kn1:Nat) (t:JF):=Jaq (Ja2 t (kn1:Int)) t.town.clerk.now
abbrev Jig (kn1:Nat) (t:JF):=JcZ (Ja2 t (kn1:Int))
abbrev Jki (kn1:Nat) (t:JF):=JcZ ((Jd9 kn1 t).1)
abbrev JmI (kn1:Nat) (t:JF):=Jci (Ja2 t (kn1:Int))
theorem JqW (G:Jt) (b:Nat) (t:JF) (a_1:Option Addr) (c_1:Nat) (a_5:Option Addr) (c_5:Nat) (a_6:Option Addr) (c_6:Nat) (a_7:Option Addr) (c_7:Nat) (a_8:Option Addr) (c_8:Nat) (a_10:Option Addr) (c_10:Nat) (a_12:Option Addr) (c_12:Nat) (a_13:Option Addr) (c_13:Nat) (r_7:List Seg) (r_8:List Seg) (r_12:List Seg) (r_13:List Seg) (h_0:rI t.town.clerk.queue.most) (h_1:RS JbL G a_1 c_1 t.town.clerk.queue.wait) (h_2:rI t.town.clerk.batch) (h_3:rI t.town.clerk.every) (h_4:rI t.town.clerk.now) (h_5:RS Jaz G a_5 c_5 t.town.clerk.heads) (h_6:RS Jbd G a_6 c_6 t.town.clerk.books) (h_7:J8 JbG G a_7 c_7 t.town.owners r_7) (h_8:J8 Jcf G a_8 c_8 t.town.polls r_8) (h_9:rI t.town.net.now) (h_10:RS Jaj G a_10 c_10 t.town.net.way) (h_11:rI t.reach) (h_12:J8 JeD G a_12 c_12 t.fates r_12) (h_13:J8 Jb4 G a_13 c_13 t.events r_13) (k:Int) (hw_k:rI k) (hev:t.events.length ≤ 1000000) (hto:0 ≤ k ∧ k < t.town.owners.length) (hpl:t.town.polls.length = t.town.owners.length) (hep:∀ (i:Nat) o,t.town.owners[i]? = some o → o.head.epoch ≤ 1000000):Jgi Tryz.prog 117 #[Pt b 0,I k] G [[Sg b 0 [I t.town.clerk.queue.most,Sl a_1 t.town.clerk.queue.wait.length c_1,I t.town.clerk.batch,I t.town.clerk.every,I t.town.clerk.now,Sl a_5 t.town.clerk.heads.length c_5,Sl a_6 t.town.clerk.books.length c_6,Sl a_7 t.town.owners.length c_7,Sl a_8 t.town.polls.length c_8,I t.town.net.now,Sl a_10 t.town.net.way.length c_10,I t.reach,Sl a_12 t.fates.length c_12,Sl a_13 t.events.length c_13]],r_7,r_8,r_12,r_13] (fun u G' L'=>∃ (a_z1:Option Addr) (c_z1:Nat) (a_z5:Option Addr) (c_z5:Nat) (a_z6:Option Addr) (c_z6:Nat) (a_z7:Option Addr) (c_z7:Nat) (a_z8:Option Addr) (c_z8:Nat) (a_z10:Option Addr) (c_z10:Nat) (a_z12:Option Addr) (c_z12:Nat) (a_z13:Option Addr) (c_z13:Nat) (r_z7:List Seg) (r_z8:List Seg) (r_z12:List Seg) (r_z13:List Seg),u = .tuple #[] ∧ (rI ((Jcn t k).town.clerk.queue.most)) ∧ (RS JbL G' a_z1 c_z1 ((Jcn t k).town.clerk.queue.wait)) ∧ (rI ((Jcn t k).town.clerk.batch)) ∧ (rI ((Jcn t k).town.clerk.every)) ∧ (rI ((Jcn t k).town.clerk.now)) ∧ (RS Jaz G' a_z5 c_z5 ((Jcn t k).town.clerk.heads)) ∧ (RS Jbd G' a_z6 c_z6 ((Jcn t k).town.clerk.books)) ∧ (J8 JbG G' a_z7 c_z7 ((Jcn t k).town.owners) r_z7) ∧ (J8 Jcf G' a_z8 c_z8 ((Jcn t k).town.polls) r_z8) ∧ (rI ((Jcn t k).town.net.now)) ∧ (RS Jaj G' a_z10 c_z10 ((Jcn t k).town.net.way)) ∧ (rI ((Jcn t k).reach)) ∧ (J8 JeD G' a_z12 c_z12 ((Jcn t k).fates) r_z12) ∧ (J8 Jb4 G' a_z13 c_z13 ((Jcn t k).events) r_z13) ∧ L' = [[Sg b 0 [I ((Jcn t k).town.clerk.queue.most),Sl a_z1 (((Jcn t k).town.clerk.queue.wait).length) c_z1,I ((Jcn t k).town.clerk.batch),I ((Jcn t k).town.clerk.every),I ((Jcn t k).town.clerk.now),Sl a_z5 (((Jcn t k).town.clerk.heads).length) c_z5,Sl a_z6 (((Jcn t k).town.clerk.books).length) c_z6,Sl a_z7 (((Jcn t k).town.owners).length) c_z7,Sl a_z8 (((Jcn t k).town.polls).length) c_z8,I ((Jcn t k).town.net.now),Sl a_z10 (((Jcn t k).town.net.way).length) c_z10,I ((Jcn t k).reach),Sl a_z12 (((Jcn t k).fates).length) c_z12,Sl a_z13 (((Jcn t k).events).length) c_z13]],r_z7,r_z8,r_z12,r_z13]):=by
 intro Lr
 refine JL Tryz.func117 84 [(0,Pt b 0),(1,I k)] rfl (fun w0 G0=>?_)
 show TC _ _ _ _ _ ([Sg b 0 (JQ t a_1 c_1 a_5 c_5 a_6 c_6 a_7 c_7 a_8 c_8 a_10 c_10 a_12 c_12 a_13 c_13)] :: r_7 :: r_8 :: r_12 :: r_13 :: Lr)
 obtain ⟨kn1,hkn1⟩:∃ k_:Nat,k = (k_:Int):=⟨(k).toNat,by omega⟩
 have e1:k = (kn1:Int):=hkn1
 refine JnG [(0,Pt b 0),(1,I k)] (by as_aux_lemma=>kernel_rfl) ?_
 refine JaJ (fr':=[(0,Pt b 0),(1,I (kn1:Int))]) (L':=([Sg b 0 [I t.town.clerk.queue.most,Sl a_1 t.town.clerk.queue.wait.length c_1,I t.town.clerk.batch,I t.town.clerk.every,I t.town.clerk.now,Sl a_5 t.town.clerk.heads.length c_5,Sl a_6 t.town.clerk.books.length c_6,Sl a_7 t.town.owners.length c_7,Sl a_8 t.town.polls.length c_8,I t.town.net.now,Sl a_10 t.town.net.way.length c_10,I t.reach,Sl a_12 t.fates.length c_12,Sl a_13 t.events.length c_13]] :: r_7 :: r_8 :: r_12 :: r_13 :: Lr)) (by (simp only [Jap,Jc6,JQ,Jci,e1];first | done | rfl)) (by rfl) ?_
 refine Je ?_
 have hx1:(t.town.polls)[kn1]? = some (Ja2 t (kn1:Int)):=JjJ (by omega)
 obtain ⟨b1,o1,_,_,⟨rfl,w1,w2,w3,w4,w5,w6⟩,ha1,hre1,hc1⟩:=J8.ix h_8 hx1
 refine Jau [18,19] ?_
 refine Jb6 [(0,Pt b 0),(1,Pt b 0),(2,Pt b 0),(3,Pt b 8),(4,Sl a_8 t.town.polls.length c_8),(5,I (kn1:Int)),(6,Pt b1 (o1 + kn1 * 6)),(7,(JmI kn1 t)),(8,Pt b 0),(9,Pt b 0),(10,Pt b 0),(11,Pt b 0),(12,Pt b 4),(13,I t.town.clerk.now),(14,.tuple #[(Jci (Jd9 kn1 t).1),I ((Jd9 kn1 t).2)]),(15,.tuple #[(Jci (Jd9 kn1 t).1),I ((Jd9 kn1 t).2)]),(16,(Jci (Jd9 kn1 t).1)),(17,I ((Jd9 kn1 t).2))] ?_
 refine JZ [] [(0,0),(1,0),(2,0),(3,0),(4,2),(5,0),(8,0),(9,0),(10,0),(11,0),(12,0),(13,2),(15,0),(16,0),(17,0)] [6,7,14] [18] (List.forall_mem_cons.2 ⟨?_,(List.forall_mem_cons.2 ⟨?_,(List.forall_mem_cons.2 ⟨?_,List.forall_mem_nil _⟩)⟩)⟩) (List.forall_mem_cons.2 ⟨?_,List.forall_mem_nil _⟩)
 refine Jq 6 17 (Pt b1 (o1 + kn1 * 6)) [(15,Sl a_8 t.town.polls.length c_8),(16,I (kn1:Int))] (fun X=>?_)
 exact Jbo (b:=b1) (off:=o1) (len:=t.town.polls.length) (cap:=c_8) (ik:=.i64) 17 56 6 kn1 ha1 (by omega) Jm
 refine Jq 7 18 (JmI kn1 t) [(17,Pt b1 (o1 + kn1 * 6))] (fun X=>?_)
 exact JcJ (off:=o1) (p:=kn1 * 6) (cs:=(Jc6 (Ja2 t (kn1:Int)))) 18 56 2 0 (JmI kn1 t) hre1 hc1 Jm
 refine Jq 14 25 (.tuple #[(Jci (Jd9 kn1 t).1),I ((Jd9 kn1 t).2)]) [(18,(JmI kn1 t)),(24,I t.town.clerk.now)] (fun X=>?_)
 exact Ji 25 (.tuple #[(Jci (Jd9 kn1 t).1),I ((Jd9 kn1 t).2)]) (JhG G (Jc6 (Ja2 t (kn1:Int))) (Ja2 t (kn1:Int)) (⟨rfl,w1,w2,w3,w4,w5,w6⟩) t.town.clerk.now) Jm
 refine JP 18 [] (fun X=>?_)
 refine Ju 4 #[I 0,I 0,I 0,I 0,I 0,I 0] 56 (fun b2=>?_)
 refine JU [(18,Pt b2 0)] ?_
 refine JZ [] [(0,0),(1,0),(2,0),(3,0),(4,4),(5,0),(8,0),(9,0),(10,0),(11,0),(12,0),(13,4),(15,0),(16,0),(17,0)] [6,7,14] [19] (List.forall_mem_cons.2 ⟨?_,(List.forall_mem_cons.2 ⟨?_,(List.forall_mem_cons.2 ⟨?_,List.forall_mem_nil _⟩)⟩)⟩) (List.forall_mem_cons.2 ⟨?_,List.forall_mem_nil _⟩)
 refine Jq 6 17 (Pt b1 (o1 + kn1 * 6)) [(15,Sl a_8 t.town.polls.length c_8),(16,I (kn1:Int))] (fun X=>?_)
 exact Jbo (b:=b1) (off:=o1) (len:=t.town.polls.length) (cap:=c_8) (ik:=.i64) 17 56 6 kn1 ha1 (by omega) Jm
 refine Jq 7 18 (JmI kn1 t) [(17,Pt b1 (o1 + kn1 * 6))] (fun X=>?_)
 exact JcJ (off:=o1) (p:=kn1 * 6) (cs:=(Jc6 (Ja2 t (kn1:Int)))) 18 56 3 0 (JmI kn1 t) hre1 hc1 Jm
 refine Jq 14 25 (.tuple #[(Jci (Jd9 kn1 t).1),I ((Jd9 kn1 t).2)]) [(18,(JmI kn1 t)),(24,I t.town.clerk.now)] (fun X=>?_)
 exact Ji 25 (.tuple #[(Jci (Jd9 kn1 t).1),I ((Jd9 kn1 t).2)]) (JhG G (Jc6 (Ja2 t (kn1:Int))) (Ja2 t (kn1:Int)) (⟨rfl,w1,w2,w3,w4,w5,w6⟩) t.town.clerk.now) Jm
 refine JP 19 [(4,Pt b2 0),(26,(Jci (Jd9 kn1 t).1))] (fun X=>?_)
 refine JaU 0 ([Sg b2 0 (Jc6 (Jd9 kn1 t).1)] :: [Sg b 0 (JQ t a_1 c_1 a_5 c_5 a_6 c_6 a_7 c_7 a_8 c_8 a_10 c_10 a_12 c_12 a_13 c_13)] :: r_7 :: r_8 :: r_12 :: r_13 :: Lr) ?_
 refine Jao [(20,I ((Jd9 kn1 t).2))] ?_
 refine Jav [0,1,2,3,4,5,6,7,8,9,10,11,12,13,14,15,16] [(17,0),(20,0)] [] [(0,Pt b 0),(1,I (kn1:Int)),(4,Pt b2 0),(5,I ((Jd9 kn1 t).2))] (List.forall_mem_nil _) ?_
 refine Ja (Je ?_)
 refine Jg [0,0] [(0,Pt b 0),(1,I (kn1:Int)),(4,Pt b2 0),(29,Bo (!decide ((Jd9 kn1 t).2 = 0)))] ?_
 refine Jo (!decide ((Jd9 kn1 t).2 = 0)) (fun h1=>?_) (fun h1=>?_)
 try simp only [BB] at h1
 refine Jk (Jh ?_)
 refine Jj 5 ?_
 refine Jj 5 ?_
 refine Jj 5 ?_
 refine Jj 5 ?_
 refine Jj 5 ?_
 have hf1:Jcn t k = t:=by
  rw [show k = (kn1:Int) by assumption];exact tAsk0 ‹_›
 refine Jl [] [] (JbU (Lr:=Lr) [[Sg b 0 (JQ t a_1 c_1 a_5 c_5 a_6 c_6 a_7 c_7 a_8 c_8 a_10 c_10 a_12 c_12 a_13 c_13)],r_7,r_8,r_12,r_13] (.cons_cons _ (.cons_cons _ (.cons_cons _ (.cons_cons _ (.cons_cons _ (.cons _ (List.Sublist.refl _))))))) (Jt.le_refl _) ?_)
 rw [hf1];try dsimp only
 exact ⟨a_1,c_1,a_5,c_5,a_6,c_6,a_7,c_7,a_8,c_8,a_10,c_10,a_12,c_12,a_13,c_13,r_7,r_8,r_12,r_13,rfl,h_0,h_1,h_2,h_3,h_4,h_5,h_6,h_7,h_8,h_9,h_10,h_11,h_12,h_13,rfl⟩
 try simp only [BB] at h1
 refine Jn (Ja (Je (Jb ?_)))
 refine Jd [0,0,0,0,4,0] [(0,Pt b 0),(1,I (kn1:Int)),(4,Pt b2 0),(35,Sl a_8 t.town.polls.length c_8),(36,I (kn1:Int))] ?_
 refine Jbo (b:=b1) (off:=o1) (len:=t.town.polls.length) (cap:=c_8) (ik:=.i64) 37 56 6 kn1 ha1 (by omega) ?_
 refine JcJ (off:=o1) (p:=kn1 * 6) (cs:=(Jc6 (Ja2 t (kn1:Int)))) 38 56 3 0 (JmI kn1 t) hre1 hc1 ?_
 refine Ji 39 (.tuple #[Bo ((Jig kn1 t).1),I ((Jig kn1 t).2)]) (JgY G (Jc6 (Ja2 t (kn1:Int))) (Ja2 t (kn1:Int)) (⟨rfl,w1,w2,w3,w4,w5,w6⟩)) ?_
 refine Jd [0,0,0,0,0] [(0,Pt b 0),(1,I (kn1:Int)),(4,Pt b2 0),(6,Bo ((Jig kn1 t).1))] (Jc (Ja (Je (Jb ?_))))
 refine Jd [2] [(0,Pt b 0),(1,I (kn1:Int)),(4,Pt b2 0),(6,Bo ((Jig kn1 t).1)),(43,(Jci (Jd9 kn1 t).1))] ?_
 refine Ji 44 (.tuple #[Bo ((Jki kn1 t).1),I ((Jki kn1 t).2)]) (JgY G (Jc6 (Jd9 kn1 t).1) ((Jd9 kn1 t).1) (⟨rfl,(JeY _ _).least,(JeY _ _).most,(JeY _ _).lost,(JeY _ _).gap,(JeY _ _).next,(JeY _ _).asked⟩)) ?_
 refine Jd [0,0,0,0,0] [(0,Pt b 0),(1,I (kn1:Int)),(4,Pt b2 0),(6,Bo ((Jig kn1 t).1)),(8,Bo ((Jki kn1 t).1))] (Jc (Ja (Je ?_)))
 refine Jau [8] ?_
 refine Jb6 [(0,Pt b 0),(1,Pt b 0),(2,Pt b 0),(3,Pt b 8),(4,Sl a_8 t.town.polls.length c_8),(5,I (kn1:Int)),(6,(Jci (Jd9 kn1 t).1)),(7,Pt b1 (o1 + kn1 * 6))] ?_
 refine JZ [] [(0,0),(1,0),(2,0),(3,0),(4,4),(5,0),(6,2)] [7] [8] (List.forall_mem_cons.2 ⟨?_,List.forall_mem_nil _⟩) (List.forall_mem_cons.2 ⟨?_,List.forall_mem_nil _⟩)
 refine Jq 7 54 (Pt b1 (o1 + kn1 * 6)) [(51,Sl a_8 t.town.polls.length c_8),(52,I (kn1:Int))] (fun X=>?_)
 exact Jbo (b:=b1) (off:=o1) (len:=t.town.polls.length) (cap:=c_8) (ik:=.i64) 54 56 6 kn1 ha1 (by omega) Jm
 refine JP 8 [(53,(Jci (Jd9 kn1 t).1)),(54,Pt b1 (o1 + kn1 * 6))] (fun X=>?_)
 refine Jeg (b:=b1) (off:=o1) 3 h_8 kn1 ((Jd9 kn1 t).1) ha1 (by omega) (Jci (Jd9 kn1 t).1) (Jc6 (Jd9 kn1 t).1) ⟨rfl,(JeY _ _).least,(JeY _ _).most,(JeY _ _).lost,(JeY _ _).gap,(JeY _ _).next,(JeY _ _).asked⟩ (fun r1 hr1=>?_)
 have e2:t.town.polls.length = (t.town.polls.set kn1 ((Jd9 kn1 t).1)).length:=(List.length_set ..).symm
 refine Jao [] ?_
 refine Jav [0,1,2,3,4,5,6,7] [] [] [(0,Pt b 0),(1,I (kn1:Int)),(6,Bo ((Jig kn1 t).1)),(8,Bo ((Jki kn1 t).1))] (List.forall_mem_nil _) ?_
 refine Jim (fr':=[(0,Pt b 0),(1,I (kn1:Int)),(6,Bo ((JcZ (Ja2 t (kn1:Int))).1)),(8,Bo ((JcZ ((Jaq (Ja2 t (kn1:Int)) t.town.clerk.now).1)).1))]) (L':=([Sg b2 0 [I (((Jaq (Ja2 t (kn1:Int)) t.town.clerk.now).1).least),I (((Jaq (Ja2 t (kn1:Int)) t.town.clerk.now).1).most),I (((Jaq (Ja2 t (kn1:Int)) t.town.clerk.now).1).lost),I (((Jaq (Ja2 t (kn1:Int)) t.town.clerk.now).1).gap),I (((Jaq (Ja2 t (kn1:Int)) t.town.clerk.now).1).next),I (((Jaq (Ja2 t (kn1:Int)) t.town.clerk.now).1).asked)]] :: [Sg b 0 [I t.town.clerk.queue.most,Sl a_1 t.town.clerk.queue.wait.length c_1,I t.town.clerk.batch,I t.town.clerk.every,I t.town.clerk.now,Sl a_5 t.town.clerk.heads.length c_5,Sl a_6 t.town.clerk.books.length c_6,Sl a_7 t.town.owners.length c_7,Sl a_8 ((t.town.polls.set kn1 ((Jaq (Ja2 t (kn1:Int)) t.town.clerk.now).1)).length) c_8,I t.town.net.now,Sl a_10 t.town.net.way.length c_10,I t.reach,Sl a_12 t.fates.length c_12,Sl a_13 t.events.length c_13]] :: r_7 :: r1 :: r_12 :: r_13 :: Lr)) (by rfl) (by (simp only [Jap,Jc6,JQ,Jci,e2];first | done | rfl)) ?_
 refine Ja (Je (Jb ?_))
 refine Jd [0,0,0,0,0,0,4,0] [(0,Pt b 0),(1,I (kn1:Int)),(6,Bo ((Jig kn1 t).1)),(8,Bo ((Jki kn1 t).1)),(55,Pt b 0),(56,I (kn1:Int)),(61,Sl a_7 t.town.owners.length c_7),(62,I (kn1:Int))] ?_
 have hx2:(t.town.owners)[kn1]? = some (Jp t (kn1:Int)):=Jd5 (by omega)
 obtain ⟨b3,o2,_,_,⟨a1,c1,rfl,_,_,_,_,_,_,_,_⟩,ha2,hre2,hc2⟩:=J8.ix h_7 hx2
 refine Jbo (b:=b3) (off:=o2) (len:=t.town.owners.length) (cap:=c_7) (ik:=.i64) 63 52 8 kn1 ha2 (by omega) ?_
 refine Jd [0,0] [(0,Pt b 0),(1,I (kn1:Int)),(6,Bo ((Jig kn1 t).1)),(8,Bo ((Jki kn1 t).1)),(55,Pt b 0),(56,I (kn1:Int)),(65,Pt b3 (o2 + kn1 * 8 + 2))] ?_
 refine JcJ (off:=o2) (p:=kn1 * 8) (cs:=(Jap (Jp t (kn1:Int)) a1 c1)) 66 2 2 2 (I ((Jp t (kn1:Int)).head.epoch)) hre2 hc2 ?_
 refine Jd [0,0] [(0,Pt b 0),(1,I (kn1:Int)),(6,Bo ((Jig kn1 t).1)),(8,Bo ((Jki kn1 t).1)),(55,Pt b 0),(68,.agg #[I (-1),I (kn1:Int),I (IntKind.i64.wrap (((Jp t (kn1:Int)).head.epoch) + 1)),I 0,Sl none 0 0,I 0,U 0,U 0,I 0,Sr ([]),Sl none 0 0,Sl none 0 0])] ?_
 have e3:IntKind.i64.wrap (((Jp t (kn1:Int)).head.epoch) + 1) = ((Jp t (kn1:Int)).head.epoch) + 1:=IntWalk.i64_in _ (by (have q_:=hep kn1 _ (Jd5 (by omega));omega))
 refine J1 (fr':=[(0,Pt b 0),(1,I (kn1:Int)),(6,Bo ((JcZ (Ja2 t (kn1:Int))).1)),(8,Bo ((JcZ ((Jaq (Ja2 t (kn1:Int)) t.town.clerk.now).1)).1)),(55,Pt b 0),(68,.agg #[I (-1),I (kn1:Int),I (((Jp t (kn1:Int)).head.epoch) + 1),I 0,Sl none 0 0,I 0,U 0,U 0,I 0,Sr ([]),Sl none 0 0,Sl none 0 0])]) (L':=([Sg b2 0 [I (((Jaq (Ja2 t (kn1:Int)) t.town.clerk.now).1).least),I (((Jaq (Ja2 t (kn1:Int)) t.town.clerk.now).1).most),I (((Jaq (Ja2 t (kn1:Int)) t.town.clerk.now).1).lost),I (((Jaq (Ja2 t (kn1:Int)) t.town.clerk.now).1).gap),I (((Jaq (Ja2 t (kn1:Int)) t.town.clerk.now).1).next),I (((Jaq (Ja2 t (kn1:Int)) t.town.clerk.now).1).asked)]] :: [Sg b 0 [I t.town.clerk.queue.most,Sl a_1 t.town.clerk.queue.wait.length c_1,I t.town.clerk.batch,I t.town.clerk.every,I t.town.clerk.now,Sl a_5 t.town.clerk.heads.length c_5,Sl a_6 t.town.clerk.books.length c_6,Sl a_7 t.town.owners.length c_7,Sl a_8 ((t.town.polls.set kn1 ((Jaq (Ja2 t (kn1:Int)) t.town.clerk.now).1)).length) c_8,I t.town.net.now,Sl a_10 t.town.net.way.length c_10,I t.reach,Sl a_12 t.fates.length c_12,Sl a_13 t.events.length c_13]] :: r_7 :: r1 :: r_12 :: r_13 :: Lr)) (by simp only [Jap,Jc6,JQ,Jci,e3];first | done | rfl) (by rfl) ?_
 clear e3
 refine JE 5 ?_
 refine JE 5 ?_
 refine JE 5 ?_
 refine JE 5 ?_
 refine JE 5 ?_
 refine Jbi (Ls:=[[Sg b 0 (JQ (⟨(⟨t.town.clerk,t.town.owners,(t.town.polls.set kn1 ((Jd9 kn1 t).1)),t.town.net⟩:JbK),t.reach,t.fates,t.events⟩:JF) a_1 c_1 a_5 c_5 a_6 c_6 a_7 c_7 a_8 c_8 a_10 c_10 a_12 c_12 a_13 c_13)],r_7,r1,r_12,r_13]) (Lr:=([Sg b2 0 (Jc6 (Jd9 kn1 t).1)] :: Lr)) 69 (JkK G b (⟨(⟨t.town.clerk,t.town.owners,t.town.polls.set kn1 ((Jd9 kn1 t).1),t.town.net⟩:JbK),t.reach,t.fates,t.events⟩:JF) a_1 c_1 a_5 c_5 a_6 c_6 a_7 c_7 a_8 c_8 a_10 c_10 a_12 c_12 a_13 c_13 r_7 r1 r_12 r_13 ‹_› h_1 ‹_› ‹_› ‹_› h_5 h_6 h_7 hr1 ‹_› h_10 ‹_› h_12 h_13 [I (-1),I (kn1:Int),I (((Jp t (kn1:Int)).head.epoch) + 1),I 0,Sl none 0 0,I 0,U 0,U 0,I 0,Sr ([]),Sl none 0 0,Sl none 0 0] (⟨(-1),(kn1:Int),((Jp t (kn1:Int)).head.epoch) + 1,0,[],(⟨(⟨0,0,0,0⟩:JS),(⟨[],[],[]⟩:JcD)⟩:Jct)⟩:JV) (⟨none,0,none,0,none,0,rfl,(by (dsimp only;omega)),(by (dsimp only;omega)),(by (dsimp only;(have q_:=hep kn1 _ (Jd5 (by omega));omega))),(by (dsimp only;omega)),(RS.nil' Jaz G),(by (dsimp only;omega)),(by (dsimp only;omega)),(by (dsimp only;omega)),(by (dsimp only;omega)),(Nat.le_of_ble_eq_true rfl),(RS.nil' Jbh G),(RS.nil' EU G)⟩)) (fun v G1 L1 hl1 hp=>?_)
 obtain ⟨a2,c2,a3,c3,a4,c4,a5,c5,a6,c6,a7,c7,a8,c8,a9,c9,r2,r3,r4,r5,rfl,w14,hs2,w15,w16,w17,hs3,hs4,hr2,hr3,w18,hs5,w19,hr4,hr5,rfl⟩:=hp
 refine Jc (Ja (Je (Jb ?_)))
 refine Jd [0,0] [(0,Pt b 0),(1,I (kn1:Int)),(6,Bo ((Jig kn1 t).1)),(71,Bo ((Jki kn1 t).1))] ?_
 refine Jay ((Jki kn1 t).1) (fun bb=>[(0,Pt b 0),(1,I (kn1:Int)),(6,Bo ((Jig kn1 t).1)),(71,Bo bb)]) [0,0,0] [1,1,0] (fun bb=>[(0,Pt b 0),(1,I (kn1:Int)),(74,Bo (bb && (!((Jig kn1 t).1))))]) ?_
 refine Jc (Ja ?_)
 refine Jo (((Jki kn1 t).1) && (!((Jig kn1 t).1))) (fun h2=>?_) (fun h2=>?_)
 try simp only [BB] at h2
 refine Jb ?_
 refine Jd [0,0,0,0,0,0,0,2] [(75,Pt b 0),(76,I (kn1:Int)),(82,I ((Jkh kn1 t).town.clerk.now))] ?_
 refine JE 4 ?_
 refine JE 4 ?_
 refine JE 4 ?_
 refine JE 4 ?_
 refine JE 4 ?_
 refine Jbi (Ls:=[[Sg b 0 (JQ (Jkh kn1 t) a2 c2 a3 c3 a4 c4 a5 c5 a6 c6 a7 c7 a8 c8 a9 c9)],r2,r3,r4,r5]) (Lr:=([Sg b2 0 (Jc6 (Jd9 kn1 t).1)] :: Lr)) 83 (Jif G1 b (Jkh kn1 t) a2 c2 a3 c3 a4 c4 a5 c5 a6 c6 a7 c7 a8 c8 a9 c9 r2 r3 r4 r5 w14 hs2 w15 w16 w17 hs3 hs4 hr2 hr3 w18 hs5 w19 hr4 hr5 3 (by omega) (kn1:Int) (by omega) 0 (by omega) ((Jkh kn1 t).town.clerk.now) w17 ‹_›) (fun v G2 L1 hl2 hp=>?_)
 obtain ⟨a10,c10,a11,c11,a12,c12,a13,c13,a14,c14,a15,c15,a16,c16,a17,c17,r6,r7,r8,r9,rfl,w20,hs6,w21,w22,w23,hs7,hs8,hr6,hr7,w24,hs9,w25,hr8,hr9,rfl⟩:=hp
 refine Jc ?_
 refine Jj 4 ?_
 refine Jj 4 ?_
 refine Jj 4 ?_
 refine Jj 4 ?_
 refine Jj 4 ?_
 have hf2:Jcn t k = (JbF (Jkh kn1 t) 3 (kn1:Int) 0 ((Jkh kn1 t).town.clerk.now)):=by
  rw [show k = (kn1:Int) by assumption];exact tAsk1 ‹_› ‹_›
 refine Jdl [] [] (JbU (Lr:=Lr) [[Sg b 0 (JQ (JbF (Jkh kn1 t) 3 (kn1:Int) 0 ((Jkh kn1 t).town.clerk.now)) a10 c10 a11 c11 a12 c12 a13 c13 a14 c14 a15 c15 a16 c16 a17 c17)],r6,r7,r8,r9] (.cons_cons _ (.cons_cons _ (.cons_cons _ (.cons_cons _ (.cons_cons _ (.cons _ (List.Sublist.refl _))))))) (Jt.le_trans hl1 hl2) ?_)
 rw [hf2];try dsimp only
 exact ⟨a10,c10,a11,c11,a12,c12,a13,c13,a14,c14,a15,c15,a16,c16,a17,c17,r6,r7,r8,r9,rfl,w20,hs6,w21,w22,w23,hs7,hs8,hr6,hr7,w24,hs9,w25,hr8,hr9,rfl⟩
 try simp only [BB] at h2
 refine Jn ?_
 refine Jj 4 ?_
 refine Jj 4 ?_
 refine Jj 4 ?_
 refine Jj 4 ?_
 refine Jj 4 ?_
 have hf3:Jcn t k = (Jkh kn1 t):=by
  rw [show k = (kn1:Int) by assumption];exact tAsk2 ‹_› ‹_›
 refine Jdl [] [] (JbU (Lr:=Lr) [[Sg b 0 (JQ (Jkh kn1 t) a2 c2 a3 c3 a4 c4 a5 c5 a6 c6 a7 c7 a8 c8 a9 c9)],r2,r3,r4,r5] (.cons_cons _ (.cons_cons _ (.cons_cons _ (.cons_cons _ (.cons_cons _ (.cons _ (List.Sublist.refl _))))))) hl1 ?_)
 rw [hf3];try dsimp only
 exact ⟨a2,c2,a3,c3,a4,c4,a5,c5,a6,c6,a7,c7,a8,c8,a9,c9,r2,r3,r4,r5,rfl,w14,hs2,w15,w16,w17,hs3,hs4,hr2,hr3,w18,hs5,w19,hr4,hr5,rfl⟩
end Go.Proofs.YtnnlpbjdignhaaaGreatDoor
