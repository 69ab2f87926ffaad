import Derived.Test.YtnnlpbjdignhaaaGreatDoorTfTownP
namespace Go.Proofs.YtnnlpbjdignhaaaGreatDoor
open Go.Tx
set_option linter.unusedVariables false
set_option linter.unusedSimpArgs false
open Go.Tx Go.Proofs
theorem JaG (G:Jt) (b:Nat) (t:JG) (a_1:Option Addr) (c_1:Nat) (a_5:Option Addr) (c_5:Nat) (a_6:Option Addr) (c_6:Nat) (a_7:Option Addr) (c_7:Nat) (a_8:Option Addr) (c_8:Nat) (a_10:Option Addr) (c_10:Nat) (a_12:Option Addr) (c_12:Nat) (a_13:Option Addr) (c_13:Nat) (r_7:List Kq) (r_8:List Kq) (r_12:List Kq) (r_13:List Kq) (h_0:rI t.town.clerk.queue.most) (h_1:RS QO G a_1 c_1 t.town.clerk.queue.wait) (h_2:rI t.town.clerk.batch) (h_3:rI t.town.clerk.every) (h_4:rI t.town.clerk.now) (h_5:RS KA G a_5 c_5 t.town.clerk.heads) (h_6:RS Qf G a_6 c_6 t.town.clerk.books) (h_7:J8 QI G a_7 c_7 t.town.owners r_7) (h_8:J8 Wi G a_8 c_8 t.town.polls r_8) (h_9:rI t.town.net.now) (h_10:RS Ki G a_10 c_10 t.town.net.way) (h_11:rI t.reach) (h_12:J8 YG G a_12 c_12 t.fates r_12) (h_13:J8 Q0 G a_13 c_13 t.events r_13) (k:Int) :Jar Tryz.prog 73 #[Pt b 0,I k] G [[Sg b 0 [I t.town.clerk.queue.most,Sl a_1 t.town.clerk.queue.wait.length c_1,I t.town.clerk.batch,I t.town.clerk.every,I t.town.clerk.now,Sl a_5 t.town.clerk.heads.length c_5,Sl a_6 t.town.clerk.books.length c_6,Sl a_7 t.town.owners.length c_7,Sl a_8 t.town.polls.length c_8,I t.town.net.now,Sl a_10 t.town.net.way.length c_10,I t.reach,Sl a_12 t.fates.length c_12,Sl a_13 t.events.length c_13]],r_7,r_8,r_12,r_13] (fun u G' L'=>∃ (a_z1:Option Addr) (c_z1:Nat) (a_z5:Option Addr) (c_z5:Nat) (a_z6:Option Addr) (c_z6:Nat) (a_z7:Option Addr) (c_z7:Nat) (a_z8:Option Addr) (c_z8:Nat) (a_z10:Option Addr) (c_z10:Nat) (a_z12:Option Addr) (c_z12:Nat) (a_z13:Option Addr) (c_z13:Nat) (r_z7:List Kq) (r_z8:List Kq) (r_z12:List Kq) (r_z13:List Kq),u=Bo (Wy t k)∧(rI t.town.clerk.queue.most)∧(RS QO G' a_z1 c_z1 t.town.clerk.queue.wait)∧(rI t.town.clerk.batch)∧(rI t.town.clerk.every)∧(rI t.town.clerk.now)∧(RS KA G' a_z5 c_z5 t.town.clerk.heads)∧(RS Qf G' a_z6 c_z6 t.town.clerk.books)∧(J8 QI G' a_z7 c_z7 t.town.owners r_z7)∧(J8 Wi G' a_z8 c_z8 t.town.polls r_z8)∧(rI t.town.net.now)∧(RS Ki G' a_z10 c_z10 t.town.net.way)∧(rI t.reach)∧(J8 YG G' a_z12 c_z12 t.fates r_z12)∧(J8 Q0 G' a_z13 c_z13 t.events r_z13)∧L'=[[Sg b 0 [I t.town.clerk.queue.most,Sl a_z1 t.town.clerk.queue.wait.length c_z1,I t.town.clerk.batch,I t.town.clerk.every,I t.town.clerk.now,Sl a_z5 t.town.clerk.heads.length c_z5,Sl a_z6 t.town.clerk.books.length c_z6,Sl a_z7 t.town.owners.length c_z7,Sl a_z8 t.town.polls.length c_z8,I t.town.net.now,Sl a_z10 t.town.net.way.length c_z10,I t.reach,Sl a_z12 t.fates.length c_z12,Sl a_z13 t.events.length c_z13]],r_z7,r_z8,r_z12,r_z13]):=by
 intro Lr
 refine JL Tryz.func73 17 [(0,Pt b 0),(1,I k)] rfl (fun w0 G0=>?_)
 show TC _ _ _ _ _ ([Sg b 0 (JR t a_1 c_1 a_5 c_5 a_6 c_6 a_7 c_7 a_8 c_8 a_10 c_10 a_12 c_12 a_13 c_13)]::r_7::r_8::r_12::r_13::Lr)
 refine Jg [0] [(0,Pt b 0),(1,I k)] (Je (Jb ?_))
 refine Jc [0,0,0] [(0,Pt b 0),(1,I k),(7,Bo (decide (k ≥ 0)))] ?_
 refine Ky (decide (k ≥ 0)) (fun bb=>[(0,Pt b 0),(1,I k),(7,Bo bb)]) [0,0,0,0,0,2,0,0,0] [1,1,1,1,1,1,1,1,0] (fun bb=>[(16,Bo (bb && (decide (k<(t.town.owners.length:Int)))))]) ?_
 refine Jc [0] [(4,Bo ((decide (k ≥ 0)) && (decide (k<(t.town.owners.length:Int)))))] (Jd (Ja (Jk ?_)))
 refine Jj 4 ?_
 refine Jj 4 ?_
 refine Jj 4 ?_
 refine Jj 4 ?_
 refine Jj 4 ?_
 have hf1:(t,Wy t k)=(t,(decide (k ≥ 0)) && (decide (k<(t.town.owners.length:Int)))):=by
  rfl
 refine Jl [0] [Bo ((decide (k ≥ 0)) && (decide (k<(t.town.owners.length:Int))))] (QW (Lr:=Lr) [[Sg b 0 (JR t a_1 c_1 a_5 c_5 a_6 c_6 a_7 c_7 a_8 c_8 a_10 c_10 a_12 c_12 a_13 c_13)],r_7,r_8,r_12,r_13] (.cons_cons _ (.cons_cons _ (.cons_cons _ (.cons_cons _ (.cons_cons _ (List.Sublist.refl _)))))) (Jt.le_refl _) ?_)
 try rw [hf1];try dsimp only
 exact ⟨a_1,c_1,a_5,c_5,a_6,c_6,a_7,c_7,a_8,c_8,a_10,c_10,a_12,c_12,a_13,c_13,r_7,r_8,r_12,r_13,rfl,h_0,h_1,h_2,h_3,h_4,h_5,h_6,h_7,h_8,h_9,h_10,h_11,h_12,h_13,rfl⟩
theorem Jcm (G:Jt) (b:Nat) (t:JG) (a_1:Option Addr) (c_1:Nat) (a_5:Option Addr) (c_5:Nat) (a_6:Option Addr) (c_6:Nat) (a_7:Option Addr) (c_7:Nat) (a_8:Option Addr) (c_8:Nat) (a_10:Option Addr) (c_10:Nat) (a_12:Option Addr) (c_12:Nat) (a_13:Option Addr) (c_13:Nat) (r_7:List Kq) (r_8:List Kq) (r_12:List Kq) (r_13:List Kq) (h_0:rI t.town.clerk.queue.most) (h_1:RS QO G a_1 c_1 t.town.clerk.queue.wait) (h_2:rI t.town.clerk.batch) (h_3:rI t.town.clerk.every) (h_4:rI t.town.clerk.now) (h_5:RS KA G a_5 c_5 t.town.clerk.heads) (h_6:RS Qf G a_6 c_6 t.town.clerk.books) (h_7:J8 QI G a_7 c_7 t.town.owners r_7) (h_8:J8 Wi G a_8 c_8 t.town.polls r_8) (h_9:rI t.town.net.now) (h_10:RS Ki G a_10 c_10 t.town.net.way) (h_11:rI t.reach) (h_12:J8 YG G a_12 c_12 t.fates r_12) (h_13:J8 Q0 G a_13 c_13 t.events r_13) (kind:Int) (hw_kind:rI kind) (who:Int) (hw_who:rI who) (n:Int) (hw_n:rI n) (at_:Int) (hw_at_:rI at_) (hev:t.events.length≤1000000):Jar Tryz.prog 109 #[Pt b 0,I kind,I who,I n,I at_] G [[Sg b 0 [I t.town.clerk.queue.most,Sl a_1 t.town.clerk.queue.wait.length c_1,I t.town.clerk.batch,I t.town.clerk.every,I t.town.clerk.now,Sl a_5 t.town.clerk.heads.length c_5,Sl a_6 t.town.clerk.books.length c_6,Sl a_7 t.town.owners.length c_7,Sl a_8 t.town.polls.length c_8,I t.town.net.now,Sl a_10 t.town.net.way.length c_10,I t.reach,Sl a_12 t.fates.length c_12,Sl a_13 t.events.length c_13]],r_7,r_8,r_12,r_13] (fun u G' L'=>∃ (a_z1:Option Addr) (c_z1:Nat) (a_z5:Option Addr) (c_z5:Nat) (a_z6:Option Addr) (c_z6:Nat) (a_z7:Option Addr) (c_z7:Nat) (a_z8:Option Addr) (c_z8:Nat) (a_z10:Option Addr) (c_z10:Nat) (a_z12:Option Addr) (c_z12:Nat) (a_z13:Option Addr) (c_z13:Nat) (r_z7:List Kq) (r_z8:List Kq) (r_z12:List Kq) (r_z13:List Kq),u=.tuple #[]∧(rI ((QH t kind who n at_).town.clerk.queue.most))∧(RS QO G' a_z1 c_z1 ((QH t kind who n at_).town.clerk.queue.wait))∧(rI ((QH t kind who n at_).town.clerk.batch))∧(rI ((QH t kind who n at_).town.clerk.every))∧(rI ((QH t kind who n at_).town.clerk.now))∧(RS KA G' a_z5 c_z5 ((QH t kind who n at_).town.clerk.heads))∧(RS Qf G' a_z6 c_z6 ((QH t kind who n at_).town.clerk.books))∧(J8 QI G' a_z7 c_z7 ((QH t kind who n at_).town.owners) r_z7)∧(J8 Wi G' a_z8 c_z8 ((QH t kind who n at_).town.polls) r_z8)∧(rI ((QH t kind who n at_).town.net.now))∧(RS Ki G' a_z10 c_z10 ((QH t kind who n at_).town.net.way))∧(rI ((QH t kind who n at_).reach))∧(J8 YG G' a_z12 c_z12 ((QH t kind who n at_).fates) r_z12)∧(J8 Q0 G' a_z13 c_z13 ((QH t kind who n at_).events) r_z13)∧L'=[[Sg b 0 [I ((QH t kind who n at_).town.clerk.queue.most),Sl a_z1 (((QH t kind who n at_).town.clerk.queue.wait).length) c_z1,I ((QH t kind who n at_).town.clerk.batch),I ((QH t kind who n at_).town.clerk.every),I ((QH t kind who n at_).town.clerk.now),Sl a_z5 (((QH t kind who n at_).town.clerk.heads).length) c_z5,Sl a_z6 (((QH t kind who n at_).town.clerk.books).length) c_z6,Sl a_z7 (((QH t kind who n at_).town.owners).length) c_z7,Sl a_z8 (((QH t kind who n at_).town.polls).length) c_z8,I ((QH t kind who n at_).town.net.now),Sl a_z10 (((QH t kind who n at_).town.net.way).length) c_z10,I ((QH t kind who n at_).reach),Sl a_z12 (((QH t kind who n at_).fates).length) c_z12,Sl a_z13 (((QH t kind who n at_).events).length) c_z13]],r_z7,r_z8,r_z12,r_z13]):=by
 intro Lr
 refine JL Tryz.func109 24 [(0,Pt b 0),(1,I kind),(2,I who),(3,I n),(4,I at_)] rfl (fun w0 G0=>?_)
 show TC _ _ _ _ _ ([Sg b 0 (JR t a_1 c_1 a_5 c_5 a_6 c_6 a_7 c_7 a_8 c_8 a_10 c_10 a_12 c_12 a_13 c_13)]::r_7::r_8::r_12::r_13::Lr)
 refine Jb ?_
 refine Jc [0,0,0,0,2,0,0,0,0,0] [(10,Pt b 0),(14,Sl a_13 t.events.length c_13),(19,.agg #[I kind,I who,I n,I at_])] ?_
 refine KC 20 1 #[I kind,I who,I n,I at_] 60 (fun b1=>?_)
 refine QC (b:=b1) (cs:=[I kind,I who,I n,I at_]) 21 60 5 0 (E:=Q0) (⟨kind,who,n,at_⟩:Vn) h_13 ⟨rfl,hw_kind,hw_who,hw_n,hw_at_⟩ (by (try simp only [Q0,List.length_append,List.length_cons,List.length_nil]);omega) (by (try simp only [Q0,List.length_append,List.length_cons,List.length_nil]);omega) (fun a1 c1 r1 hr1=>?_)
 refine Kb [0,0,5] [] ([Sg b1 0 [I kind,I who,I n,I at_]]::[Sg b 0 (JR (⟨t.town,t.reach,t.fates,(t.events++[(⟨kind,who,n,at_⟩:Vn)])⟩:JG) a_1 c_1 a_5 c_5 a_6 c_6 a_7 c_7 a_8 c_8 a_10 c_10 a_12 c_12 a1 c1)]::r_7::r_8::r_12::r1::Lr) (Jd ?_)
 refine Jj 5 ?_
 refine Jj 5 ?_
 refine Jj 5 ?_
 refine Jj 5 ?_
 refine Jj 5 ?_
 have hf1:QH t kind who n at_=(⟨t.town,t.reach,t.fates,t.events++[(⟨kind,who,n,at_⟩:Vn)]⟩:JG):=by
  rfl
 refine Zj [] [] (QW (Lr:=Lr) [[Sg b 0 (JR (⟨t.town,t.reach,t.fates,(t.events++[(⟨kind,who,n,at_⟩:Vn)])⟩:JG) a_1 c_1 a_5 c_5 a_6 c_6 a_7 c_7 a_8 c_8 a_10 c_10 a_12 c_12 a1 c1)],r_7,r_8,r_12,r1] (.cons_cons _ (.cons_cons _ (.cons_cons _ (.cons_cons _ (.cons_cons _ (.cons _ (List.Sublist.refl _))))))) (Jt.le_refl _) ?_)
 rw [hf1];try dsimp only
 exact ⟨a_1,c_1,a_5,c_5,a_6,c_6,a_7,c_7,a_8,c_8,a_10,c_10,a_12,c_12,a1,c1,r_7,r_8,r_12,r1,rfl,h_0,h_1,h_2,h_3,h_4,h_5,h_6,h_7,h_8,h_9,h_10,h_11,h_12,hr1,rfl⟩
set_option maxRecDepth 20000 in
abbrev Za (l:JV) (t:JG):=Kl t.town.net l ([1])
abbrev z3_1 (t:JG):=(⟨t.town,t.reach,(t.fates.drop 1),t.events⟩:JG)
theorem JeS (G:Jt) (b:Nat) (t:JG) (a_1:Option Addr) (c_1:Nat) (a_5:Option Addr) (c_5:Nat) (a_6:Option Addr) (c_6:Nat) (a_7:Option Addr) (c_7:Nat) (a_8:Option Addr) (c_8:Nat) (a_10:Option Addr) (c_10:Nat) (a_12:Option Addr) (c_12:Nat) (a_13:Option Addr) (c_13:Nat) (r_7:List Kq) (r_8:List Kq) (r_12:List Kq) (r_13:List Kq) (h_0:rI t.town.clerk.queue.most) (h_1:RS QO G a_1 c_1 t.town.clerk.queue.wait) (h_2:rI t.town.clerk.batch) (h_3:rI t.town.clerk.every) (h_4:rI t.town.clerk.now) (h_5:RS KA G a_5 c_5 t.town.clerk.heads) (h_6:RS Qf G a_6 c_6 t.town.clerk.books) (h_7:J8 QI G a_7 c_7 t.town.owners r_7) (h_8:J8 Wi G a_8 c_8 t.town.polls r_8) (h_9:rI t.town.net.now) (h_10:RS Ki G a_10 c_10 t.town.net.way) (h_11:rI t.reach) (h_12:J8 YG G a_12 c_12 t.fates r_12) (h_13:J8 Q0 G a_13 c_13 t.events r_13) (vs_l:List Value) (l:JV) (h_l:Ki.R G vs_l l) :Jar Tryz.prog 151 #[Pt b 0,.agg vs_l.toArray] G [[Sg b 0 [I t.town.clerk.queue.most,Sl a_1 t.town.clerk.queue.wait.length c_1,I t.town.clerk.batch,I t.town.clerk.every,I t.town.clerk.now,Sl a_5 t.town.clerk.heads.length c_5,Sl a_6 t.town.clerk.books.length c_6,Sl a_7 t.town.owners.length c_7,Sl a_8 t.town.polls.length c_8,I t.town.net.now,Sl a_10 t.town.net.way.length c_10,I t.reach,Sl a_12 t.fates.length c_12,Sl a_13 t.events.length c_13]],r_7,r_8,r_12,r_13] (fun u G' L'=>∃ (a_z1:Option Addr) (c_z1:Nat) (a_z5:Option Addr) (c_z5:Nat) (a_z6:Option Addr) (c_z6:Nat) (a_z7:Option Addr) (c_z7:Nat) (a_z8:Option Addr) (c_z8:Nat) (a_z10:Option Addr) (c_z10:Nat) (a_z12:Option Addr) (c_z12:Nat) (a_z13:Option Addr) (c_z13:Nat) (r_z7:List Kq) (r_z8:List Kq) (r_z12:List Kq) (r_z13:List Kq),u=.tuple #[]∧(rI ((QV t l).town.clerk.queue.most))∧(RS QO G' a_z1 c_z1 ((QV t l).town.clerk.queue.wait))∧(rI ((QV t l).town.clerk.batch))∧(rI ((QV t l).town.clerk.every))∧(rI ((QV t l).town.clerk.now))∧(RS KA G' a_z5 c_z5 ((QV t l).town.clerk.heads))∧(RS Qf G' a_z6 c_z6 ((QV t l).town.clerk.books))∧(J8 QI G' a_z7 c_z7 ((QV t l).town.owners) r_z7)∧(J8 Wi G' a_z8 c_z8 ((QV t l).town.polls) r_z8)∧(rI ((QV t l).town.net.now))∧(RS Ki G' a_z10 c_z10 ((QV t l).town.net.way))∧(rI ((QV t l).reach))∧(J8 YG G' a_z12 c_z12 ((QV t l).fates) r_z12)∧(J8 Q0 G' a_z13 c_z13 ((QV t l).events) r_z13)∧L'=[[Sg b 0 [I ((QV t l).town.clerk.queue.most),Sl a_z1 (((QV t l).town.clerk.queue.wait).length) c_z1,I ((QV t l).town.clerk.batch),I ((QV t l).town.clerk.every),I ((QV t l).town.clerk.now),Sl a_z5 (((QV t l).town.clerk.heads).length) c_z5,Sl a_z6 (((QV t l).town.clerk.books).length) c_z6,Sl a_z7 (((QV t l).town.owners).length) c_z7,Sl a_z8 (((QV t l).town.polls).length) c_z8,I ((QV t l).town.net.now),Sl a_z10 (((QV t l).town.net.way).length) c_z10,I ((QV t l).reach),Sl a_z12 (((QV t l).fates).length) c_z12,Sl a_z13 (((QV t l).events).length) c_z13]],r_z7,r_z8,r_z12,r_z13]):=by
 obtain ⟨a1,c1,a2,c2,a3,c3,rfl,w1,w2,w3,w4,hs1,w5,w6,w7,w8,w9,hs2,hs3⟩:=h_l
 intro Lr
 refine JL Tryz.func151 46 [(0,Pt b 0),(1,(KV l a1 c1 a2 c2 a3 c3))] rfl (fun w0 G0=>?_)
 show TC _ _ _ _ _ ([Sg b 0 (JR t a_1 c_1 a_5 c_5 a_6 c_6 a_7 c_7 a_8 c_8 a_10 c_10 a_12 c_12 a_13 c_13)]::r_7::r_8::r_12::r_13::Lr)
 refine Je (Jb ?_)
 refine Ju 3 #[I l.to_,I l.from_,I l.since,I l.due,Sl a1 l.heads.length c1,I l.reply.head.epoch,U l.reply.head.root,U l.reply.head.prev,I l.reply.head.at_,Sr l.reply.proof.name,Sl a2 l.reply.proof.entries.length c2,Sl a3 l.reply.proof.sides.length c3] 72 (fun b1=>?_)
 refine Jd (Ja (Je (Jb ?_)))
 refine KC 7 1 #[I 1] 3 (fun b2=>?_)
 refine Jc [0] [(0,Pt b 0),(3,Pt b1 0),(4,Sl (At b2 0) 1 1)] (Jd (Ja (Je ?_)))
 refine Jg [0,0,0,6,0,0] [(0,Pt b 0),(3,Pt b1 0),(4,Sl (At b2 0) 1 1),(13,Bo (decide ((t.fates.length:Int) > 0)))] ?_
 refine Jo (decide ((t.fates.length:Int) > 0)) (fun h1=>?_) (fun h1=>?_)
 try simp only [BB] at h1
 obtain ⟨x1,hx1⟩:=Q8 (l:=t.fates) (k:=0) (by omega)
 obtain ⟨b3,o1,_,_,⟨a4,c4,rfl,hs4⟩,ha1,hre1,hc1⟩:=J8.ix h_12 hx1
 obtain ⟨r1,hr1,hsh1⟩:=J8.dropX h_12 1 (by omega)
 obtain ⟨a5,ea1⟩:∃ z_:Option Addr,z_=(if c_12=1 then a_12 else (a_12).map (·.add (1*1))):=⟨_,rfl⟩
 have hr1:J8 YG G a5 (c_12-1) (t.fates.drop 1) r1:=by rw [ea1];exact hr1
 refine Kw [15] ?_
 refine Wa [(0,Pt b 0),(1,Pt b 0),(2,Pt b 0),(3,Pt b 12),(4,Sl a_12 t.fates.length c_12),(5,Pt b3 (o1+0*1)),(6,Sl a4 x1.length c4),(7,Pt b 0),(8,Pt b 0),(9,Pt b 12),(10,Sl a_12 t.fates.length c_12),(11,Sl a5 ((t.fates.drop 1).length) (c_12-1)),(12,Sl a4 x1.length c4),(13,Pt b 0),(14,Pt b 12)] ?_
 refine JZ [] [(0,0),(1,0),(2,0),(3,0),(4,6),(7,0),(8,0),(9,0),(10,6),(12,0),(13,0),(14,0)] [5,6,11] [15] (List.forall_mem_cons.2 ⟨?_,(List.forall_mem_cons.2 ⟨?_,(List.forall_mem_cons.2 ⟨?_,List.forall_mem_nil _⟩)⟩)⟩) (List.forall_mem_cons.2 ⟨?_,List.forall_mem_nil _⟩)
 refine Jq 5 19 (Pt b3 (o1+0*1)) [(18,Sl a_12 t.fates.length c_12)] (fun X=>?_)
 exact Qq (b:=b3) (off:=o1) (len:=t.fates.length) (cap:=c_12) (ik:=.i64) 19 65 1 0 ha1 (by omega) Jn
 refine Jq 6 20 (Sl a4 x1.length c4) [(19,Pt b3 (o1+0*1))] (fun X=>?_)
 exact WL (off:=o1) (p:=0*1) (cs:=[Sl a4 x1.length c4]) 20 65 5 0 (Sl a4 x1.length c4) hre1 hc1 Jn
 refine Jq 11 25 (Sl a5 ((t.fates.drop 1).length) (c_12-1)) [(24,Sl a_12 t.fates.length c_12)] (fun X=>?_)
 exact Wb (a:=a_12) (len:=t.fates.length) (cap:=c_12) 25 1 (some (I 1)) none 1 t.fates.length (.inr ⟨_,rfl⟩) (.inl ⟨rfl,rfl⟩) (by omega) ea1 rfl (by rw [List.length_drop]) (by have q_:=h_12.lec;omega) Jn
 refine JO 15 [(25,Sl a5 ((t.fates.drop 1).length) (c_12-1)),(27,Pt b 12)] (fun X=>?_)
 refine KQ 2 ([Sg b2 0 [I 1]]::[Sg b1 0 (J4 l a1 c1 a2 c2 a3 c3)]::[Sg b 0 (JR (z3_1 t) a_1 c_1 a_5 c_5 a_6 c_6 a_7 c_7 a_8 c_8 a_10 c_10 a5 (c_12-1) a_13 c_13)]::r_7::r_8::r_12::r_13::Lr) ?_
 refine Kj [] ?_
 refine Kv [0,1,2,3,4,5,6,7,8,9,10,11,12,13,14] [] [] [(0,Pt b 0),(3,Pt b1 0),(4,Sl a4 x1.length c4)] (List.forall_mem_nil _) ?_
 refine tq_shr 5 hsh1 ?_
 refine Ja ?_
 refine VC (σ:=Nat×(Option Addr)×Nat×Jt) (fun q_=>(Jt.le G q_.2.2.2)∧(rI (((Kl t.town.net l x1).1).now))∧(RS Ki q_.2.2.2 q_.2.1 q_.2.2.1 (((Kl t.town.net l x1).1).way))) (fun q_=>[(0,Pt b 0),(5,Pt q_.1 0),(6,I ((Kl t.town.net l x1).2))]) (fun q_=>q_.2.2.2) (fun q_=>([Sg q_.1 0 [I (((Kl t.town.net l x1).1).now),Sl q_.2.1 ((((Kl t.town.net l x1).1).way).length) q_.2.2.1]]::[Sg b2 0 [I 1]]::[Sg b1 0 (J4 l a1 c1 a2 c2 a3 c3)]::[Sg b 0 (JR (z3_1 t) a_1 c_1 a_5 c_5 a_6 c_6 a_7 c_7 a_8 c_8 a_10 c_10 a5 (c_12-1) a_13 c_13)]::r_7::r_8::r1::r_13::Lr)) ?_ (fun q_ hs=>?_)
 refine Kw [7,11,12] ?_
 refine Wa [(0,Pt b 0),(1,Pt b 0),(2,Pt b 0),(3,Pt b 9),(4,.agg #[I t.town.net.now,Sl a_10 t.town.net.way.length c_10]),(5,(KV l a1 c1 a2 c2 a3 c3)),(6,Sl a4 x1.length c4)] ?_
 refine JZ [] [(0,0),(1,0),(2,0),(3,0),(4,6),(5,4),(6,0)] [] [7,11] (List.forall_mem_nil _) (List.forall_mem_cons.2 ⟨?_,(List.forall_mem_cons.2 ⟨?_,List.forall_mem_nil _⟩)⟩)
 refine JO 7 [(33,.agg #[I t.town.net.now,Sl a_10 t.town.net.way.length c_10]),(34,(KV l a1 c1 a2 c2 a3 c3)),(35,Sl a4 x1.length c4)] (fun X=>?_)
 refine JN 36 (Z3 G [I t.town.net.now,Sl a_10 t.town.net.way.length c_10] t.town.net (⟨a_10,c_10,rfl,h_9,h_10⟩) (J4 l a1 c1 a2 c2 a3 c3) l (⟨a1,c1,a2,c2,a3,c3,rfl,w1,w2,w3,w4,hs1,w5,w6,w7,w8,w9,hs2,hs3⟩) a4 c4 x1 hs4) (fun v G1 L1 hl1 hp=>?_)
 obtain ⟨a6,c5,rfl,w10,hs5,rfl⟩:=hp
 refine JS [(7,.tuple #[.agg #[I (((Kl t.town.net l x1).1).now),Sl a6 ((((Kl t.town.net l x1).1).way).length) c5],I ((Kl t.town.net l x1).2)]),(8,.tuple #[.agg #[I (((Kl t.town.net l x1).1).now),Sl a6 ((((Kl t.town.net l x1).1).way).length) c5],I ((Kl t.town.net l x1).2)]),(9,.agg #[I (((Kl t.town.net l x1).1).now),Sl a6 ((((Kl t.town.net l x1).1).way).length) c5]),(10,I ((Kl t.town.net l x1).2))] ?_
 refine JZ [0,1,2,3,4,5,6] [(8,0),(9,0),(10,0)] [] [11] (List.forall_mem_nil _) (List.forall_mem_cons.2 ⟨?_,List.forall_mem_nil _⟩)
 refine JO 11 [] (fun X=>?_)
 refine Ju 5 #[I 0,Sl none 0 0] 39 (fun b4=>?_)
 refine JS [(11,Pt b4 0)] ?_
 refine JZ [0,1,2,3,4,5,6] [(8,0),(9,0),(10,0)] [] [12] (List.forall_mem_nil _) (List.forall_mem_cons.2 ⟨?_,List.forall_mem_nil _⟩)
 refine JO 12 [(5,Pt b4 0),(37,.agg #[I (((Kl t.town.net l x1).1).now),Sl a6 ((((Kl t.town.net l x1).1).way).length) c5])] (fun X=>?_)
 refine KQ 0 ([Sg b4 0 [I (((Kl t.town.net l x1).1).now),Sl a6 ((((Kl t.town.net l x1).1).way).length) c5]]::[Sg b2 0 [I 1]]::[Sg b1 0 (J4 l a1 c1 a2 c2 a3 c3)]::[Sg b 0 (JR (z3_1 t) a_1 c_1 a_5 c_5 a_6 c_6 a_7 c_7 a_8 c_8 a_10 c_10 a5 (c_12-1) a_13 c_13)]::r_7::r_8::r1::r_13::Lr) ?_
 refine Kj [(13,I ((Kl t.town.net l x1).2))] ?_
 refine Kv [0,1,2,3,4,5,6,8,9] [(10,0),(13,0)] [] [(0,Pt b 0),(5,Pt b4 0),(6,I ((Kl t.town.net l x1).2))] (List.forall_mem_nil _) ?_
 exact WJ (b4,a6,c5,G1) ⟨hl1,w10,hs5⟩
 refine JO 11 [] (fun X=>?_)
 refine Ju 5 #[I 0,Sl none 0 0] 39 (fun b5=>?_)
 refine JS [(11,Pt b5 0)] ?_
 refine JZ [] [(0,0),(1,0),(2,0),(3,0),(4,8),(5,6),(6,0)] [] [7] (List.forall_mem_nil _) (List.forall_mem_cons.2 ⟨?_,List.forall_mem_nil _⟩)
 refine JO 7 [(33,.agg #[I t.town.net.now,Sl a_10 t.town.net.way.length c_10]),(34,(KV l a1 c1 a2 c2 a3 c3)),(35,Sl a4 x1.length c4)] (fun X=>?_)
 refine JN 36 (Z3 G [I t.town.net.now,Sl a_10 t.town.net.way.length c_10] t.town.net (⟨a_10,c_10,rfl,h_9,h_10⟩) (J4 l a1 c1 a2 c2 a3 c3) l (⟨a1,c1,a2,c2,a3,c3,rfl,w1,w2,w3,w4,hs1,w5,w6,w7,w8,w9,hs2,hs3⟩) a4 c4 x1 hs4) (fun v G2 L1 hl2 hp=>?_)
 obtain ⟨a7,c6,rfl,w11,hs6,rfl⟩:=hp
 refine JS [(7,.tuple #[.agg #[I (((Kl t.town.net l x1).1).now),Sl a7 ((((Kl t.town.net l x1).1).way).length) c6],I ((Kl t.town.net l x1).2)]),(8,.tuple #[.agg #[I (((Kl t.town.net l x1).1).now),Sl a7 ((((Kl t.town.net l x1).1).way).length) c6],I ((Kl t.town.net l x1).2)]),(9,.agg #[I (((Kl t.town.net l x1).1).now),Sl a7 ((((Kl t.town.net l x1).1).way).length) c6]),(10,I ((Kl t.town.net l x1).2))] ?_
 refine JZ [0,1,2,3,4,5,6] [(8,0),(9,0),(10,0)] [] [12] (List.forall_mem_nil _) (List.forall_mem_cons.2 ⟨?_,List.forall_mem_nil _⟩)
 refine JO 12 [(5,Pt b5 0),(37,.agg #[I (((Kl t.town.net l x1).1).now),Sl a7 ((((Kl t.town.net l x1).1).way).length) c6])] (fun X=>?_)
 refine KQ 0 ([Sg b5 0 [I (((Kl t.town.net l x1).1).now),Sl a7 ((((Kl t.town.net l x1).1).way).length) c6]]::[Sg b2 0 [I 1]]::[Sg b1 0 (J4 l a1 c1 a2 c2 a3 c3)]::[Sg b 0 (JR (z3_1 t) a_1 c_1 a_5 c_5 a_6 c_6 a_7 c_7 a_8 c_8 a_10 c_10 a5 (c_12-1) a_13 c_13)]::r_7::r_8::r1::r_13::Lr) ?_
 refine Kj [(13,I ((Kl t.town.net l x1).2))] ?_
 refine Kv [0,1,2,3,4,5,6,8,9] [(10,0),(13,0)] [] [(0,Pt b 0),(5,Pt b5 0),(6,I ((Kl t.town.net l x1).2))] (List.forall_mem_nil _) ?_
 exact WJ (b5,a7,c6,G2) ⟨hl2,w11,hs6⟩
 obtain ⟨b4,a6,c5,G1⟩:=q_
 obtain ⟨hle1,hj1,hj2⟩:=hs
 dsimp only at hle1 hj1 hj2
 refine KJ (fr':=[(0,Pt b 0),(5,Pt b4 0),(6,I ((Kl t.town.net l x1).2))]) (L':=([Sg b4 0 [I (((Kl t.town.net l x1).1).now),Sl a6 ((((Kl t.town.net l x1).1).way).length) c5]]::[Sg b2 0 [I 1]]::[Sg b1 0 (J4 l a1 c1 a2 c2 a3 c3)]::[Sg b 0 (JR (z3_1 t) a_1 c_1 a_5 c_5 a_6 c_6 a_7 c_7 a_8 c_8 a_10 c_10 a5 (c_12-1) a_13 c_13)]::r_7::r_8::r1::r_13::Lr)) rfl rfl ?_
 refine Jg [0,0] [(0,Pt b 0),(5,Pt b4 0),(40,Bo (decide ((Kl t.town.net l x1).2=0)))] ?_
 refine Jo (decide ((Kl t.town.net l x1).2=0)) (fun h2=>?_) (fun h2=>?_)
 try simp only [BB] at h2
 refine Jb ?_
 refine Kb [0,2,0,0,0,9] [] ([Sg b4 0 [I (((Kl t.town.net l x1).1).now),Sl a6 ((((Kl t.town.net l x1).1).way).length) c5]]::[Sg b2 0 [I 1]]::[Sg b1 0 (J4 l a1 c1 a2 c2 a3 c3)]::[Sg b 0 (JR (⟨(⟨t.town.clerk,t.town.owners,t.town.polls,(Kl t.town.net l x1).1⟩:QN),t.reach,(t.fates.drop 1),t.events⟩:JG) a_1 c_1 a_5 c_5 a_6 c_6 a_7 c_7 a_8 c_8 a6 c5 a5 (c_12-1) a_13 c_13)]::r_7::r_8::r1::r_13::Lr) (Jd ?_)
 refine Jj 7 ?_
 refine Jj 7 ?_
 refine Jj 7 ?_
 refine Jj 7 ?_
 refine Jj 7 ?_
 have hf1:QV t l=(⟨(⟨t.town.clerk,t.town.owners,t.town.polls,((Kl t.town.net l x1).1)⟩:QN),t.reach,t.fates.drop 1,t.events⟩:JG):=by
  (rw [JkR (by omega) ‹_›,if_pos ‹_›];done)
 refine Zj [] [] (QW (Lr:=Lr) [[Sg b 0 (JR (⟨(⟨t.town.clerk,t.town.owners,t.town.polls,(Kl t.town.net l x1).1⟩:QN),t.reach,(t.fates.drop 1),t.events⟩:JG) a_1 c_1 a_5 c_5 a_6 c_6 a_7 c_7 a_8 c_8 a6 c5 a5 (c_12-1) a_13 c_13)],r_7,r_8,r1,r_13] (.cons_cons _ (.cons_cons _ (.cons_cons _ (.cons_cons _ (.cons_cons _ (.cons _ (.cons _ (.cons _ (List.Sublist.refl _))))))))) hle1 ?_)
 rw [hf1];try dsimp only
 exact ⟨a_1,c_1,a_5,c_5,a_6,c_6,a_7,c_7,a_8,c_8,a6,c5,a5,(c_12-1),a_13,c_13,r_7,r_8,r1,r_13,rfl,h_0,(h_1.mono hle1),h_2,h_3,h_4,(h_5.mono hle1),(h_6.mono hle1),(h_7.mono hle1),(h_8.mono hle1),hj1,hj2,h_11,(hr1.mono hle1),(h_13.mono hle1),rfl⟩
 try simp only [BB] at h2
 refine Jm ?_
 refine Jj 7 ?_
 refine Jj 7 ?_
 refine Jj 7 ?_
 refine Jj 7 ?_
 refine Jj 7 ?_
 have hf2:QV t l=(⟨t.town,t.reach,t.fates.drop 1,t.events⟩:JG):=by
  (rw [JkR (by omega) ‹_›,if_neg ‹_›];done)
 refine Zj [] [] (QW (Lr:=Lr) [[Sg b 0 (JR (z3_1 t) a_1 c_1 a_5 c_5 a_6 c_6 a_7 c_7 a_8 c_8 a_10 c_10 a5 (c_12-1) a_13 c_13)],r_7,r_8,r1,r_13] (.cons_cons _ (.cons_cons _ (.cons_cons _ (.cons_cons _ (.cons_cons _ (.cons _ (.cons _ (.cons _ (List.Sublist.refl _))))))))) hle1 ?_)
 rw [hf2];try dsimp only
 exact ⟨a_1,c_1,a_5,c_5,a_6,c_6,a_7,c_7,a_8,c_8,a_10,c_10,a5,(c_12-1),a_13,c_13,r_7,r_8,r1,r_13,rfl,h_0,(h_1.mono hle1),h_2,h_3,h_4,(h_5.mono hle1),(h_6.mono hle1),(h_7.mono hle1),(h_8.mono hle1),h_9,(h_10.mono hle1),h_11,(hr1.mono hle1),(h_13.mono hle1),rfl⟩
 try simp only [BB] at h1
 refine Jm (Ja ?_)
 refine VC (σ:=Nat×(Option Addr)×Nat×Jt) (fun q_=>(Jt.le G q_.2.2.2)∧(rI (((Za l t).1).now))∧(RS Ki q_.2.2.2 q_.2.1 q_.2.2.1 (((Za l t).1).way))) (fun q_=>[(0,Pt b 0),(5,Pt q_.1 0),(6,I ((Za l t).2))]) (fun q_=>q_.2.2.2) (fun q_=>([Sg q_.1 0 [I (((Za l t).1).now),Sl q_.2.1 ((((Za l t).1).way).length) q_.2.2.1]]::[]::[Sg b1 0 (J4 l a1 c1 a2 c2 a3 c3)]::[Sg b 0 (JR t a_1 c_1 a_5 c_5 a_6 c_6 a_7 c_7 a_8 c_8 a_10 c_10 a_12 c_12 a_13 c_13)]::r_7::r_8::r_12::r_13::Lr)) ?_ (fun q_ hs=>?_)
 refine Kw [7,11,12] ?_
 refine Wa [(0,Pt b 0),(1,Pt b 0),(2,Pt b 0),(3,Pt b 9),(4,.agg #[I t.town.net.now,Sl a_10 t.town.net.way.length c_10]),(5,(KV l a1 c1 a2 c2 a3 c3)),(6,Sl (At b2 0) 1 1)] ?_
 refine JZ [] [(0,0),(1,0),(2,0),(3,0),(4,6),(5,4),(6,0)] [] [7,11] (List.forall_mem_nil _) (List.forall_mem_cons.2 ⟨?_,(List.forall_mem_cons.2 ⟨?_,List.forall_mem_nil _⟩)⟩)
 refine JO 7 [(33,.agg #[I t.town.net.now,Sl a_10 t.town.net.way.length c_10]),(34,(KV l a1 c1 a2 c2 a3 c3)),(35,Sl (At b2 0) 1 1)] (fun X=>?_)
 refine QJ (b:=b2) (o:=0) (cs:=[I 1]) 0 (fun G3 hl3 hz1=>?_)
 have hs7:RS EI G3 (At b2 0) 1 [1]:=RS.lit [[I 1]] [1] ⟨⟨rfl,(by omega)⟩,trivial⟩ hz1 (Nat.le_of_ble_eq_true rfl) (Nat.le_of_ble_eq_true rfl)
 refine JN 36 (Z3 G3 [I t.town.net.now,Sl a_10 t.town.net.way.length c_10] t.town.net (⟨a_10,c_10,rfl,h_9,(h_10.mono hl3)⟩) (J4 l a1 c1 a2 c2 a3 c3) l (⟨a1,c1,a2,c2,a3,c3,rfl,w1,w2,w3,w4,(hs1.mono hl3),w5,w6,w7,w8,w9,(hs2.mono hl3),(hs3.mono hl3)⟩) (At b2 0) 1 ([1]) hs7) (fun v G4 L1 hl4 hp=>?_)
 obtain ⟨a8,c7,rfl,w12,hs8,rfl⟩:=hp
 refine JS [(7,.tuple #[.agg #[I (((Za l t).1).now),Sl a8 ((((Za l t).1).way).length) c7],I ((Za l t).2)]),(8,.tuple #[.agg #[I (((Za l t).1).now),Sl a8 ((((Za l t).1).way).length) c7],I ((Za l t).2)]),(9,.agg #[I (((Za l t).1).now),Sl a8 ((((Za l t).1).way).length) c7]),(10,I ((Za l t).2))] ?_
 refine JZ [0,1,2,3,4,5,6] [(8,0),(9,0),(10,0)] [] [11] (List.forall_mem_nil _) (List.forall_mem_cons.2 ⟨?_,List.forall_mem_nil _⟩)
 refine JO 11 [] (fun X=>?_)
 refine Ju 5 #[I 0,Sl none 0 0] 39 (fun b6=>?_)
 refine JS [(11,Pt b6 0)] ?_
 refine JZ [0,1,2,3,4,5,6] [(8,0),(9,0),(10,0)] [] [12] (List.forall_mem_nil _) (List.forall_mem_cons.2 ⟨?_,List.forall_mem_nil _⟩)
 refine JO 12 [(5,Pt b6 0),(37,.agg #[I (((Za l t).1).now),Sl a8 ((((Za l t).1).way).length) c7])] (fun X=>?_)
 refine KQ 0 ([Sg b6 0 [I (((Za l t).1).now),Sl a8 ((((Za l t).1).way).length) c7]]::[]::[Sg b1 0 (J4 l a1 c1 a2 c2 a3 c3)]::[Sg b 0 (JR t a_1 c_1 a_5 c_5 a_6 c_6 a_7 c_7 a_8 c_8 a_10 c_10 a_12 c_12 a_13 c_13)]::r_7::r_8::r_12::r_13::Lr) ?_
 refine Kj [(13,I ((Za l t).2))] ?_
 refine Kv [0,1,2,3,4,5,6,8,9] [(10,0),(13,0)] [] [(0,Pt b 0),(5,Pt b6 0),(6,I ((Za l t).2))] (List.forall_mem_nil _) ?_
 exact WJ (b6,a8,c7,G4) ⟨(Jt.le_trans hl3 hl4),w12,hs8⟩
 refine JO 11 [] (fun X=>?_)
 refine Ju 5 #[I 0,Sl none 0 0] 39 (fun b7=>?_)
 refine JS [(11,Pt b7 0)] ?_
 refine JZ [] [(0,0),(1,0),(2,0),(3,0),(4,8),(5,6),(6,0)] [] [7] (List.forall_mem_nil _) (List.forall_mem_cons.2 ⟨?_,List.forall_mem_nil _⟩)
 refine JO 7 [(33,.agg #[I t.town.net.now,Sl a_10 t.town.net.way.length c_10]),(34,(KV l a1 c1 a2 c2 a3 c3)),(35,Sl (At b2 0) 1 1)] (fun X=>?_)
 refine QJ (b:=b2) (o:=0) (cs:=[I 1]) 1 (fun G5 hl5 hz2=>?_)
 have hs9:RS EI G5 (At b2 0) 1 [1]:=RS.lit [[I 1]] [1] ⟨⟨rfl,(by omega)⟩,trivial⟩ hz2 (Nat.le_of_ble_eq_true rfl) (Nat.le_of_ble_eq_true rfl)
 refine JN 36 (Z3 G5 [I t.town.net.now,Sl a_10 t.town.net.way.length c_10] t.town.net (⟨a_10,c_10,rfl,h_9,(h_10.mono hl5)⟩) (J4 l a1 c1 a2 c2 a3 c3) l (⟨a1,c1,a2,c2,a3,c3,rfl,w1,w2,w3,w4,(hs1.mono hl5),w5,w6,w7,w8,w9,(hs2.mono hl5),(hs3.mono hl5)⟩) (At b2 0) 1 ([1]) hs9) (fun v G6 L1 hl6 hp=>?_)
 obtain ⟨a9,c8,rfl,w13,hs10,rfl⟩:=hp
 refine JS [(7,.tuple #[.agg #[I (((Za l t).1).now),Sl a9 ((((Za l t).1).way).length) c8],I ((Za l t).2)]),(8,.tuple #[.agg #[I (((Za l t).1).now),Sl a9 ((((Za l t).1).way).length) c8],I ((Za l t).2)]),(9,.agg #[I (((Za l t).1).now),Sl a9 ((((Za l t).1).way).length) c8]),(10,I ((Za l t).2))] ?_
 refine JZ [0,1,2,3,4,5,6] [(8,0),(9,0),(10,0)] [] [12] (List.forall_mem_nil _) (List.forall_mem_cons.2 ⟨?_,List.forall_mem_nil _⟩)
 refine JO 12 [(5,Pt b7 0),(37,.agg #[I (((Za l t).1).now),Sl a9 ((((Za l t).1).way).length) c8])] (fun X=>?_)
 refine KQ 0 ([Sg b7 0 [I (((Za l t).1).now),Sl a9 ((((Za l t).1).way).length) c8]]::[]::[Sg b1 0 (J4 l a1 c1 a2 c2 a3 c3)]::[Sg b 0 (JR t a_1 c_1 a_5 c_5 a_6 c_6 a_7 c_7 a_8 c_8 a_10 c_10 a_12 c_12 a_13 c_13)]::r_7::r_8::r_12::r_13::Lr) ?_
 refine Kj [(13,I ((Za l t).2))] ?_
 refine Kv [0,1,2,3,4,5,6,8,9] [(10,0),(13,0)] [] [(0,Pt b 0),(5,Pt b7 0),(6,I ((Za l t).2))] (List.forall_mem_nil _) ?_
 exact WJ (b7,a9,c8,G6) ⟨(Jt.le_trans hl5 hl6),w13,hs10⟩
 obtain ⟨b6,a8,c7,G4⟩:=q_
 obtain ⟨hle2,hj3,hj4⟩:=hs
 dsimp only at hle2 hj3 hj4
 refine KJ (fr':=[(0,Pt b 0),(5,Pt b6 0),(6,I ((Za l t).2))]) (L':=([Sg b6 0 [I (((Za l t).1).now),Sl a8 ((((Za l t).1).way).length) c7]]::[]::[Sg b1 0 (J4 l a1 c1 a2 c2 a3 c3)]::[Sg b 0 (JR t a_1 c_1 a_5 c_5 a_6 c_6 a_7 c_7 a_8 c_8 a_10 c_10 a_12 c_12 a_13 c_13)]::r_7::r_8::r_12::r_13::Lr)) rfl rfl ?_
 refine Jg [0,0] [(0,Pt b 0),(5,Pt b6 0),(40,Bo (decide ((Za l t).2=0)))] ?_
 refine Jo (decide ((Za l t).2=0)) (fun h3=>?_) (fun h3=>?_)
 try simp only [BB] at h3
 refine Jb ?_
 refine Kb [0,2,0,0,0,9] [] ([Sg b6 0 [I (((Za l t).1).now),Sl a8 ((((Za l t).1).way).length) c7]]::[]::[Sg b1 0 (J4 l a1 c1 a2 c2 a3 c3)]::[Sg b 0 (JR (⟨(⟨t.town.clerk,t.town.owners,t.town.polls,(Za l t).1⟩:QN),t.reach,t.fates,t.events⟩:JG) a_1 c_1 a_5 c_5 a_6 c_6 a_7 c_7 a_8 c_8 a8 c7 a_12 c_12 a_13 c_13)]::r_7::r_8::r_12::r_13::Lr) (Jd ?_)
 refine Jj 7 ?_
 refine Jj 7 ?_
 refine Jj 7 ?_
 refine Jj 7 ?_
 refine Jj 7 ?_
 have hf3:QV t l=(⟨(⟨t.town.clerk,t.town.owners,t.town.polls,((Za l t).1)⟩:QN),t.reach,t.fates,t.events⟩:JG):=by
  (rw [JkQ (by omega),if_pos ‹_›];done)
 refine Zj [] [] (QW (Lr:=Lr) [[Sg b 0 (JR (⟨(⟨t.town.clerk,t.town.owners,t.town.polls,(Za l t).1⟩:QN),t.reach,t.fates,t.events⟩:JG) a_1 c_1 a_5 c_5 a_6 c_6 a_7 c_7 a_8 c_8 a8 c7 a_12 c_12 a_13 c_13)],r_7,r_8,r_12,r_13] (.cons_cons _ (.cons_cons _ (.cons_cons _ (.cons_cons _ (.cons_cons _ (.cons _ (.cons _ (.cons _ (List.Sublist.refl _))))))))) hle2 ?_)
 rw [hf3];try dsimp only
 exact ⟨a_1,c_1,a_5,c_5,a_6,c_6,a_7,c_7,a_8,c_8,a8,c7,a_12,c_12,a_13,c_13,r_7,r_8,r_12,r_13,rfl,h_0,(h_1.mono hle2),h_2,h_3,h_4,(h_5.mono hle2),(h_6.mono hle2),(h_7.mono hle2),(h_8.mono hle2),hj3,hj4,h_11,(h_12.mono hle2),(h_13.mono hle2),rfl⟩
 try simp only [BB] at h3
 refine Jm ?_
 refine Jj 7 ?_
 refine Jj 7 ?_
 refine Jj 7 ?_
 refine Jj 7 ?_
 refine Jj 7 ?_
 have hf4:QV t l=t:=by
  (rw [JkQ (by omega),if_neg ‹_›];done)
 refine Zj [] [] (QW (Lr:=Lr) [[Sg b 0 (JR t a_1 c_1 a_5 c_5 a_6 c_6 a_7 c_7 a_8 c_8 a_10 c_10 a_12 c_12 a_13 c_13)],r_7,r_8,r_12,r_13] (.cons_cons _ (.cons_cons _ (.cons_cons _ (.cons_cons _ (.cons_cons _ (.cons _ (.cons _ (.cons _ (List.Sublist.refl _))))))))) hle2 ?_)
 rw [hf4];try dsimp only
 exact ⟨a_1,c_1,a_5,c_5,a_6,c_6,a_7,c_7,a_8,c_8,a_10,c_10,a_12,c_12,a_13,c_13,r_7,r_8,r_12,r_13,rfl,h_0,(h_1.mono hle2),h_2,h_3,h_4,(h_5.mono hle2),(h_6.mono hle2),(h_7.mono hle2),(h_8.mono hle2),h_9,(h_10.mono hle2),h_11,(h_12.mono hle2),(h_13.mono hle2),rfl⟩
end Go.Proofs.YtnnlpbjdignhaaaGreatDoor
