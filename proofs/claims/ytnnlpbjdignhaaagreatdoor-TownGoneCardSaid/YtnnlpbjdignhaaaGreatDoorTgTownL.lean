import Derived.Test.YtnnlpbjdignhaaaGreatDoorTgTownY
namespace Go.Proofs.YtnnlpbjdignhaaaGreatDoor
open Go.Tx
set_option linter.unusedVariables false
set_option linter.unusedSimpArgs false
open Go.Tx Go.Proofs
def JiH:KK:=⟨[[97]],[1],1,1,1,1,1,1,1⟩
theorem Jmk:(K6 JiH []).2.2=0∧(K6 JiH []).1.owners.length=1:=by decide +kernel
def Je5 (d:Qb):Bool:=decide (d.kind=3)
def Jdr (d:Qb):Bool:=decide (d.kind=2)
def JbG (x:Yr):Bool:=decide (x.kind=3)
def V8 (s:KK) (l:List Qb):Bool:=decide ((l.length:Int)≤120) && !(l.any fun x0=>Je5 x0)
theorem Jml {s:KK} {l:List Qb} (h:V8 s l=true):∀ d∈l,¬ d.kind=3:=by
 unfold V8 Je5 at h
 simp only [Bool.and_eq_true,Bool.not_eq_true',List.any_eq_false,decide_eq_true_eq] at h
 exact h.2
theorem Jgx {s:KK} {l:List Qb} (h:(K6 s l).2.2=0) (hc:V8 s l=true) (hf:∀ x,x∈l→Jdr x=false) (h3:3≤s.least) (h2:2≤s.lost):((K6 s l).2.1.any fun x0=>JbG x0)=false:=by
 have h1:=Jml hc
 have:=Jmi h (fun d hd=>⟨h1 d hd,by have:=hf d hd;unfold Jdr at this;simpa using this⟩) h3 h2
 rw [List.any_eq_false]
 intro x hx
 have:=this x hx
 unfold JbG
 simpa using this
theorem JkB (G:Jt)  :QI Tryz.prog 9 #[] G [] (fun u G' L'=>u=Bo true):=by
 refine JK Tryz.func9 20 [] rfl (fun w0 G0=>?_)
 refine Jg [0] [] (Je (Jb (KG 5 1 #[Sr ([97])] 9 (fun b1=>KG 6 1 #[U 1] 48 (fun b2=>Jd [0] [(7,.agg #[Sl (At b1 0) 1 1,Sl (At b2 0) 1 1,I 1,I 1,I 1,I 1,I 1,I 1,I 1])] (QS (b:=b1) (o:=0) (cs:=[Sr ([97])]) 1 (fun G1 hl1 hz1=>?_)))))))
 have hs1:RS ES G1 (At b1 0) 1 [[97]]:=RS.lit [[Sr ([97])]] [[97]] ⟨⟨rfl,(Nat.le_of_ble_eq_true rfl)⟩,trivial⟩ hz1 (Nat.le_of_ble_eq_true rfl) (Nat.le_of_ble_eq_true rfl)
 refine QS (b:=b2) (o:=0) (cs:=[U 1]) 0 (fun G2 hl2 hz2=>?_)
 have hs2:RS EU G2 (At b2 0) 1 [1]:=RS.lit [[U 1]] [1] ⟨⟨rfl,(by omega)⟩,trivial⟩ hz2 (Nat.le_of_ble_eq_true rfl) (Nat.le_of_ble_eq_true rfl)
 refine JQ 8 (JfD G2 [Sl (At b1 0) 1 1,Sl (At b2 0) 1 1,I 1,I 1,I 1,I 1,I 1,I 1,I 1] (⟨[[97]],[1],1,1,1,1,1,1,1⟩:KK) (⟨(At b1 0),1,(At b2 0),1,rfl,(hs1.mono hl2),hs2,(by (simp;done)),(by (simp;done)),(by (simp;done)),(by (simp;done)),(by (simp;done)),(by (simp;done)),(by (simp;done))⟩) none 0 ([]) (RS.nil' VZ G2)) (fun v G3 L1 hl3 hp=>?_)
 obtain ⟨a1,c1,a2,c2,a3,c3,a4,c4,a5,c5,a6,c6,a7,c7,rfl,_,_,_,_,_,_,_,_,_,_,_,_,rfl⟩:=hp
 refine Jd [0,0,0,0] [(9,(Jfi (K6 (⟨[[97]],[1],1,1,1,1,1,1,1⟩:KK) ([])).1 a1 c1 a2 c2 a3 c3 a4 c4 a5 c5 a6 c6)),(10,Sl a7 (((K6 (⟨[[97]],[1],1,1,1,1,1,1,1⟩:KK) ([])).2.1).length) c7),(11,I ((K6 (⟨[[97]],[1],1,1,1,1,1,1,1⟩:KK) ([])).2.2))] (Ju 1 #[I 0,Sl none 0 0,I 0,I 0,I 0,Sl none 0 0,Sl none 0 0,Sl none 0 0,Sl none 0 0,I 0,Sl none 0 0] 41 (fun b3=>Kd [3,0,0] [(1,Pt b3 0),(3,I ((K6 (⟨[[97]],[1],1,1,1,1,1,1,1⟩:KK) ([])).2.2))] [[Sg b3 0 (JiZ (K6 (⟨[[97]],[1],1,1,1,1,1,1,1⟩:KK) ([])).1 a1 c1 a2 c2 a3 c3 a4 c4 a5 c5 a6 c6)],[],[]] (Jc (Ja (Je (Jb (Jd [0,0,0] [(1,Pt b3 0),(14,Bo (decide ((K6 (⟨[[97]],[1],1,1,1,1,1,1,1⟩:KK) ([])).2.2=0)))] (KD (decide ((K6 (⟨[[97]],[1],1,1,1,1,1,1,1⟩:KK) ([])).2.2=0)) (fun bb=>[(1,Pt b3 0),(14,Bo bb)]) [0,2,0,0,0] [1,1,1,1,0] (fun bb=>[(19,Bo (bb && (decide ((((((K6 (⟨[[97]],[1],1,1,1,1,1,1,1⟩:KK) ([])).1).owners).length:Nat):Int)=1))))]) (Jd [0] [(0,Bo ((decide ((K6 (⟨[[97]],[1],1,1,1,1,1,1,1⟩:KK) ([])).2.2=0)) && (decide ((((((K6 (⟨[[97]],[1],1,1,1,1,1,1,1⟩:KK) ([])).1).owners).length:Nat):Int)=1))))] (Jc (Ja (Jk (Jl [0] [Bo ((decide ((K6 (⟨[[97]],[1],1,1,1,1,1,1,1⟩:KK) ([])).2.2=0)) && (decide ((((((K6 (⟨[[97]],[1],1,1,1,1,1,1,1⟩:KK) ([])).1).owners).length:Nat):Int)=1)))] (Jv (Jt.le_trans (Jt.le_trans hl1 hl2) hl3) ?_))))))))))))))
 have hf_:((decide ((K6 (⟨[[97]],[1],1,1,1,1,1,1,1⟩:KK) ([])).2.2=0)) && (decide ((((((K6 (⟨[[97]],[1],1,1,1,1,1,1,1⟩:KK) ([])).1).owners).length:Nat):Int)=1)))=true:=by
  (have q_:=Jmk;unfold JiH at q_;simp_all;done)
 exact congrArg Bo hf_
theorem Jmm (G:Jt) (vs_x:List Value) (x:Qb) (h_x:VZ.R G vs_x x) :QI Tryz.prog 45 #[.agg vs_x.toArray] G [] (fun u G' L'=>u=Bo (Je5 x)):=by
 obtain ⟨a1,c1,a2,c2,a3,c3,a4,c4,rfl,_,_,_,_,_,_,_,_,_,_,_,_,_,_,_,_⟩:=h_x
 refine JK Tryz.func45 6 [(0,(Jam x a1 c1 a2 c2 a3 c3 a4 c4))] rfl (fun w0 G0=>?_)
 refine Je (Jb (Ju 1 #[I x.kind,I x.who,Sr x.value,Sl a1 x.fates.length c1,I x.letter.to_,I x.letter.from_,I x.letter.since,I x.letter.due,Sl a2 x.letter.heads.length c2,I x.letter.reply.head.epoch,U x.letter.reply.head.root,U x.letter.reply.head.prev,I x.letter.reply.head.at_,Sr x.letter.reply.proof.name,Sl a3 x.letter.reply.proof.entries.length c3,Sl a4 x.letter.reply.proof.sides.length c4] 74 (fun b1=>Jd [0] [(1,Pt b1 0)] (Jc (Ja (Jg [0,2,0,0] [(2,Bo (decide (x.kind=3)))] (Jk (Jl [0] [Bo (decide (x.kind=3))] (Jv (Jt.le_refl _) ?_)))))))))
 have hf_:(Je5 x)=(decide (x.kind=3)):=by
  unfold Je5;simp_all
 · (try rw [hf_]);(simp only [JM];done)
theorem JkC (G:Jt) (vs_x:List Value) (x:Qb) (h_x:VZ.R G vs_x x) :QI Tryz.prog 20 #[.agg vs_x.toArray] G [] (fun u G' L'=>u=Bo (Jdr x)):=by
 obtain ⟨a1,c1,a2,c2,a3,c3,a4,c4,rfl,_,_,_,_,_,_,_,_,_,_,_,_,_,_,_,_⟩:=h_x
 refine JK Tryz.func20 6 [(0,(Jam x a1 c1 a2 c2 a3 c3 a4 c4))] rfl (fun w0 G0=>?_)
 refine Je (Jb (Ju 1 #[I x.kind,I x.who,Sr x.value,Sl a1 x.fates.length c1,I x.letter.to_,I x.letter.from_,I x.letter.since,I x.letter.due,Sl a2 x.letter.heads.length c2,I x.letter.reply.head.epoch,U x.letter.reply.head.root,U x.letter.reply.head.prev,I x.letter.reply.head.at_,Sr x.letter.reply.proof.name,Sl a3 x.letter.reply.proof.entries.length c3,Sl a4 x.letter.reply.proof.sides.length c4] 74 (fun b1=>Jd [0] [(1,Pt b1 0)] (Jc (Ja (Jg [0,2,0,0] [(2,Bo (decide (x.kind=2)))] (Jk (Jl [0] [Bo (decide (x.kind=2))] (Jv (Jt.le_refl _) ?_)))))))))
 have hf_:(Jdr x)=(decide (x.kind=2)):=by
  unfold Jdr;simp_all
 · (try rw [hf_]);(simp only [JM];done)
theorem JkD (G:Jt) (vs_x:List Value) (x:Yr) (h_x:Q2.R G vs_x x) :QI Tryz.prog 21 #[.agg vs_x.toArray] G [] (fun u G' L'=>u=Bo (JbG x)):=by
 obtain ⟨rfl,_,_,_,_⟩:=h_x
 refine JK Tryz.func21 6 [(0,.agg #[I x.kind,I x.who,I x.n,I x.at_])] rfl (fun w0 G0=>?_)
 refine Je (Jb (Ju 1 #[I x.kind,I x.who,I x.n,I x.at_] 60 (fun b1=>Jd [0] [(1,Pt b1 0)] (Jc (Ja (Jg [0,2,0,0] [(2,Bo (decide (x.kind=3)))] (Jk (Jl [0] [Bo (decide (x.kind=3))] (Jv (Jt.le_refl _) ?_)))))))))
 have hf_:(JbG x)=(decide (x.kind=3)):=by
  unfold JbG;simp_all
 · (try rw [hf_]);(simp only [JM];done)
theorem JkE (G:Jt) (vs_s:List Value) (s:KK) (h_s:Jd0.R G vs_s s) (a_l:Option Addr) (c_l:Nat) (l:List Qb) (h_l:RS VZ G a_l c_l l) :QI Tryz.prog 16 #[.agg vs_s.toArray,Sl a_l l.length c_l] G [] (fun u G' L'=>u=Bo (V8 s l)):=by
 obtain ⟨a1,c1,a2,c2,rfl,_,_,_,_,_,_,_,_,_⟩:=h_s
 refine JK Tryz.func16 13 [(0,(V9 s a1 c1 a2 c2)),(1,Sl a_l l.length c_l)] rfl (fun w0 G0=>?_)
 refine Je (Jb (Ju 2 #[Sl a1 s.names.length c1,Sl a2 s.keys.length c2,I s.most,I s.batch,I s.every,I s.least,I s.top,I s.lost,I s.reach] 25 (fun b1=>Jd [0] [(1,Sl a_l l.length c_l)] (Jc (Ja (Je (Jb (Jd [0,0,0,0] [(1,Sl a_l l.length c_l),(8,Bo (decide ((l.length:Int)≤120)))] (We (fun bb=>[(1,Sl a_l l.length c_l),(8,Bo bb)]) (decide ((l.length:Int)≤120)) (fun h1=>?_) (fun h1=>?_))))))))))
 try simp only [BB] at h1
 refine Jd [0] [(8,Bo true),(9,Sl a_l l.length c_l)] (Ji 10 (Bo (l.any (fun x0=>Je5 x0))) (Jd1 G a_l c_l l h_l 45 #[] (fun x0=>Je5 x0) (fun _ _=>by kernel_rfl) (fun vs0 x0 hx0=>by obtain ⟨a3,c3,a4,c4,a5,c5,a6,c6,rfl,w8,w9,w10,hs3,w11,w12,w13,w14,hs4,w15,w16,w17,w18,w19,hs5,hs6⟩:=hx0;exact Jmm G (Wh x0 a3 c3 a4 c4 a5 c5 a6 c6) x0 (⟨a3,c3,a4,c4,a5,c5,a6,c6,rfl,w8,w9,w10,hs3,w11,w12,w13,w14,hs4,w15,w16,w17,w18,w19,hs5,hs6⟩))) (Jd [0,0,0] [(4,Bo (!(l.any (fun x0=>Je5 x0))))] (Jc (Ja (Jk (Jl [0] [Bo (!(l.any (fun x0=>Je5 x0)))] (Jv (Jt.le_refl _) ?_)))))))
 have hf_:(V8 s l)=(!(l.any (fun x0=>Je5 x0))):=by
  unfold V8;(have q_:((l.length:Int)≤120):=(by omega);rw [decide_eq_true q_,Bool.true_and])
 · (try rw [hf_]);(simp only [JM];done)
 try simp only [BB] at h1
 refine Jd [1,1,1,0,0] [(4,Bo false)] (Jc (Ja (Jk (Jl [0] [Bo false] (Jv (Jt.le_refl _) ?_)))))
 have hf_:(V8 s l)=false:=by
  unfold V8;(have q_:¬ ((l.length:Int)≤120):=(by omega);rw [decide_eq_false q_,Bool.false_and])
 · (try rw [hf_]);(simp only [JM];done)
theorem Jgy (G:Jt) (vs_s:List Value) (s:KK) (h_s:Jd0.R G vs_s s) (a_l:Option Addr) (c_l:Nat) (l:List Qb) (h_l:RS VZ G a_l c_l l) (hf_l:l.length*208≤140737488351232):QI Tryz.prog 6 #[.agg vs_s.toArray,Sl a_l l.length c_l] G [] (fun u G' L'=>u=Bo true):=by
 obtain ⟨a1,c1,a2,c2,rfl,hs1,hs2,w1,w2,w3,w4,w5,w6,w7⟩:=h_s
 refine JK Tryz.func6 40 [(0,(V9 s a1 c1 a2 c2)),(1,Sl a_l l.length c_l)] rfl (fun w0 G0=>?_)
 refine Je (Jb (Ju 2 #[Sl a1 s.names.length c1,Sl a2 s.keys.length c2,I s.most,I s.batch,I s.every,I s.least,I s.top,I s.lost,I s.reach] 25 (fun b1=>Jd [0] [(1,Sl a_l l.length c_l),(2,Pt b1 0)] (Jc (Ja (Je (Je (Jb (Ji 8 (Bo true) (JkB G) (Jd [0] [(1,Sl a_l l.length c_l),(2,Pt b1 0),(9,Bo false)] (Jc (Ja (Qw (Jn (Ja (Je (Jb (Jd [2,0] [(1,Sl a_l l.length c_l),(2,Pt b1 0),(11,(V9 s a1 c1 a2 c2)),(12,Sl a_l l.length c_l)] (JQ 13 (JfD G (W6 s a1 c1 a2 c2) s (⟨a1,c1,a2,c2,rfl,hs1,hs2,w1,w2,w3,w4,w5,w6,w7⟩) a_l c_l l h_l) (fun v G1 L1 hl1 hp=>?_))))))))))))))))))))
 obtain ⟨a3,c3,a4,c4,a5,c5,a6,c6,a7,c7,a8,c8,a9,c9,rfl,_,_,_,_,_,_,_,_,_,_,_,hs9,rfl⟩:=hp
 refine Jd [0,0,0,0] [(1,Sl a_l l.length c_l),(2,Pt b1 0),(14,(Jfi (K6 s l).1 a3 c3 a4 c4 a5 c5 a6 c6 a7 c7 a8 c8)),(15,Sl a9 (((K6 s l).2.1).length) c9),(16,I ((K6 s l).2.2))] (Ju 5 #[I 0,Sl none 0 0,I 0,I 0,I 0,Sl none 0 0,Sl none 0 0,Sl none 0 0,Sl none 0 0,I 0,Sl none 0 0] 41 (fun b2=>Kd [3,0,0] [(1,Sl a_l l.length c_l),(2,Pt b1 0),(6,Sl a9 (((K6 s l).2.1).length) c9),(7,I ((K6 s l).2.2))] [[Sg b2 0 (JiZ (K6 s l).1 a3 c3 a4 c4 a5 c5 a6 c6 a7 c7 a8 c8)],[Sg b1 0 (W6 s a1 c1 a2 c2)]] (Jc (Ja (Je (Je (Jb (Jd [0,0,0] [(1,Sl a_l l.length c_l),(2,Pt b1 0),(6,Sl a9 (((K6 s l).2.1).length) c9),(19,Bo (!decide ((K6 s l).2.2=0)))] (We (fun bb=>[(1,Sl a_l l.length c_l),(2,Pt b1 0),(6,Sl a9 (((K6 s l).2.1).length) c9),(19,Bo bb)]) (!decide ((K6 s l).2.2=0)) (fun h1=>?_) (fun h1=>?_))))))))))
 try simp only [BB] at h1
 refine Jd [1,1,1,1,0,0,1,1,1,0,0,1,1,1,0] [(1,Sl a_l l.length c_l),(6,Sl a9 (((K6 s l).2.1).length) c9),(34,Bo true)] (Jc (Ja (JZ (Jg [0] [(4,Bo true)] (Jk (Jh (Jl [0] [Bo true] (Jv hl1 ?_))))))))
 rfl
 try simp only [BB] at h1
 refine Jd [4,0] [(1,Sl a_l l.length c_l),(2,Pt b1 0),(6,Sl a9 (((K6 s l).2.1).length) c9),(19,Bo false),(20,(V9 s a1 c1 a2 c2)),(21,Sl a_l l.length c_l)] (Ji 22 (Bo (V8 s l)) (JkE G1 (W6 s a1 c1 a2 c2) s (⟨a1,c1,a2,c2,rfl,(hs1.mono hl1),(hs2.mono hl1),w1,w2,w3,w4,w5,w6,w7⟩) a_l c_l l (h_l.mono hl1)) (Jd [0,0,0] [(1,Sl a_l l.length c_l),(2,Pt b1 0),(6,Sl a9 (((K6 s l).2.1).length) c9),(25,Bo (!(V8 s l)))] (KD (!(V8 s l)) (fun bb=>[(1,Sl a_l l.length c_l),(2,Pt b1 0),(6,Sl a9 (((K6 s l).2.1).length) c9),(25,Bo bb)]) [1,1,1,0] [0,4,0,0] (fun bb=>[(1,Sl a_l l.length c_l),(2,Pt b1 0),(6,Sl a9 (((K6 s l).2.1).length) c9),(29,Bo (bb || (decide (s.least<3))))]) (Jd [0] [(1,Sl a_l l.length c_l),(2,Pt b1 0),(6,Sl a9 (((K6 s l).2.1).length) c9),(30,Bo ((!(V8 s l)) || (decide (s.least<3))))] (KD ((!(V8 s l)) || (decide (s.least<3))) (fun bb=>[(1,Sl a_l l.length c_l),(2,Pt b1 0),(6,Sl a9 (((K6 s l).2.1).length) c9),(30,Bo bb)]) [1,1,1,0] [0,4,0,0] (fun bb=>[(1,Sl a_l l.length c_l),(6,Sl a9 (((K6 s l).2.1).length) c9),(34,Bo (bb || (decide (s.lost<2))))]) (Jc (Ja (Jo (((!(V8 s l)) || (decide (s.least<3))) || (decide (s.lost<2))) (fun h2=>?_) (fun h2=>?_)))))))))
 try simp only [BB] at h2
 refine Jg [0] [(4,Bo true)] (Jk (Jh (Jl [0] [Bo true] (Jv hl1 ?_))))
 rfl
 try simp only [BB] at h2
 refine Jn (Ja (Je (Je (Jb (Jd [0] [(6,Sl a9 (((K6 s l).2.1).length) c9),(35,Sl a_l l.length c_l)] (Ji 36 (Bo (l.any (fun x0=>Jdr x0))) (Jd1 G1 a_l c_l l (h_l.mono hl1) 20 #[] (fun x0=>Jdr x0) (fun _ _=>by kernel_rfl) (fun vs0 x0 hx0=>by obtain ⟨a10,c10,a11,c11,a12,c12,a13,c13,rfl,w13,w14,w15,hs10,w16,w17,w18,w19,hs11,w20,w21,w22,w23,w24,hs12,hs13⟩:=hx0;exact JkC G1 (Wh x0 a10 c10 a11 c11 a12 c12 a13 c13) x0 (⟨a10,c10,a11,c11,a12,c12,a13,c13,rfl,w13,w14,w15,hs10,w16,w17,w18,w19,hs11,w20,w21,w22,w23,w24,hs12,hs13⟩))) (Jc (Ja (Jo (l.any (fun x0=>Jdr x0)) (fun h3=>?_) (fun h3=>?_))))))))))
 try simp only [BB] at h3
 refine Jg [0] [(4,Bo true)] (Jk (Jh (Jl [0] [Bo true] (Jv hl1 ?_))))
 rfl
 try simp only [BB] at h3
 refine Jn (Ja (Je (Jb (Jd [0] [(37,Sl a9 (((K6 s l).2.1).length) c9)] (Ji 38 (Bo (((K6 s l).2.1).any (fun x0=>JbG x0))) (JgV G1 a9 c9 ((K6 s l).2.1) hs9 21 #[] (fun x0=>JbG x0) (fun _ _=>by kernel_rfl) (fun vs0 x0 hx0=>by obtain ⟨rfl,w25,w26,w27,w28⟩:=hx0;exact JkD G1 [I x0.kind,I x0.who,I x0.n,I x0.at_] x0 (⟨rfl,w25,w26,w27,w28⟩))) (Jd [0,0] [(4,Bo (!(((K6 s l).2.1).any (fun x0=>JbG x0))))] (Jc (Ja (Jk (Jl [0] [Bo (!(((K6 s l).2.1).any (fun x0=>JbG x0)))] (Jv hl1 ?_)))))))))))
 have hf_:(!(((K6 s l).2.1).any (fun x0=>JbG x0)))=true:=by
  (have q_:=Jgx ‹_› (by exact h2.1.1) (by simp_all) (by omega) (by omega);simp_all;done)
 exact congrArg Bo hf_
end Go.Proofs.YtnnlpbjdignhaaaGreatDoor
