import Derived.Test.YtnnlpbjdignhaaaGreatDoorTcTownY
namespace Go.Proofs.YtnnlpbjdignhaaaGreatDoor
open Go.Tx
set_option linter.unusedVariables false
set_option linter.unusedSimpArgs false
open Go.Tx Go.Proofs
def Jiz:KI:=⟨[[97]],[1],1,1,1,1,1,1,1⟩
theorem Jmb:(Kz Jiz []).2.2=0∧(Kz Jiz []).1.owners.length=1:=by decide +kernel
def JeW (d:Qd):Bool:=decide (d.kind=3)
def JeX (x:Ym):Bool:=decide (x.kind=2) && decide (x.n > 1)
def Jba (s:KI) (l:List Qd):Bool:=decide ((l.length:Int)≤120) && !(l.any fun x0=>JeW x0)
theorem Jmc {s:KI} {l:List Qd} (h:Jba s l=true):∀ d∈l,¬ d.kind=3:=by
 unfold Jba JeW at h
 simp only [Bool.and_eq_true,Bool.not_eq_true',List.any_eq_false,decide_eq_true_eq] at h
 exact h.2
theorem Jkt {s:KI} {l:List Qd} (h:¬ (Kz s l).2.2=0):(Kz s l).1.owners=[]∧(Kz s l).2.1=[]:=by
 rw [JlS h];exact ⟨rfl,rfl⟩
theorem Jgo {s:KI} {l:List Qd} (h:(Kz s l).2.2=0) (hc:Jba s l=true):((Kz s l).2.1.any fun x0=>JeX x0)=false:=by
 have:=Jl9 h (Jmc hc)
 rw [List.any_eq_false]
 intro x hx
 have:=this x hx
 unfold JeX
 simp;omega
theorem Jku (G:Jt)  :QF Tryz.prog 9 #[] G [] (fun u G' L'=>u=Bo true):=by
 refine JJ Tryz.func9 20 [] rfl (fun w0 G0=>?_)
 refine Jg [0] [] (Je (Jb (KH 5 1 #[Sr ([97])] 9 (fun b1=>KH 6 1 #[U 1] 48 (fun b2=>Jd [0] [(7,.agg #[Sl (At b1 0) 1 1,Sl (At b2 0) 1 1,I 1,I 1,I 1,I 1,I 1,I 1,I 1])] (QQ (b:=b1) (o:=0) (cs:=[Sr ([97])]) 1 (fun G1 hl1 hz1=>?_)))))))
 have hs1:RS ES G1 (At b1 0) 1 [[97]]:=RS.lit [[Sr ([97])]] [[97]] ⟨⟨rfl,(Nat.le_of_ble_eq_true rfl)⟩,trivial⟩ hz1 (Nat.le_of_ble_eq_true rfl) (Nat.le_of_ble_eq_true rfl)
 refine QQ (b:=b2) (o:=0) (cs:=[U 1]) 0 (fun G2 hl2 hz2=>?_)
 have hs2:RS EU G2 (At b2 0) 1 [1]:=RS.lit [[U 1]] [1] ⟨⟨rfl,(by omega)⟩,trivial⟩ hz2 (Nat.le_of_ble_eq_true rfl) (Nat.le_of_ble_eq_true rfl)
 refine JQ 8 (Jfu G2 [Sl (At b1 0) 1 1,Sl (At b2 0) 1 1,I 1,I 1,I 1,I 1,I 1,I 1,I 1] (⟨[[97]],[1],1,1,1,1,1,1,1⟩:KI) (⟨(At b1 0),1,(At b2 0),1,rfl,(hs1.mono hl2),hs2,(by (simp;done)),(by (simp;done)),(by (simp;done)),(by (simp;done)),(by (simp;done)),(by (simp;done)),(by (simp;done))⟩) none 0 ([]) (RS.nil' Jae G2)) (fun v G3 L1 hl3 hp=>?_)
 obtain ⟨a1,c1,a2,c2,a3,c3,a4,c4,a5,c5,a6,c6,a7,c7,rfl,_,_,_,_,_,_,_,_,_,_,_,_,rfl⟩:=hp
 refine Jd [0,0,0,0] [(9,(Jfa (Kz (⟨[[97]],[1],1,1,1,1,1,1,1⟩:KI) ([])).1 a1 c1 a2 c2 a3 c3 a4 c4 a5 c5 a6 c6)),(10,Sl a7 (((Kz (⟨[[97]],[1],1,1,1,1,1,1,1⟩:KI) ([])).2.1).length) c7),(11,I ((Kz (⟨[[97]],[1],1,1,1,1,1,1,1⟩:KI) ([])).2.2))] (Ju 1 #[I 0,Sl none 0 0,I 0,I 0,I 0,Sl none 0 0,Sl none 0 0,Sl none 0 0,Sl none 0 0,I 0,Sl none 0 0] 41 (fun b3=>Kd [3,0,0] [(1,Pt b3 0),(3,I ((Kz (⟨[[97]],[1],1,1,1,1,1,1,1⟩:KI) ([])).2.2))] [[Sg b3 0 (JiR (Kz (⟨[[97]],[1],1,1,1,1,1,1,1⟩:KI) ([])).1 a1 c1 a2 c2 a3 c3 a4 c4 a5 c5 a6 c6)],[],[]] (Jc (Ja (Je (Jb (Jd [0,0,0] [(1,Pt b3 0),(14,Bo (decide ((Kz (⟨[[97]],[1],1,1,1,1,1,1,1⟩:KI) ([])).2.2=0)))] (KD (decide ((Kz (⟨[[97]],[1],1,1,1,1,1,1,1⟩:KI) ([])).2.2=0)) (fun bb=>[(1,Pt b3 0),(14,Bo bb)]) [0,2,0,0,0] [1,1,1,1,0] (fun bb=>[(19,Bo (bb && (decide ((((((Kz (⟨[[97]],[1],1,1,1,1,1,1,1⟩:KI) ([])).1).owners).length:Nat):Int)=1))))]) (Jd [0] [(0,Bo ((decide ((Kz (⟨[[97]],[1],1,1,1,1,1,1,1⟩:KI) ([])).2.2=0)) && (decide ((((((Kz (⟨[[97]],[1],1,1,1,1,1,1,1⟩:KI) ([])).1).owners).length:Nat):Int)=1))))] (Jc (Ja (Jk (Jl [0] [Bo ((decide ((Kz (⟨[[97]],[1],1,1,1,1,1,1,1⟩:KI) ([])).2.2=0)) && (decide ((((((Kz (⟨[[97]],[1],1,1,1,1,1,1,1⟩:KI) ([])).1).owners).length:Nat):Int)=1)))] (Jv (Jt.le_trans (Jt.le_trans hl1 hl2) hl3) ?_))))))))))))))
 have hf_:((decide ((Kz (⟨[[97]],[1],1,1,1,1,1,1,1⟩:KI) ([])).2.2=0)) && (decide ((((((Kz (⟨[[97]],[1],1,1,1,1,1,1,1⟩:KI) ([])).1).owners).length:Nat):Int)=1)))=true:=by
  (have q_:=Jmb;unfold Jiz at q_;simp_all;done)
 exact congrArg Bo hf_
theorem Jmd (G:Jt) (vs_x:List Value) (x:Qd) (h_x:Jae.R G vs_x x) :QF Tryz.prog 45 #[.agg vs_x.toArray] G [] (fun u G' L'=>u=Bo (JeW x)):=by
 obtain ⟨a1,c1,a2,c2,a3,c3,a4,c4,rfl,_,_,_,_,_,_,_,_,_,_,_,_,_,_,_,_⟩:=h_x
 refine JJ Tryz.func45 6 [(0,(JaH x a1 c1 a2 c2 a3 c3 a4 c4))] rfl (fun w0 G0=>?_)
 refine Je (Jb (Ju 1 #[I x.kind,I x.who,Sr x.value,Sl a1 x.fates.length c1,I x.letter.to_,I x.letter.from_,I x.letter.since,I x.letter.due,Sl a2 x.letter.heads.length c2,I x.letter.reply.head.epoch,U x.letter.reply.head.root,U x.letter.reply.head.prev,I x.letter.reply.head.at_,Sr x.letter.reply.proof.name,Sl a3 x.letter.reply.proof.entries.length c3,Sl a4 x.letter.reply.proof.sides.length c4] 74 (fun b1=>Jd [0] [(1,Pt b1 0)] (Jc (Ja (Jg [0,2,0,0] [(2,Bo (decide (x.kind=3)))] (Jk (Jl [0] [Bo (decide (x.kind=3))] (Jv (Jt.le_refl _) ?_)))))))))
 have hf_:(JeW x)=(decide (x.kind=3)):=by
  unfold JeW;simp_all
 · (try rw [hf_]);(simp only [JL];done)
theorem Jme (G:Jt) (vs_x:List Value) (x:Ym) (h_x:Q1.R G vs_x x) :QF Tryz.prog 18 #[.agg vs_x.toArray] G [] (fun u G' L'=>u=Bo (JeX x)):=by
 obtain ⟨rfl,_,_,_,_⟩:=h_x
 refine JJ Tryz.func18 11 [(0,.agg #[I x.kind,I x.who,I x.n,I x.at_])] rfl (fun w0 G0=>?_)
 refine Je (Jb (Ju 1 #[I x.kind,I x.who,I x.n,I x.at_] 60 (fun b1=>Jd [0] [(1,Pt b1 0)] (Jc (Ja (Je (Jb (Jd [0,2,0,0] [(1,Pt b1 0),(6,Bo (decide (x.kind=2)))] (KD (decide (x.kind=2)) (fun bb=>[(1,Pt b1 0),(6,Bo bb)]) [0,2,0,0] [1,1,1,0] (fun bb=>[(10,Bo (bb && (decide (x.n > 1))))]) (Jd [0] [(2,Bo ((decide (x.kind=2)) && (decide (x.n > 1))))] (Jc (Ja (Jk (Jl [0] [Bo ((decide (x.kind=2)) && (decide (x.n > 1)))] (Jv (Jt.le_refl _) ?_)))))))))))))))
 have hf_:(JeX x)=((decide (x.kind=2)) && (decide (x.n > 1))):=by
  unfold JeX;simp_all
 · (try rw [hf_]);(simp only [JL];done)
theorem Jkv (G:Jt) (vs_s:List Value) (s:KI) (h_s:JdS.R G vs_s s) (a_l:Option Addr) (c_l:Nat) (l:List Qd) (h_l:RS Jae G a_l c_l l) :QF Tryz.prog 16 #[.agg vs_s.toArray,Sl a_l l.length c_l] G [] (fun u G' L'=>u=Bo (Jba s l)):=by
 obtain ⟨a1,c1,a2,c2,rfl,_,_,_,_,_,_,_,_,_⟩:=h_s
 refine JJ Tryz.func16 13 [(0,(V3 s a1 c1 a2 c2)),(1,Sl a_l l.length c_l)] rfl (fun w0 G0=>?_)
 refine Je (Jb (Ju 2 #[Sl a1 s.names.length c1,Sl a2 s.keys.length c2,I s.most,I s.batch,I s.every,I s.least,I s.top,I s.lost,I s.reach] 25 (fun b1=>Jd [0] [(1,Sl a_l l.length c_l)] (Jc (Ja (Je (Jb (Jd [0,0,0,0] [(1,Sl a_l l.length c_l),(8,Bo (decide ((l.length:Int)≤120)))] (Wd (fun bb=>[(1,Sl a_l l.length c_l),(8,Bo bb)]) (decide ((l.length:Int)≤120)) (fun h1=>?_) (fun h1=>?_))))))))))
 try simp only [BB] at h1
 refine Jd [0] [(8,Bo true),(9,Sl a_l l.length c_l)] (Ji 10 (Bo (l.any (fun x0=>JeW x0))) (JhR G a_l c_l l h_l 45 #[] (fun x0=>JeW x0) (fun _ _=>by kernel_rfl) (fun vs0 x0 hx0=>by obtain ⟨a3,c3,a4,c4,a5,c5,a6,c6,rfl,w8,w9,w10,hs3,w11,w12,w13,w14,hs4,w15,w16,w17,w18,w19,hs5,hs6⟩:=hx0;exact Jmd G (Wk x0 a3 c3 a4 c4 a5 c5 a6 c6) x0 (⟨a3,c3,a4,c4,a5,c5,a6,c6,rfl,w8,w9,w10,hs3,w11,w12,w13,w14,hs4,w15,w16,w17,w18,w19,hs5,hs6⟩))) (Jd [0,0,0] [(4,Bo (!(l.any (fun x0=>JeW x0))))] (Jc (Ja (Jk (Jl [0] [Bo (!(l.any (fun x0=>JeW x0)))] (Jv (Jt.le_refl _) ?_)))))))
 have hf_:(Jba s l)=(!(l.any (fun x0=>JeW x0))):=by
  unfold Jba;(have q_:((l.length:Int)≤120):=(by omega);rw [decide_eq_true q_,Bool.true_and])
 · (try rw [hf_]);(simp only [JL];done)
 try simp only [BB] at h1
 refine Jd [1,1,1,0,0] [(4,Bo false)] (Jc (Ja (Jk (Jl [0] [Bo false] (Jv (Jt.le_refl _) ?_)))))
 have hf_:(Jba s l)=false:=by
  unfold Jba;(have q_:¬ ((l.length:Int)≤120):=(by omega);rw [decide_eq_false q_,Bool.false_and])
 · (try rw [hf_]);(simp only [JL];done)
theorem Jgp (G:Jt) (vs_s:List Value) (s:KI) (h_s:JdS.R G vs_s s) (a_l:Option Addr) (c_l:Nat) (l:List Qd) (h_l:RS Jae G a_l c_l l) (hf_l:l.length*208≤140737488351232):QF Tryz.prog 5 #[.agg vs_s.toArray,Sl a_l l.length c_l] G [] (fun u G' L'=>u=Bo true):=by
 obtain ⟨a1,c1,a2,c2,rfl,hs1,hs2,w1,w2,w3,w4,w5,w6,w7⟩:=h_s
 refine JJ Tryz.func5 35 [(0,(V3 s a1 c1 a2 c2)),(1,Sl a_l l.length c_l)] rfl (fun w0 G0=>?_)
 refine Je (Jb (Ju 2 #[Sl a1 s.names.length c1,Sl a2 s.keys.length c2,I s.most,I s.batch,I s.every,I s.least,I s.top,I s.lost,I s.reach] 25 (fun b1=>Jd [0] [(1,Sl a_l l.length c_l),(2,Pt b1 0)] (Jc (Ja (Je (Je (Jb (Ji 8 (Bo true) (Jku G) (Jd [0] [(1,Sl a_l l.length c_l),(2,Pt b1 0),(9,Bo false)] (Jc (Ja (Qv (Jm (Ja (Je (Jb (Jd [2,0] [(1,Sl a_l l.length c_l),(2,Pt b1 0),(11,(V3 s a1 c1 a2 c2)),(12,Sl a_l l.length c_l)] (JQ 13 (Jfu G (W4 s a1 c1 a2 c2) s (⟨a1,c1,a2,c2,rfl,hs1,hs2,w1,w2,w3,w4,w5,w6,w7⟩) a_l c_l l h_l) (fun v G1 L1 hl1 hp=>?_))))))))))))))))))))
 obtain ⟨a3,c3,a4,c4,a5,c5,a6,c6,a7,c7,a8,c8,a9,c9,rfl,_,_,_,_,_,_,_,_,_,_,_,hs9,rfl⟩:=hp
 refine Jd [0,0,0,0] [(1,Sl a_l l.length c_l),(2,Pt b1 0),(14,(Jfa (Kz s l).1 a3 c3 a4 c4 a5 c5 a6 c6 a7 c7 a8 c8)),(15,Sl a9 (((Kz s l).2.1).length) c9),(16,I ((Kz s l).2.2))] (Ju 5 #[I 0,Sl none 0 0,I 0,I 0,I 0,Sl none 0 0,Sl none 0 0,Sl none 0 0,Sl none 0 0,I 0,Sl none 0 0] 41 (fun b2=>Kd [3,0,0] [(1,Sl a_l l.length c_l),(2,Pt b1 0),(6,Sl a9 (((Kz s l).2.1).length) c9),(7,I ((Kz s l).2.2))] [[Sg b2 0 (JiR (Kz s l).1 a3 c3 a4 c4 a5 c5 a6 c6 a7 c7 a8 c8)],[Sg b1 0 (W4 s a1 c1 a2 c2)]] (Jc (Ja (Je (Je (Jb (Jd [0,0,0] [(1,Sl a_l l.length c_l),(2,Pt b1 0),(6,Sl a9 (((Kz s l).2.1).length) c9),(7,I ((Kz s l).2.2)),(19,Bo (!decide ((Kz s l).2.2=0)))] (Wd (fun bb=>[(1,Sl a_l l.length c_l),(2,Pt b1 0),(6,Sl a9 (((Kz s l).2.1).length) c9),(7,I ((Kz s l).2.2)),(19,Bo bb)]) (!decide ((Kz s l).2.2=0)) (fun h1=>?_) (fun h1=>?_))))))))))
 try simp only [BB] at h1
 refine Jd [1,1,1,1,0] [(6,Sl a9 (((Kz s l).2.1).length) c9),(7,I ((Kz s l).2.2)),(24,Bo true)] (Jc (Ja (JZ (Je (Jb (Jd [0,0,0] [(6,Sl a9 (((Kz s l).2.1).length) c9),(27,Bo (decide ((Kz s l).2.2=0)))] (KD (decide ((Kz s l).2.2=0)) (fun bb=>[(6,Sl a9 (((Kz s l).2.1).length) c9),(27,Bo bb)]) [1,1,1,0] [0,0,0,0] (fun bb=>[(31,Bo (bb || (decide ((((Kz s l).2.1).length:Int)=0))))]) (Jd [0] [(4,Bo ((decide ((Kz s l).2.2=0)) || (decide ((((Kz s l).2.1).length:Int)=0))))] (Jc (Ja (Jk (Jh (Jl [0] [Bo ((decide ((Kz s l).2.2=0)) || (decide ((((Kz s l).2.1).length:Int)=0)))] (Jv hl1 ?_))))))))))))))
 have hf_:((decide ((Kz s l).2.2=0)) || (decide ((((Kz s l).2.1).length:Int)=0)))=true:=by
  (have q_:=(Jkt ‹_›).2;simp_all;done)
 exact congrArg Bo hf_
 try simp only [BB] at h1
 refine Jd [4,0] [(6,Sl a9 (((Kz s l).2.1).length) c9),(7,I ((Kz s l).2.2)),(19,Bo false),(20,(V3 s a1 c1 a2 c2)),(21,Sl a_l l.length c_l)] (Ji 22 (Bo (Jba s l)) (Jkv G1 (W4 s a1 c1 a2 c2) s (⟨a1,c1,a2,c2,rfl,(hs1.mono hl1),(hs2.mono hl1),w1,w2,w3,w4,w5,w6,w7⟩) a_l c_l l (h_l.mono hl1)) (Jd [0,0] [(6,Sl a9 (((Kz s l).2.1).length) c9),(7,I ((Kz s l).2.2)),(24,Bo (!(Jba s l)))] (Jc (Ja (Jo (!(Jba s l)) (fun h2=>?_) (fun h2=>?_))))))
 try simp only [BB] at h2
 refine Je (Jb (Jd [0,0,0] [(6,Sl a9 (((Kz s l).2.1).length) c9),(27,Bo (decide ((Kz s l).2.2=0)))] (KD (decide ((Kz s l).2.2=0)) (fun bb=>[(6,Sl a9 (((Kz s l).2.1).length) c9),(27,Bo bb)]) [1,1,1,0] [0,0,0,0] (fun bb=>[(31,Bo (bb || (decide ((((Kz s l).2.1).length:Int)=0))))]) (Jd [0] [(4,Bo ((decide ((Kz s l).2.2=0)) || (decide ((((Kz s l).2.1).length:Int)=0))))] (Jc (Ja (Jk (Jh (Jl [0] [Bo ((decide ((Kz s l).2.2=0)) || (decide ((((Kz s l).2.1).length:Int)=0)))] (Jv hl1 ?_))))))))))
 have hf_:((decide ((Kz s l).2.2=0)) || (decide ((((Kz s l).2.1).length:Int)=0)))=true:=by
  (simp_all;done)
 exact congrArg Bo hf_
 try simp only [BB] at h2
 refine Jm (Ja (Je (Jb (Jd [0] [(32,Sl a9 (((Kz s l).2.1).length) c9)] (Ji 33 (Bo (((Kz s l).2.1).any (fun x0=>JeX x0))) (JgM G1 a9 c9 ((Kz s l).2.1) hs9 18 #[] (fun x0=>JeX x0) (fun _ _=>by kernel_rfl) (fun vs0 x0 hx0=>by obtain ⟨rfl,w13,w14,w15,w16⟩:=hx0;exact Jme G1 [I x0.kind,I x0.who,I x0.n,I x0.at_] x0 (⟨rfl,w13,w14,w15,w16⟩))) (Jd [0,0] [(4,Bo (!(((Kz s l).2.1).any (fun x0=>JeX x0))))] (Jc (Ja (Jk (Jl [0] [Bo (!(((Kz s l).2.1).any (fun x0=>JeX x0)))] (Jv hl1 ?_)))))))))))
 have hf_:(!(((Kz s l).2.1).any (fun x0=>JeX x0)))=true:=by
  (have q_:=Jgo ‹_› ‹_›;simp_all;done)
 exact congrArg Bo hf_
end Go.Proofs.YtnnlpbjdignhaaaGreatDoor
