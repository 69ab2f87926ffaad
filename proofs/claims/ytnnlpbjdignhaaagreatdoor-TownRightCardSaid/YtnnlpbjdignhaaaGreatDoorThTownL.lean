import Derived.Test.YtnnlpbjdignhaaaGreatDoorThTownY
namespace Go.Proofs.YtnnlpbjdignhaaaGreatDoor
open Go.Tx
set_option linter.unusedVariables false
set_option linter.unusedSimpArgs false
open Go.Tx Go.Proofs
def JnF:JaE:=⟨[[97]],[1],1,1,1,1,1,1,1⟩
theorem Jq3:(J5 JnF []).2.2 = 0 ∧ (J5 JnF []).1.owners.length = 1:=by decide +kernel
theorem Jpr {s:JaE} {l:List JbE} (h:¬ (J5 s l).2.2 = 0):(J5 s l).1.owners = [] ∧ (J5 s l).2.1 = []:=by
 rw [JqO h];exact ⟨rfl,rfl⟩
theorem Jps (G:Jt)  :Con Tryz.prog 9 #[] G [] (fun u G' L'=>u = Bo true):=by
 refine JL Tryz.func9 20 [] rfl (fun w0 G0=>?_)
 refine Jg [0] [] (Je (Jb ?_))
 refine JaB 5 1 #[Sr ([97])] 9 (fun b1=>?_)
 refine JaB 6 1 #[U 1] 48 (fun b2=>?_)
 refine Jd [0] [(7,.agg #[Sl (At b1 0) 1 1,Sl (At b2 0) 1 1,I 1,I 1,I 1,I 1,I 1,I 1,I 1])] ?_
 refine JbH (b:=b1) (o:=0) (cs:=[Sr ([97])]) 1 (fun G1 hl1 hz1=>?_)
 have hs1:RS ES G1 (At b1 0) 1 [[97]]:=RS.lit [[Sr ([97])]] [[97]] ⟨⟨rfl,(Nat.le_of_ble_eq_true rfl)⟩,trivial⟩ hz1 (Nat.le_of_ble_eq_true rfl) (Nat.le_of_ble_eq_true rfl)
 refine JbH (b:=b2) (o:=0) (cs:=[U 1]) 0 (fun G2 hl2 hz2=>?_)
 have hs2:RS EU G2 (At b2 0) 1 [1]:=RS.lit [[U 1]] [1] ⟨⟨rfl,(by omega)⟩,trivial⟩ hz2 (Nat.le_of_ble_eq_true rfl) (Nat.le_of_ble_eq_true rfl)
 refine JN 8 (JkO G2 [Sl (At b1 0) 1 1,Sl (At b2 0) 1 1,I 1,I 1,I 1,I 1,I 1,I 1,I 1] (⟨[[97]],[1],1,1,1,1,1,1,1⟩:JaE) (⟨(At b1 0),1,(At b2 0),1,rfl,(hs1.mono hl2),hs2,(by (simp;done)),(by (simp;done)),(by (simp;done)),(by (simp;done)),(by (simp;done)),(by (simp;done)),(by (simp;done))⟩) none 0 ([]) (RS.nil' Jjk G2)) (fun v G3 L1 hl3 hp=>?_)
 obtain ⟨a1,c1,a2,c2,a3,c3,a4,c4,a5,c5,a6,c6,a7,c7,rfl,_,_,_,_,_,_,_,_,_,_,_,_,rfl⟩:=hp
 refine Jd [0,0,0,0] [(9,(Jjl (J5 (⟨[[97]],[1],1,1,1,1,1,1,1⟩:JaE) ([])).1 a1 c1 a2 c2 a3 c3 a4 c4 a5 c5 a6 c6)),(10,Sl a7 (((J5 (⟨[[97]],[1],1,1,1,1,1,1,1⟩:JaE) ([])).2.1).length) c7),(11,I ((J5 (⟨[[97]],[1],1,1,1,1,1,1,1⟩:JaE) ([])).2.2))] ?_
 refine Ju 1 #[I 0,Sl none 0 0,I 0,I 0,I 0,Sl none 0 0,Sl none 0 0,Sl none 0 0,Sl none 0 0,I 0,Sl none 0 0] 41 (fun b3=>?_)
 refine Jaa [3,0,0] [(1,Pt b3 0),(3,I ((J5 (⟨[[97]],[1],1,1,1,1,1,1,1⟩:JaE) ([])).2.2))] [[Sg b3 0 (Jhm (J5 (⟨[[97]],[1],1,1,1,1,1,1,1⟩:JaE) ([])).1 a1 c1 a2 c2 a3 c3 a4 c4 a5 c5 a6 c6)],[],[]] (Jc (Ja (Je (Jb ?_))))
 refine Jd [0,0,0] [(1,Pt b3 0),(14,Bo (decide ((J5 (⟨[[97]],[1],1,1,1,1,1,1,1⟩:JaE) ([])).2.2 = 0)))] ?_
 refine Jay (decide ((J5 (⟨[[97]],[1],1,1,1,1,1,1,1⟩:JaE) ([])).2.2 = 0)) (fun bb=>[(1,Pt b3 0),(14,Bo bb)]) [0,2,0,0,0] [1,1,1,1,0] (fun bb=>[(19,Bo (bb && (decide ((((((J5 (⟨[[97]],[1],1,1,1,1,1,1,1⟩:JaE) ([])).1).owners).length:Nat):Int) = 1))))]) ?_
 refine Jd [0] [(0,Bo ((decide ((J5 (⟨[[97]],[1],1,1,1,1,1,1,1⟩:JaE) ([])).2.2 = 0)) && (decide ((((((J5 (⟨[[97]],[1],1,1,1,1,1,1,1⟩:JaE) ([])).1).owners).length:Nat):Int) = 1))))] (Jc (Ja (Jk ?_)))
 refine Jl [0] [Bo ((decide ((J5 (⟨[[97]],[1],1,1,1,1,1,1,1⟩:JaE) ([])).2.2 = 0)) && (decide ((((((J5 (⟨[[97]],[1],1,1,1,1,1,1,1⟩:JaE) ([])).1).owners).length:Nat):Int) = 1)))] (Jw (Jt.le_trans (Jt.le_trans hl1 hl2) hl3) ?_)
 have hf_:((decide ((J5 (⟨[[97]],[1],1,1,1,1,1,1,1⟩:JaE) ([])).2.2 = 0)) && (decide ((((((J5 (⟨[[97]],[1],1,1,1,1,1,1,1⟩:JaE) ([])).1).owners).length:Nat):Int) = 1))) = true:=by
  (have q_:=Jq3;unfold JnF at q_;simp_all;done)
 exact congrArg Bo hf_
set_option maxRecDepth 20000 in
theorem Jkk (G:Jt) (vs_s:List Value) (s:JaE) (h_s:Jk3.R G vs_s s) (a_l:Option Addr) (c_l:Nat) (l:List JbE) (h_l:RS Jjk G a_l c_l l) (hf_l:l.length * 208 ≤ 140737488351232):Con Tryz.prog 3 #[.agg vs_s.toArray,Sl a_l l.length c_l] G [] (fun u G' L'=>u = Bo true):=by
 obtain ⟨a1,c1,a2,c2,rfl,hs1,hs2,w1,w2,w3,w4,w5,w6,w7⟩:=h_s
 refine JL Tryz.func3 103 [(0,(JfT s a1 c1 a2 c2)),(1,Sl a_l l.length c_l)] rfl (fun w0 G0=>?_)
 refine Je (Jb ?_)
 refine Ju 2 #[Sl a1 s.names.length c1,Sl a2 s.keys.length c2,I s.most,I s.batch,I s.every,I s.least,I s.top,I s.lost,I s.reach] 25 (fun b1=>?_)
 refine Jd [0] [(1,Sl a_l l.length c_l),(2,Pt b1 0)] (Jc (Ja (Je (Je (Jb ?_)))))
 refine Ji 10 (Bo true) (Jps G) ?_
 refine Jd [0] [(1,Sl a_l l.length c_l),(2,Pt b1 0),(11,Bo false)] (Jc (Ja ?_))
 refine Jbk ?_
 refine Jn (Ja (Je (Jb ?_)))
 refine Jd [2,0] [(2,Pt b1 0),(13,(JfT s a1 c1 a2 c2)),(14,Sl a_l l.length c_l)] ?_
 refine JN 15 (JkO G (Jcu s a1 c1 a2 c2) s (⟨a1,c1,a2,c2,rfl,hs1,hs2,w1,w2,w3,w4,w5,w6,w7⟩) a_l c_l l h_l) (fun v G1 L1 hl1 hp=>?_)
 obtain ⟨a3,c3,a4,c4,a5,c5,a6,c6,a7,c7,a8,c8,a9,c9,rfl,w8,hs3,w9,w10,w11,hs4,hs5,hs6,hs7,w12,hs8,_,rfl⟩:=hp
 refine Jd [0,0,0,0] [(2,Pt b1 0),(16,(Jjl (J5 s l).1 a3 c3 a4 c4 a5 c5 a6 c6 a7 c7 a8 c8)),(17,Sl a9 (((J5 s l).2.1).length) c9),(18,I ((J5 s l).2.2))] ?_
 refine Ju 5 #[I 0,Sl none 0 0,I 0,I 0,I 0,Sl none 0 0,Sl none 0 0,Sl none 0 0,Sl none 0 0,I 0,Sl none 0 0] 41 (fun b2=>?_)
 refine Jaa [3,0,0] [(2,Pt b1 0),(5,Pt b2 0),(7,I ((J5 s l).2.2))] [[Sg b2 0 (Jhm (J5 s l).1 a3 c3 a4 c4 a5 c5 a6 c6 a7 c7 a8 c8)],[Sg b1 0 (Jcu s a1 c1 a2 c2)]] (Jc (Ja (Je ?_)))
 refine Jg [0,0] [(2,Pt b1 0),(5,Pt b2 0),(20,Bo (!decide ((J5 s l).2.2 = 0)))] ?_
 refine Jo (!decide ((J5 s l).2.2 = 0)) (fun h1=>?_) (fun h1=>?_)
 try simp only [BB] at h1
 refine Jg [0,2,0,0,0] [(4,Bo (decide (((((J5 s l).1).owners).length:Int) = 0)))] (Jk (Jh ?_))
 refine Jl [0] [Bo (decide (((((J5 s l).1).owners).length:Int) = 0))] (Jw hl1 ?_)
 have hf_:(decide (((((J5 s l).1).owners).length:Int) = 0)) = true:=by
  (have q_:=(Jpr ‹_›).1;simp_all;done)
 exact congrArg Bo hf_
 try simp only [BB] at h1
 refine Jn (Ja (Je (Je (Jb ?_))))
 refine Jd [0,2] [(2,Pt b1 0),(5,Pt b2 0),(26,(JaL (J5 s l).1.clerk a3 c3 a4 c4 a5 c5))] ?_
 refine Ji 27 (I (J4 (((J5 s l).1).clerk))) (Jd3 G1 (Jal (J5 s l).1.clerk a3 c3 a4 c4 a5 c5) (((J5 s l).1).clerk) (⟨a3,c3,a4,c4,a5,c5,rfl,w8,hs3,w9,w10,w11,hs4,hs5⟩)) ?_
 refine Jd [0,0] [(2,Pt b1 0),(5,Pt b2 0),(29,Bo (!decide (J4 (((J5 s l).1).clerk) = 0)))] ?_
 refine Jb8 (fun bb=>[(2,Pt b1 0),(5,Pt b2 0),(29,Bo bb)]) (!decide (J4 (((J5 s l).1).clerk) = 0)) (fun h2=>?_) (fun h2=>?_)
 try simp only [BB] at h2
 refine Jd [1,1,1,1,0,0,1,1,1,1,1,1,1,0,0,1,1,1,1,1,1,1,0,0,1,1,1,1,1,1,1,0] [(2,Pt b1 0),(5,Pt b2 0),(61,Bo true)] (Jc (Ja ?_))
 refine JT ?_
 refine Jg [0] [(4,Bo false)] (Jk (Jh ?_))
 refine Jl [0] [Bo false] (Jw hl1 ?_)
 exfalso
 · (have q_:=(JdP ‹_›);simp_all;done)
 try simp only [BB] at h2
 refine Jd [0,2] [(2,Pt b1 0),(5,Pt b2 0),(29,Bo false),(31,.agg #[I (((J5 s l).1).net.now),Sl a8 ((((J5 s l).1).net.way).length) c8])] ?_
 refine Ji 32 (I (JaF (((J5 s l).1).net))) (Jf7 G1 [I (((J5 s l).1).net.now),Sl a8 ((((J5 s l).1).net.way).length) c8] (((J5 s l).1).net) (⟨a8,c8,rfl,w12,hs8⟩)) ?_
 refine Jd [0,0,0] [(2,Pt b1 0),(5,Pt b2 0),(35,Bo (!decide (JaF (((J5 s l).1).net) = 0)))] ?_
 refine Jay (!decide (JaF (((J5 s l).1).net) = 0)) (fun bb=>[(2,Pt b1 0),(5,Pt b2 0),(35,Bo bb)]) [1,1,1,1,1,1,1,0] [0,0,2,0,0,2,0,0] (fun bb=>[(2,Pt b1 0),(5,Pt b2 0),(43,Bo (bb || (!decide (((J5 s l).1).net.now = ((J5 s l).1).clerk.now))))]) ?_
 refine Jd [0] [(2,Pt b1 0),(5,Pt b2 0),(44,Bo ((!decide (JaF (((J5 s l).1).net) = 0)) || (!decide (((J5 s l).1).net.now = ((J5 s l).1).clerk.now))))] ?_
 refine Jay ((!decide (JaF (((J5 s l).1).net) = 0)) || (!decide (((J5 s l).1).net.now = ((J5 s l).1).clerk.now))) (fun bb=>[(2,Pt b1 0),(5,Pt b2 0),(44,Bo bb)]) [1,1,1,1,1,1,1,0] [0,2,0,0,4,0,0,0] (fun bb=>[(2,Pt b1 0),(5,Pt b2 0),(52,Bo (bb || (!decide (((((J5 s l).1).owners).length:Int) = (s.names.length:Int)))))]) ?_
 refine Jd [0] [(2,Pt b1 0),(5,Pt b2 0),(53,Bo (((!decide (JaF (((J5 s l).1).net) = 0)) || (!decide (((J5 s l).1).net.now = ((J5 s l).1).clerk.now))) || (!decide (((((J5 s l).1).owners).length:Int) = (s.names.length:Int)))))] ?_
 refine Jay (((!decide (JaF (((J5 s l).1).net) = 0)) || (!decide (((J5 s l).1).net.now = ((J5 s l).1).clerk.now))) || (!decide (((((J5 s l).1).owners).length:Int) = (s.names.length:Int)))) (fun bb=>[(2,Pt b1 0),(5,Pt b2 0),(53,Bo bb)]) [1,1,1,1,1,1,1,0] [0,2,0,0,4,0,0,0] (fun bb=>[(2,Pt b1 0),(5,Pt b2 0),(61,Bo (bb || (!decide (((((J5 s l).1).polls).length:Int) = (s.names.length:Int)))))]) ?_
 refine Jc (Ja ?_)
 refine Jo ((((!decide (JaF (((J5 s l).1).net) = 0)) || (!decide (((J5 s l).1).net.now = ((J5 s l).1).clerk.now))) || (!decide (((((J5 s l).1).owners).length:Int) = (s.names.length:Int)))) || (!decide (((((J5 s l).1).polls).length:Int) = (s.names.length:Int)))) (fun h3=>?_) (fun h3=>?_)
 try simp only [BB] at h3
 refine Jg [0] [(4,Bo false)] (Jk (Jh ?_))
 refine Jl [0] [Bo false] (Jw hl1 ?_)
 exfalso
 · (have q_:=(JdP ‹_›);simp_all;done)
 try simp only [BB] at h3
 refine Jn (Ja (Je ?_))
 refine Jg [0,2,0,0] [(2,Pt b1 0),(5,Pt b2 0),(63,Sl a6 ((((J5 s l).1).owners).length) c6),(64,I ((((J5 s l).1).owners).length:Int)),(65,I 0)] (Jy ?_)
 have hlm_hs6:(((J5 s l).1).owners).length ≤ 9223372036854775807:=Nat.le_trans (hs6).le (hs6).max
 refine Ja8 (σ:=Nat) (fun q_=>(q_ ≤ (((J5 s l).1).owners).length)) (fun q_=>[(2,Pt b1 0),(5,Pt b2 0),(63,Sl a6 ((((J5 s l).1).owners).length) c6),(64,I ((((J5 s l).1).owners).length:Int)),(65,I (q_:Int))]) (fun q_=>G1) (fun q_=>[[Sg b2 0 (Jhm (J5 s l).1 a3 c3 a4 c4 a5 c5 a6 c6 a7 c7 a8 c8)],[Sg b1 0 (Jcu s a1 c1 a2 c2)]]) (fun q_=>(((J5 s l).1).owners).length - q_) 0 (by (try dsimp only);exact Nat.zero_le _) (fun q_ hs=>?_)
 revert hs;revert q_;intro i hs
 have hi:=hs
 refine JaJ (fr':=[(2,Pt b1 0),(5,Pt b2 0),(63,Sl a6 ((((J5 s l).1).owners).length) c6),(64,I ((((J5 s l).1).owners).length:Int)),(65,I (i:Int))]) (L':=[[Sg b2 0 (Jhm (J5 s l).1 a3 c3 a4 c4 a5 c5 a6 c6 a7 c7 a8 c8)],[Sg b1 0 (Jcu s a1 c1 a2 c2)]]) rfl rfl ?_
 refine Jg [0] [(2,Pt b1 0),(5,Pt b2 0),(63,Sl a6 ((((J5 s l).1).owners).length) c6),(64,I ((((J5 s l).1).owners).length:Int)),(65,I (i:Int)),(66,Bo (decide ((i:Int) < ((((J5 s l).1).owners).length:Int))))] (Je ?_)
 refine Jo (decide ((i:Int) < ((((J5 s l).1).owners).length:Int))) (fun h4=>?_) (fun h4=>?_)
 try simp only [BB] at h4
 refine Jn (Ja (Je (Jy (Je (Jb ?_)))))
 refine Jd [0] [(2,Pt b1 0),(5,Pt b2 0),(63,Sl a6 ((((J5 s l).1).owners).length) c6),(64,I ((((J5 s l).1).owners).length:Int)),(65,I (i:Int)),(67,I (i:Int))] ?_
 obtain ⟨b3,o1,rfl⟩:=RS.addr hs6 (k:=i) (by omega)
 obtain ⟨x1,hx1⟩:=Jb1 (l:=((J5 s l).1).owners) (k:=i) (by omega)
 obtain ⟨_,⟨a10,c10,rfl,w13,w14,w15,w16,w17,w18,hs10,w19⟩,hc1⟩:=RS.get hs6 hx1
 refine Jac (b:=b3) (off:=o1) (len:=(((J5 s l).1).owners).length) (cap:=c6) (ik:=.i64) 68 52 8 i (by omega) ?_
 refine J6 69 52 (cs:=(Jap x1 a10 c10)) 0 (Jag x1 a10 c10) hc1 ?_
 refine Ju 9 #[Sr ([]),U 0,I 0,U 0,U 0,I 0,Sl none 0 0,I 0] 52 (fun b4=>?_)
 refine Jaa [0,3] [(2,Pt b1 0),(5,Pt b2 0),(8,I (i:Int)),(9,Pt b4 0),(63,Sl (At b3 o1) ((((J5 s l).1).owners).length) c6),(64,I ((((J5 s l).1).owners).length:Int)),(65,I (i:Int))] [[Sg b4 0 (Jap x1 a10 c10)],[Sg b2 0 (Jhm (J5 s l).1 a3 c3 a4 c4 a5 c5 (At b3 o1) c6 a7 c7 a8 c8)],[Sg b1 0 (Jcu s a1 c1 a2 c2)]] (Jc (Ja (Je ?_)))
 rcases Bool.eq_false_or_eq_true (!decide (JH x1 = 0)) with h5 | h5
 have h5d:=h5
 try simp only [BB] at h5d
 refine Jau [] ?_
 refine Jb6 [(0,(Jag x1 a10 c10)),(1,I (JH x1)),(2,Bo true),(3,Bo true),(4,undef),(5,undef),(6,undef),(7,undef),(8,undef),(9,undef),(10,undef),(11,undef),(12,Bo true),(13,Bo true),(14,undef),(15,undef),(16,undef),(17,undef),(18,undef),(19,undef),(20,undef),(21,undef),(22,Bo true),(23,Bo true),(24,undef),(25,undef),(26,undef),(27,undef),(28,undef),(29,undef),(30,undef),(31,Bo true)] ?_
 refine Jav [] [(0,2),(3,0),(4,1),(5,1),(6,1),(7,1),(8,1),(9,1),(10,1),(11,1),(12,0),(13,0),(14,1),(15,1),(16,1),(17,1),(18,1),(19,1),(20,1),(21,1),(22,0),(23,0),(24,1),(25,1),(26,1),(27,1),(28,1),(29,1),(30,1),(31,0)] [1,2] [(2,Pt b1 0),(5,Pt b2 0),(63,Sl (At b3 o1) ((((J5 s l).1).owners).length) c6),(64,I ((((J5 s l).1).owners).length:Int)),(65,I (i:Int)),(101,Bo true)] (List.forall_mem_cons.2 ⟨?_,(List.forall_mem_cons.2 ⟨?_,List.forall_mem_nil _⟩)⟩) ?_
 refine Jq 1 71 (I (JH x1)) [(70,(Jag x1 a10 c10))] (fun X=>?_)
 exact Ji 71 (I (JH x1)) (Jc1 G1 (Jap x1 a10 c10) x1 (⟨a10,c10,rfl,w13,w14,w15,w16,w17,w18,hs10,w19⟩)) Jm
 refine Jq 2 72 (Bo true) [(71,I (JH x1))] (fun X=>?_)
 exact JaI 72 (Bo (!decide (JH x1 = 0))) (Bo true) (by rw [h5]) Jm
 refine Ja ?_
 refine JT ?_
 refine Jg [0] [(4,Bo false)] (Jk (Js (Jh (Jbc (Js (Jh ?_))))))
 refine Jl [0] [Bo false] (Jw hl1 ?_)
 exfalso
 · (have q_:=(JdP ‹_›);have q2_:=q_.2.2.2.2.2.2.1 _ _ ‹_›;simp_all;done)
 have h5d:=h5
 try simp only [BB] at h5d
 obtain ⟨b5,o2,rfl⟩:=RS.addr (hs1.mono hl1) (k:=i) (by omega)
 obtain ⟨x2,hx2⟩:=Jb1 (l:=s.names) (k:=i) (by omega)
 obtain ⟨_,⟨rfl,_⟩,hc2⟩:=RS.get (hs1.mono hl1) hx2
 rcases Bool.eq_false_or_eq_true (!(x1.name == x2)) with h6 | h6
 have h6d:=h6
 try simp only [BB] at h6d
 refine Jau [] ?_
 refine Jb6 [(0,(Jag x1 a10 c10)),(1,I (JH x1)),(2,Bo false),(3,Bo false),(4,Pt b4 0),(5,Sr x1.name),(6,Pt b1 0),(7,Sl (At b5 o2) s.names.length c1),(8,I (i:Int)),(9,Pt b5 (o2 + i * 1)),(10,Sr x2),(11,Bo true),(12,Bo true),(13,Bo true),(14,undef),(15,undef),(16,undef),(17,undef),(18,undef),(19,undef),(20,undef),(21,undef),(22,Bo true),(23,Bo true),(24,undef),(25,undef),(26,undef),(27,undef),(28,undef),(29,undef),(30,undef),(31,Bo true)] ?_
 refine Jav [] [(0,2),(3,0),(4,0),(5,2),(6,0),(7,6),(8,0),(12,0),(13,0),(14,1),(15,1),(16,1),(17,1),(18,1),(19,1),(20,1),(21,1),(22,0),(23,0),(24,1),(25,1),(26,1),(27,1),(28,1),(29,1),(30,1),(31,0)] [1,2,9,10,11] [(2,Pt b1 0),(5,Pt b2 0),(63,Sl (At b3 o1) ((((J5 s l).1).owners).length) c6),(64,I ((((J5 s l).1).owners).length:Int)),(65,I (i:Int)),(101,Bo true)] (List.forall_mem_cons.2 ⟨?_,(List.forall_mem_cons.2 ⟨?_,(List.forall_mem_cons.2 ⟨?_,(List.forall_mem_cons.2 ⟨?_,(List.forall_mem_cons.2 ⟨?_,List.forall_mem_nil _⟩)⟩)⟩)⟩)⟩) ?_
 refine Jq 1 71 (I (JH x1)) [(70,(Jag x1 a10 c10))] (fun X=>?_)
 exact Ji 71 (I (JH x1)) (Jc1 G1 (Jap x1 a10 c10) x1 (⟨a10,c10,rfl,w13,w14,w15,w16,w17,w18,hs10,w19⟩)) Jm
 refine Jq 2 72 (Bo false) [(71,I (JH x1))] (fun X=>?_)
 exact JaI 72 (Bo (!decide (JH x1 = 0))) (Bo false) (by rw [h5]) Jm
 refine Jq 9 79 (Pt b5 (o2 + i * 1)) [(73,Bo false),(77,Sl (At b5 o2) s.names.length c1),(78,I (i:Int))] (fun X=>?_)
 exact Jac (b:=b5) (off:=o2) (len:=s.names.length) (cap:=c1) (ik:=.i64) 79 9 1 i (by omega) Jm
 refine Jq 10 80 (Sr x2) [(73,Bo false),(79,Pt b5 (o2 + i * 1))] (fun X=>?_)
 exact J6 80 9 (cs:=[Sr x2]) 0 (Sr x2) hc2 Jm
 refine Jq 11 81 (Bo true) [(73,Bo false),(75,Sr x1.name),(80,Sr x2)] (fun X=>?_)
 exact JaI 81 (Bo (!((B x1.name).toList == (B x2).toList))) (Bo true) (by simp only [JcB];rw [h6]) Jm
 refine Ja ?_
 refine JT ?_
 refine Jg [0] [(4,Bo false)] (Jk (Js (Jh (Jbc (Js (Jh ?_))))))
 refine Jl [0] [Bo false] (Jw hl1 ?_)
 exfalso
 · (have q_:=(JdP ‹_›);have q2_:=q_.2.2.2.2.2.2.1 _ _ ‹_›;simp_all;done)
 have h6d:=h6
 try simp only [BB] at h6d
 obtain ⟨b6,o3,rfl⟩:=RS.addr (hs2.mono hl1) (k:=i) (by (have q_:=(JdP ‹_›);omega))
 obtain ⟨x3,hx3⟩:=Jb1 (l:=s.keys) (k:=i) (by (have q_:=(JdP ‹_›);omega))
 obtain ⟨_,⟨rfl,_⟩,hc3⟩:=RS.get (hs2.mono hl1) hx3
 rcases Bool.eq_false_or_eq_true (!decide (x1.key = x3)) with h7 | h7
 have h7d:=h7
 try simp only [BB] at h7d
 refine Jau [] ?_
 refine Jb6 [(0,(Jag x1 a10 c10)),(1,I (JH x1)),(2,Bo false),(3,Bo false),(4,Pt b4 0),(5,Sr x1.name),(6,Pt b1 0),(7,Sl (At b5 o2) s.names.length c1),(8,I (i:Int)),(9,Pt b5 (o2 + i * 1)),(10,Sr x2),(11,Bo false),(12,Bo false),(13,Bo false),(14,Pt b4 1),(15,U x1.key),(16,Pt b1 1),(17,Sl (At b6 o3) s.keys.length c2),(18,I (i:Int)),(19,Pt b6 (o3 + i * 1)),(20,U x3),(21,Bo true),(22,Bo true),(23,Bo true),(24,undef),(25,undef),(26,undef),(27,undef),(28,undef),(29,undef),(30,undef),(31,Bo true)] ?_
 refine Jav [] [(0,2),(3,0),(4,0),(5,2),(6,0),(7,6),(8,0),(12,0),(13,0),(14,0),(15,2),(16,0),(17,6),(18,0),(22,0),(23,0),(24,1),(25,1),(26,1),(27,1),(28,1),(29,1),(30,1),(31,0)] [1,2,9,10,11,19,20,21] [(2,Pt b1 0),(5,Pt b2 0),(63,Sl (At b3 o1) ((((J5 s l).1).owners).length) c6),(64,I ((((J5 s l).1).owners).length:Int)),(65,I (i:Int)),(101,Bo true)] (List.forall_mem_cons.2 ⟨?_,(List.forall_mem_cons.2 ⟨?_,(List.forall_mem_cons.2 ⟨?_,(List.forall_mem_cons.2 ⟨?_,(List.forall_mem_cons.2 ⟨?_,(List.forall_mem_cons.2 ⟨?_,(List.forall_mem_cons.2 ⟨?_,(List.forall_mem_cons.2 ⟨?_,List.forall_mem_nil _⟩)⟩)⟩)⟩)⟩)⟩)⟩)⟩) ?_
 refine Jq 1 71 (I (JH x1)) [(70,(Jag x1 a10 c10))] (fun X=>?_)
 exact Ji 71 (I (JH x1)) (Jc1 G1 (Jap x1 a10 c10) x1 (⟨a10,c10,rfl,w13,w14,w15,w16,w17,w18,hs10,w19⟩)) Jm
 refine Jq 2 72 (Bo false) [(71,I (JH x1))] (fun X=>?_)
 exact JaI 72 (Bo (!decide (JH x1 = 0))) (Bo false) (by rw [h5]) Jm
 refine Jq 9 79 (Pt b5 (o2 + i * 1)) [(73,Bo false),(77,Sl (At b5 o2) s.names.length c1),(78,I (i:Int))] (fun X=>?_)
 exact Jac (b:=b5) (off:=o2) (len:=s.names.length) (cap:=c1) (ik:=.i64) 79 9 1 i (by omega) Jm
 refine Jq 10 80 (Sr x2) [(73,Bo false),(79,Pt b5 (o2 + i * 1))] (fun X=>?_)
 exact J6 80 9 (cs:=[Sr x2]) 0 (Sr x2) hc2 Jm
 refine Jq 11 81 (Bo false) [(73,Bo false),(75,Sr x1.name),(80,Sr x2)] (fun X=>?_)
 exact JaI 81 (Bo (!((B x1.name).toList == (B x2).toList))) (Bo false) (by simp only [JcB];rw [h6]) Jm
 refine Jq 19 89 (Pt b6 (o3 + i * 1)) [(83,Bo false),(87,Sl (At b6 o3) s.keys.length c2),(88,I (i:Int))] (fun X=>?_)
 exact Jac (b:=b6) (off:=o3) (len:=s.keys.length) (cap:=c2) (ik:=.i64) 89 48 1 i (by (have q_:=(JdP ‹_›);omega)) Jm
 refine Jq 20 90 (U x3) [(83,Bo false),(89,Pt b6 (o3 + i * 1))] (fun X=>?_)
 exact J6 90 48 (cs:=[U x3]) 0 (U x3) hc3 Jm
 refine Jq 21 91 (Bo true) [(83,Bo false),(85,U x1.key),(90,U x3)] (fun X=>?_)
 exact JaI 91 (Bo (!decide (x1.key = x3))) (Bo true) (by rw [h7]) Jm
 refine Ja ?_
 refine JT ?_
 refine Jg [0] [(4,Bo false)] (Jk (Js (Jh (Jbc (Js (Jh ?_))))))
 refine Jl [0] [Bo false] (Jw hl1 ?_)
 exfalso
 · (have q_:=(JdP ‹_›);have q2_:=q_.2.2.2.2.2.2.1 _ _ ‹_›;simp_all;done)
 have h7d:=h7
 try simp only [BB] at h7d
 obtain ⟨b7,o4,rfl⟩:=RS.addr hs7 (k:=i) (by omega)
 obtain ⟨x4,hx4⟩:=Jb1 (l:=((J5 s l).1).polls) (k:=i) (by omega)
 obtain ⟨_,⟨rfl,w22,w23,w24,w25,w26,w27⟩,hc4⟩:=RS.get hs7 hx4
 refine Jau [] ?_
 refine Jb6 [(0,(Jag x1 a10 c10)),(1,I (JH x1)),(2,Bo false),(3,Bo false),(4,Pt b4 0),(5,Sr x1.name),(6,Pt b1 0),(7,Sl (At b5 o2) s.names.length c1),(8,I (i:Int)),(9,Pt b5 (o2 + i * 1)),(10,Sr x2),(11,Bo false),(12,Bo false),(13,Bo false),(14,Pt b4 1),(15,U x1.key),(16,Pt b1 1),(17,Sl (At b6 o3) s.keys.length c2),(18,I (i:Int)),(19,Pt b6 (o3 + i * 1)),(20,U x3),(21,Bo false),(22,Bo false),(23,Bo false),(24,Pt b2 8),(25,Sl (At b7 o4) ((((J5 s l).1).polls).length) c7),(26,I (i:Int)),(27,Pt b7 (o4 + i * 6)),(28,(Jci x4)),(29,I (Jab x4)),(30,Bo (!decide (Jab x4 = 0))),(31,Bo (!decide (Jab x4 = 0)))] ?_
 refine Jav [] [(0,2),(3,0),(4,0),(5,2),(6,0),(7,6),(8,0),(12,0),(13,0),(14,0),(15,2),(16,0),(17,6),(18,0),(22,0),(23,0),(24,0),(25,4),(26,0),(30,0),(31,0)] [1,2,9,10,11,19,20,21,27,28,29] [(2,Pt b1 0),(5,Pt b2 0),(63,Sl (At b3 o1) ((((J5 s l).1).owners).length) c6),(64,I ((((J5 s l).1).owners).length:Int)),(65,I (i:Int)),(101,Bo (!decide (Jab x4 = 0)))] (List.forall_mem_cons.2 ⟨?_,(List.forall_mem_cons.2 ⟨?_,(List.forall_mem_cons.2 ⟨?_,(List.forall_mem_cons.2 ⟨?_,(List.forall_mem_cons.2 ⟨?_,(List.forall_mem_cons.2 ⟨?_,(List.forall_mem_cons.2 ⟨?_,(List.forall_mem_cons.2 ⟨?_,(List.forall_mem_cons.2 ⟨?_,(List.forall_mem_cons.2 ⟨?_,(List.forall_mem_cons.2 ⟨?_,List.forall_mem_nil _⟩)⟩)⟩)⟩)⟩)⟩)⟩)⟩)⟩)⟩)⟩) ?_
 refine Jq 1 71 (I (JH x1)) [(70,(Jag x1 a10 c10))] (fun X=>?_)
 exact Ji 71 (I (JH x1)) (Jc1 G1 (Jap x1 a10 c10) x1 (⟨a10,c10,rfl,w13,w14,w15,w16,w17,w18,hs10,w19⟩)) Jm
 refine Jq 2 72 (Bo false) [(71,I (JH x1))] (fun X=>?_)
 exact JaI 72 (Bo (!decide (JH x1 = 0))) (Bo false) (by rw [h5]) Jm
 refine Jq 9 79 (Pt b5 (o2 + i * 1)) [(73,Bo false),(77,Sl (At b5 o2) s.names.length c1),(78,I (i:Int))] (fun X=>?_)
 exact Jac (b:=b5) (off:=o2) (len:=s.names.length) (cap:=c1) (ik:=.i64) 79 9 1 i (by omega) Jm
 refine Jq 10 80 (Sr x2) [(73,Bo false),(79,Pt b5 (o2 + i * 1))] (fun X=>?_)
 exact J6 80 9 (cs:=[Sr x2]) 0 (Sr x2) hc2 Jm
 refine Jq 11 81 (Bo false) [(73,Bo false),(75,Sr x1.name),(80,Sr x2)] (fun X=>?_)
 exact JaI 81 (Bo (!((B x1.name).toList == (B x2).toList))) (Bo false) (by simp only [JcB];rw [h6]) Jm
 refine Jq 19 89 (Pt b6 (o3 + i * 1)) [(83,Bo false),(87,Sl (At b6 o3) s.keys.length c2),(88,I (i:Int))] (fun X=>?_)
 exact Jac (b:=b6) (off:=o3) (len:=s.keys.length) (cap:=c2) (ik:=.i64) 89 48 1 i (by (have q_:=(JdP ‹_›);omega)) Jm
 refine Jq 20 90 (U x3) [(83,Bo false),(89,Pt b6 (o3 + i * 1))] (fun X=>?_)
 exact J6 90 48 (cs:=[U x3]) 0 (U x3) hc3 Jm
 refine Jq 21 91 (Bo false) [(83,Bo false),(85,U x1.key),(90,U x3)] (fun X=>?_)
 exact JaI 91 (Bo (!decide (x1.key = x3))) (Bo false) (by rw [h7]) Jm
 refine Jq 27 97 (Pt b7 (o4 + i * 6)) [(93,Bo false),(95,Sl (At b7 o4) ((((J5 s l).1).polls).length) c7),(96,I (i:Int))] (fun X=>?_)
 exact Jac (b:=b7) (off:=o4) (len:=(((J5 s l).1).polls).length) (cap:=c7) (ik:=.i64) 97 56 6 i (by omega) Jm
 refine Jq 28 98 (Jci x4) [(93,Bo false),(97,Pt b7 (o4 + i * 6))] (fun X=>?_)
 exact J6 98 56 (cs:=(Jc6 x4)) 0 (Jci x4) hc4 Jm
 refine Jq 29 99 (I (Jab x4)) [(93,Bo false),(98,(Jci x4))] (fun X=>?_)
 exact Ji 99 (I (Jab x4)) (JeN G1 (Jc6 x4) x4 (⟨rfl,w22,w23,w24,w25,w26,w27⟩)) Jm
 refine Ja ?_
 refine Jo (!decide (Jab x4 = 0)) (fun h8=>?_) (fun h8=>?_)
 try simp only [BB] at h8
 refine Jg [0] [(4,Bo false)] (Jk (Js (Jh (Jbc (Js (Jh ?_))))))
 refine Jl [0] [Bo false] (Jw hl1 ?_)
 exfalso
 · (have q_:=(JdP ‹_›);have q2_:=q_.2.2.2.2.2.2.1 _ _ ‹_›;have q3_:=q_.2.2.2.2.2.2.2 _ _ ‹_›;simp_all;done)
 try simp only [BB] at h8
 refine Jn (JK (Ja (Jb ?_)))
 refine Jd [0,0] [(2,Pt b1 0),(5,Pt b2 0),(63,Sl (At b3 o1) ((((J5 s l).1).owners).length) c6),(64,I ((((J5 s l).1).owners).length:Int)),(65,I (IntKind.i64.wrap ((i:Int) + 1)))] ?_
 have e1:IntKind.i64.wrap ((i:Int) + 1) = (i:Int) + 1:=IntWalk.i64_in _ (by omega)
 refine J1 (fr':=[(2,Pt b1 0),(5,Pt b2 0),(63,Sl (At b3 o1) ((((J5 s l).1).owners).length) c6),(64,I ((((J5 s l).1).owners).length:Int)),(65,I ((i:Int) + 1))]) (L':=[[Sg b4 0 [Sr x1.name,U x1.key,I x1.head.epoch,U x1.head.root,U x1.head.prev,I x1.head.at_,Sl a10 x1.wanted.length c10,I x1.had]],[Sg b2 0 [I (((J5 s l).1).clerk.queue.most),Sl a3 ((((J5 s l).1).clerk.queue.wait).length) c3,I (((J5 s l).1).clerk.batch),I (((J5 s l).1).clerk.every),I (((J5 s l).1).clerk.now),Sl a4 ((((J5 s l).1).clerk.heads).length) c4,Sl a5 ((((J5 s l).1).clerk.books).length) c5,Sl (At b3 o1) ((((J5 s l).1).owners).length) c6,Sl (At b7 o4) ((((J5 s l).1).polls).length) c7,I (((J5 s l).1).net.now),Sl a8 ((((J5 s l).1).net.way).length) c8]],[Sg b1 0 [Sl (At b5 o2) s.names.length c1,Sl (At b6 o3) s.keys.length c2,I s.most,I s.batch,I s.every,I s.least,I s.top,I s.lost,I s.reach]]]) (by simp only [Jal,Jap,Jc6,Jcu,Jhm,JaL,Jag,Jci,JfT,Jjl,e1];first | done | rfl) (by rfl) ?_
 clear e1
 refine Jc ?_
 refine JbT [[Sg b2 0 (Jhm (J5 s l).1 a3 c3 a4 c4 a5 c5 (At b3 o1) c6 (At b7 o4) c7 a8 c8)],[Sg b1 0 (Jcu s (At b5 o2) c1 (At b6 o3) c2)]] (.cons _ (.cons_cons _ (.cons_cons _ .slnil))) ?_
 exact Jba (i + 1) (by omega) (by (try dsimp only);omega)
 try simp only [BB] at h4
 refine JaT (J2 (Jaf (JW (Ja ?_))))
 refine Jg [0] [(4,Bo true)] (Jk ?_)
 refine Jl [0] [Bo true] (Jw hl1 ?_)
 rfl
end Go.Proofs.YtnnlpbjdignhaaaGreatDoor
