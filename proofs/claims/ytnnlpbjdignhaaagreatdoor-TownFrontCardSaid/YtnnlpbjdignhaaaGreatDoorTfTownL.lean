import Derived.Test.YtnnlpbjdignhaaaGreatDoorTfTownY
namespace Go.Proofs.YtnnlpbjdignhaaaGreatDoor
open Go.Tx
set_option linter.unusedVariables false
set_option linter.unusedSimpArgs false
open Go.Tx Go.Proofs
def JhQ:KI:=⟨[[97]],[1],1,1,1,1,1,1,1⟩
theorem Jle:(JC JhQ []).2.2=0∧(JC JhQ []).1.owners.length=1:=by decide +kernel
theorem JjB {s:KI} {l:List QM} (h:¬ (JC s l).2.2=0):(JC s l).1.owners=[]∧(JC s l).2.1=[]:=by
 rw [JkZ h];exact ⟨rfl,rfl⟩
theorem JjC (G:Jt)  :QE Tryz.prog 9 #[] G [] (fun u G' L'=>u=Bo true):=by
 refine JL Tryz.func9 20 [] rfl (fun w0 G0=>?_)
 refine Jg [0] [] (Je (Jb ?_))
 refine KC 5 1 #[Sr ([97])] 9 (fun b1=>?_)
 refine KC 6 1 #[U 1] 48 (fun b2=>?_)
 refine Jc [0] [(7,.agg #[Sl (At b1 0) 1 1,Sl (At b2 0) 1 1,I 1,I 1,I 1,I 1,I 1,I 1,I 1])] ?_
 refine QJ (b:=b1) (o:=0) (cs:=[Sr ([97])]) 1 (fun G1 hl1 hz1=>?_)
 have hs1:RS ES G1 (At b1 0) 1 [[97]]:=RS.lit [[Sr ([97])]] [[97]] ⟨⟨rfl,(Nat.le_of_ble_eq_true rfl)⟩,trivial⟩ hz1 (Nat.le_of_ble_eq_true rfl) (Nat.le_of_ble_eq_true rfl)
 refine QJ (b:=b2) (o:=0) (cs:=[U 1]) 0 (fun G2 hl2 hz2=>?_)
 have hs2:RS EU G2 (At b2 0) 1 [1]:=RS.lit [[U 1]] [1] ⟨⟨rfl,(by omega)⟩,trivial⟩ hz2 (Nat.le_of_ble_eq_true rfl) (Nat.le_of_ble_eq_true rfl)
 refine JN 8 (JaT G2 [Sl (At b1 0) 1 1,Sl (At b2 0) 1 1,I 1,I 1,I 1,I 1,I 1,I 1,I 1] (⟨[[97]],[1],1,1,1,1,1,1,1⟩:KI) (⟨(At b1 0),1,(At b2 0),1,rfl,(hs1.mono hl2),hs2,(by (simp;done)),(by (simp;done)),(by (simp;done)),(by (simp;done)),(by (simp;done)),(by (simp;done)),(by (simp;done))⟩) none 0 ([]) (RS.nil' Jdq G2)) (fun v G3 L1 hl3 hp=>?_)
 obtain ⟨a1,c1,a2,c2,a3,c3,a4,c4,a5,c5,a6,c6,a7,c7,rfl,_,_,_,_,_,_,_,_,_,_,_,_,rfl⟩:=hp
 refine Jc [0,0,0,0] [(9,(Vp (JC (⟨[[97]],[1],1,1,1,1,1,1,1⟩:KI) ([])).1 a1 c1 a2 c2 a3 c3 a4 c4 a5 c5 a6 c6)),(10,Sl a7 (((JC (⟨[[97]],[1],1,1,1,1,1,1,1⟩:KI) ([])).2.1).length) c7),(11,I ((JC (⟨[[97]],[1],1,1,1,1,1,1,1⟩:KI) ([])).2.2))] ?_
 refine Ju 1 #[I 0,Sl none 0 0,I 0,I 0,I 0,Sl none 0 0,Sl none 0 0,Sl none 0 0,Sl none 0 0,I 0,Sl none 0 0] 41 (fun b3=>?_)
 refine Kb [3,0,0] [(1,Pt b3 0),(3,I ((JC (⟨[[97]],[1],1,1,1,1,1,1,1⟩:KI) ([])).2.2))] [[Sg b3 0 (Jbt (JC (⟨[[97]],[1],1,1,1,1,1,1,1⟩:KI) ([])).1 a1 c1 a2 c2 a3 c3 a4 c4 a5 c5 a6 c6)],[],[]] (Jd (Ja (Je (Jb ?_))))
 refine Jc [0,0,0] [(1,Pt b3 0),(14,Bo (decide ((JC (⟨[[97]],[1],1,1,1,1,1,1,1⟩:KI) ([])).2.2=0)))] ?_
 refine Ky (decide ((JC (⟨[[97]],[1],1,1,1,1,1,1,1⟩:KI) ([])).2.2=0)) (fun bb=>[(1,Pt b3 0),(14,Bo bb)]) [0,2,0,0,0] [1,1,1,1,0] (fun bb=>[(19,Bo (bb && (decide ((((((JC (⟨[[97]],[1],1,1,1,1,1,1,1⟩:KI) ([])).1).owners).length:Nat):Int)=1))))]) ?_
 refine Jc [0] [(0,Bo ((decide ((JC (⟨[[97]],[1],1,1,1,1,1,1,1⟩:KI) ([])).2.2=0)) && (decide ((((((JC (⟨[[97]],[1],1,1,1,1,1,1,1⟩:KI) ([])).1).owners).length:Nat):Int)=1))))] (Jd (Ja (Jk ?_)))
 refine Jl [0] [Bo ((decide ((JC (⟨[[97]],[1],1,1,1,1,1,1,1⟩:KI) ([])).2.2=0)) && (decide ((((((JC (⟨[[97]],[1],1,1,1,1,1,1,1⟩:KI) ([])).1).owners).length:Nat):Int)=1)))] (Jv (Jt.le_trans (Jt.le_trans hl1 hl2) hl3) ?_)
 have hf_:((decide ((JC (⟨[[97]],[1],1,1,1,1,1,1,1⟩:KI) ([])).2.2=0)) && (decide ((((((JC (⟨[[97]],[1],1,1,1,1,1,1,1⟩:KI) ([])).1).owners).length:Nat):Int)=1)))=true:=by
  (have q_:=Jle;unfold JhQ at q_;simp_all;done)
 exact congrArg Bo hf_
set_option maxRecDepth 20000 in
theorem Jer (G:Jt) (vs_s:List Value) (s:KI) (h_s:Jfb.R G vs_s s) (a_l:Option Addr) (c_l:Nat) (l:List QM) (h_l:RS Jdq G a_l c_l l) (k:Int) (hw_k:rI k) (hf_l:l.length*208≤140737488351232):QE Tryz.prog 4 #[.agg vs_s.toArray,Sl a_l l.length c_l,I k] G [] (fun u G' L'=>u=Bo true):=by
 obtain ⟨a1,c1,a2,c2,rfl,hs1,hs2,w1,w2,w3,w4,w5,w6,w7⟩:=h_s
 refine JL Tryz.func4 73 [(0,(YZ s a1 c1 a2 c2)),(1,Sl a_l l.length c_l),(2,I k)] rfl (fun w0 G0=>?_)
 refine Je (Jb ?_)
 refine Ju 3 #[Sl a1 s.names.length c1,Sl a2 s.keys.length c2,I s.most,I s.batch,I s.every,I s.least,I s.top,I s.lost,I s.reach] 25 (fun b1=>?_)
 refine Jc [0] [(1,Sl a_l l.length c_l),(2,I k),(3,Pt b1 0)] (Jd (Ja (Je (Je (Jb ?_)))))
 refine Ji 13 (Bo true) (JjC G) ?_
 refine Jc [0] [(1,Sl a_l l.length c_l),(2,I k),(3,Pt b1 0),(14,Bo false)] (Jd (Ja ?_))
 refine Qm ?_
 refine Jm (Ja (Je (Jb ?_)))
 refine Jc [2,0] [(1,Sl a_l l.length c_l),(2,I k),(3,Pt b1 0),(16,(YZ s a1 c1 a2 c2)),(17,Sl a_l l.length c_l)] ?_
 refine JN 18 (JaT G (Ww s a1 c1 a2 c2) s (⟨a1,c1,a2,c2,rfl,hs1,hs2,w1,w2,w3,w4,w5,w6,w7⟩) a_l c_l l h_l) (fun v G1 L1 hl1 hp=>?_)
 obtain ⟨a3,c3,a4,c4,a5,c5,a6,c6,a7,c7,a8,c8,a9,c9,rfl,_,_,_,_,_,_,_,_,_,_,_,hs9,rfl⟩:=hp
 refine Jc [0,0,0,0] [(1,Sl a_l l.length c_l),(2,I k),(3,Pt b1 0),(19,(Vp (JC s l).1 a3 c3 a4 c4 a5 c5 a6 c6 a7 c7 a8 c8)),(20,Sl a9 (((JC s l).2.1).length) c9),(21,I ((JC s l).2.2))] ?_
 refine Ju 7 #[I 0,Sl none 0 0,I 0,I 0,I 0,Sl none 0 0,Sl none 0 0,Sl none 0 0,Sl none 0 0,I 0,Sl none 0 0] 41 (fun b2=>?_)
 refine Kb [3,0,0] [(1,Sl a_l l.length c_l),(2,I k),(3,Pt b1 0),(7,Pt b2 0),(8,Sl a9 (((JC s l).2.1).length) c9),(9,I ((JC s l).2.2))] [[Sg b2 0 (Jbt (JC s l).1 a3 c3 a4 c4 a5 c5 a6 c6 a7 c7 a8 c8)],[Sg b1 0 (Ww s a1 c1 a2 c2)]] (Jd (Ja (Je (Je (Jb ?_)))))
 refine Jc [0,0,0] [(1,Sl a_l l.length c_l),(2,I k),(3,Pt b1 0),(7,Pt b2 0),(8,Sl a9 (((JC s l).2.1).length) c9),(9,I ((JC s l).2.2)),(24,Bo (!decide ((JC s l).2.2=0)))] ?_
 refine Ky (!decide ((JC s l).2.2=0)) (fun bb=>[(1,Sl a_l l.length c_l),(2,I k),(3,Pt b1 0),(7,Pt b2 0),(8,Sl a9 (((JC s l).2.1).length) c9),(9,I ((JC s l).2.2)),(24,Bo bb)]) [1,1,0] [0,0,0] (fun bb=>[(1,Sl a_l l.length c_l),(2,I k),(3,Pt b1 0),(7,Pt b2 0),(8,Sl a9 (((JC s l).2.1).length) c9),(9,I ((JC s l).2.2)),(27,Bo (bb || (decide (k<0))))]) ?_
 refine Jc [0] [(1,Sl a_l l.length c_l),(2,I k),(3,Pt b1 0),(7,Pt b2 0),(8,Sl a9 (((JC s l).2.1).length) c9),(9,I ((JC s l).2.2)),(28,Bo ((!decide ((JC s l).2.2=0)) || (decide (k<0))))] ?_
 refine Ky ((!decide ((JC s l).2.2=0)) || (decide (k<0))) (fun bb=>[(1,Sl a_l l.length c_l),(2,I k),(3,Pt b1 0),(7,Pt b2 0),(8,Sl a9 (((JC s l).2.1).length) c9),(9,I ((JC s l).2.2)),(28,Bo bb)]) [1,1,1,1,0] [0,0,0,0,0] (fun bb=>[(1,Sl a_l l.length c_l),(2,I k),(3,Pt b1 0),(7,Pt b2 0),(8,Sl a9 (((JC s l).2.1).length) c9),(9,I ((JC s l).2.2)),(33,Bo (bb || (decide (k > (l.length:Int)))))]) ?_
 refine Jd (Ja ?_)
 refine Jo (((!decide ((JC s l).2.2=0)) || (decide (k<0))) || (decide (k > (l.length:Int)))) (fun h1=>?_) (fun h1=>?_)
 try simp only [BB] at h1
 refine Je (Jb ?_)
 refine Jc [0,0,0] [(7,Pt b2 0),(8,Sl a9 (((JC s l).2.1).length) c9),(36,Bo (decide ((JC s l).2.2=0)))] ?_
 refine QZ (fun bb=>[(7,Pt b2 0),(8,Sl a9 (((JC s l).2.1).length) c9),(36,Bo bb)]) (decide ((JC s l).2.2=0)) (fun h2=>?_) (fun h2=>?_)
 try simp only [BB] at h2
 refine Jc [1,1,1,1,1,1,1,1,1,0,0] [(6,Bo true)] (Jd (Ja (Jk (Jh ?_))))
 refine Jl [0] [Bo true] (Jv hl1 ?_)
 rfl
 try simp only [BB] at h2
 refine Jc [0,0,0,0] [(7,Pt b2 0),(36,Bo false),(40,Bo (decide ((((JC s l).2.1).length:Int)=0)))] ?_
 refine Ky (decide ((((JC s l).2.1).length:Int)=0)) (fun bb=>[(7,Pt b2 0),(36,Bo false),(40,Bo bb)]) [0,2,0,0,0] [1,1,1,1,0] (fun bb=>[(36,Bo false),(45,Bo (bb && (decide (((((JC s l).1).owners).length:Int)=0))))]) ?_
 refine Jc [0,0] [(6,Bo ((decide ((((JC s l).2.1).length:Int)=0)) && (decide (((((JC s l).1).owners).length:Int)=0))))] (Jd (Ja (Jk (Jh ?_))))
 refine Jl [0] [Bo ((decide ((((JC s l).2.1).length:Int)=0)) && (decide (((((JC s l).1).owners).length:Int)=0)))] (Jv hl1 ?_)
 have hf_:((decide ((((JC s l).2.1).length:Int)=0)) && (decide (((((JC s l).1).owners).length:Int)=0)))=true:=by
  (have q_:=JjB ‹_›;simp_all;done)
 exact congrArg Bo hf_
 try simp only [BB] at h1
 refine Jm (Ja ?_)
 obtain ⟨kn1,hkn1⟩:∃ k_:Nat,k=(k_:Int):=⟨(k).toNat,by omega⟩
 have e1:k=(kn1:Int):=hkn1
 refine JeY [(1,Sl a_l l.length c_l),(2,I k),(3,Pt b1 0),(7,Pt b2 0),(8,Sl a9 (((JC s l).2.1).length) c9),(9,I ((JC s l).2.2)),(33,Bo (((!decide ((JC s l).2.2=0)) || (decide (k<0))) || (decide (k > (l.length:Int)))))] (by as_aux_lemma=>kernel_rfl) ?_
 refine KJ (fr':=[(1,Sl a_l l.length c_l),(2,I (kn1:Int)),(3,Pt b1 0),(7,Pt b2 0),(8,Sl a9 (((JC s l).2.1).length) c9),(9,I ((JC s l).2.2)),(33,Bo (((!decide ((JC s l).2.2=0)) || (decide (k<0))) || (decide (k > (l.length:Int)))))]) (L':=[[Sg b2 0 [I (((JC s l).1).clerk.queue.most),Sl a3 ((((JC s l).1).clerk.queue.wait).length) c3,I (((JC s l).1).clerk.batch),I (((JC s l).1).clerk.every),I (((JC s l).1).clerk.now),Sl a4 ((((JC s l).1).clerk.heads).length) c4,Sl a5 ((((JC s l).1).clerk.books).length) c5,Sl a6 ((((JC s l).1).owners).length) c6,Sl a7 ((((JC s l).1).polls).length) c7,I (((JC s l).1).net.now),Sl a8 ((((JC s l).1).net.way).length) c8]],[Sg b1 0 [Sl a1 s.names.length c1,Sl a2 s.keys.length c2,I s.most,I s.batch,I s.every,I s.least,I s.top,I s.lost,I s.reach]]]) (by (simp only [Ww,Jbt,YZ,Vp,e1];first | done | rfl)) (by rfl) ?_
 refine Je ?_
 obtain ⟨a10,c10,ea1,ec1,en1,eh1,hs10⟩:=RS.reslXT (h_l.mono hl1) kn1 (by omega)
 refine Kw [4,9,10] ?_
 refine Wa [(0,(YZ s a1 c1 a2 c2)),(1,Sl a_l l.length c_l),(2,I (kn1:Int)),(3,Sl a10 ((l.take kn1).length) c10)] ?_
 refine JZ [] [(0,4),(1,0),(2,0)] [3] [4,9] (List.forall_mem_cons.2 ⟨?_,List.forall_mem_nil _⟩) (List.forall_mem_cons.2 ⟨?_,(List.forall_mem_cons.2 ⟨?_,List.forall_mem_nil _⟩)⟩)
 refine Jq 3 51 (Sl a10 ((l.take kn1).length) c10) [(49,Sl a_l l.length c_l),(50,I (kn1:Int))] (fun X=>?_)
 exact Wb (a:=a_l) (len:=l.length) (cap:=c_l) 51 16 none (some (I (kn1:Int))) 0 kn1 (.inl ⟨rfl,rfl⟩) (.inr ⟨_,rfl⟩) (by exact Nat.zero_le _) ea1 ec1 en1 eh1 Jn
 refine JO 4 [(48,(YZ s a1 c1 a2 c2)),(51,Sl a10 ((l.take kn1).length) c10)] (fun X=>?_)
 refine JN 52 (JaT G1 (Ww s a1 c1 a2 c2) s (⟨a1,c1,a2,c2,rfl,(hs1.mono hl1),(hs2.mono hl1),w1,w2,w3,w4,w5,w6,w7⟩) a10 c10 (l.take kn1) hs10) (fun v G2 L1 hl2 hp=>?_)
 obtain ⟨a11,c11,a12,c12,a13,c13,a14,c14,a15,c15,a16,c16,a17,c17,rfl,_,_,_,_,_,_,_,_,_,_,_,hs17,rfl⟩:=hp
 refine JS [(4,.tuple #[(Vp (JC s (l.take kn1)).1 a11 c11 a12 c12 a13 c13 a14 c14 a15 c15 a16 c16),Sl a17 (((JC s (l.take kn1)).2.1).length) c17,I ((JC s (l.take kn1)).2.2)]),(5,.tuple #[(Vp (JC s (l.take kn1)).1 a11 c11 a12 c12 a13 c13 a14 c14 a15 c15 a16 c16),Sl a17 (((JC s (l.take kn1)).2.1).length) c17,I ((JC s (l.take kn1)).2.2)]),(6,(Vp (JC s (l.take kn1)).1 a11 c11 a12 c12 a13 c13 a14 c14 a15 c15 a16 c16)),(7,Sl a17 (((JC s (l.take kn1)).2.1).length) c17),(8,I ((JC s (l.take kn1)).2.2))] ?_
 refine JZ [0,1,2,3] [(5,0),(6,0),(7,0),(8,0)] [] [9] (List.forall_mem_nil _) (List.forall_mem_cons.2 ⟨?_,List.forall_mem_nil _⟩)
 refine JO 9 [] (fun X=>?_)
 refine Ju 10 #[I 0,Sl none 0 0,I 0,I 0,I 0,Sl none 0 0,Sl none 0 0,Sl none 0 0,Sl none 0 0,I 0,Sl none 0 0] 41 (fun b3=>?_)
 refine JS [(9,Pt b3 0)] ?_
 refine JZ [0,1,2,3] [(5,0),(6,0),(7,0),(8,0)] [] [10] (List.forall_mem_nil _) (List.forall_mem_cons.2 ⟨?_,List.forall_mem_nil _⟩)
 refine JO 10 [(10,Pt b3 0),(53,(Vp (JC s (l.take kn1)).1 a11 c11 a12 c12 a13 c13 a14 c14 a15 c15 a16 c16))] (fun X=>?_)
 refine KQ 0 [[Sg b3 0 (Jbt (JC s (l.take kn1)).1 a11 c11 a12 c12 a13 c13 a14 c14 a15 c15 a16 c16)],[Sg b2 0 (Jbt (JC s l).1 a3 c3 a4 c4 a5 c5 a6 c6 a7 c7 a8 c8)],[Sg b1 0 (Ww s a1 c1 a2 c2)]] ?_
 refine Kj [(11,Sl a17 (((JC s (l.take kn1)).2.1).length) c17),(12,I ((JC s (l.take kn1)).2.2))] ?_
 refine Kv [0,1,2,3,5,6] [(7,0),(8,0),(11,0),(12,0)] [] [(8,Sl a9 (((JC s l).2.1).length) c9),(11,Sl a17 (((JC s (l.take kn1)).2.1).length) c17),(12,I ((JC s (l.take kn1)).2.2))] (List.forall_mem_nil _) ?_
 refine Ja (Je (Jb ?_))
 refine Jc [0,0,0] [(8,Sl a9 (((JC s l).2.1).length) c9),(11,Sl a17 (((JC s (l.take kn1)).2.1).length) c17),(58,Bo (decide ((JC s (l.take kn1)).2.2=0)))] ?_
 refine Ky (decide ((JC s (l.take kn1)).2.2=0)) (fun bb=>[(8,Sl a9 (((JC s l).2.1).length) c9),(11,Sl a17 (((JC s (l.take kn1)).2.1).length) c17),(58,Bo bb)]) [0,0,0,0,0,0] [1,1,1,1,1,0] (fun bb=>[(8,Sl a9 (((JC s l).2.1).length) c9),(11,Sl a17 (((JC s (l.take kn1)).2.1).length) c17),(64,Bo (bb && (decide ((((JC s (l.take kn1)).2.1).length:Int)≤(((JC s l).2.1).length:Int)))))]) ?_
 refine Jc [0] [(8,Sl a9 (((JC s l).2.1).length) c9),(11,Sl a17 (((JC s (l.take kn1)).2.1).length) c17),(65,Bo ((decide ((JC s (l.take kn1)).2.2=0)) && (decide ((((JC s (l.take kn1)).2.1).length:Int)≤(((JC s l).2.1).length:Int)))))] ?_
 refine QZ (fun bb=>[(8,Sl a9 (((JC s l).2.1).length) c9),(11,Sl a17 (((JC s (l.take kn1)).2.1).length) c17),(65,Bo bb)]) ((decide ((JC s (l.take kn1)).2.2=0)) && (decide ((((JC s (l.take kn1)).2.1).length:Int)≤(((JC s l).2.1).length:Int)))) (fun h3=>?_) (fun h3=>?_)
 try simp only [BB] at h3
 refine Jc [0,0,0] [(11,Sl a17 (((JC s (l.take kn1)).2.1).length) c17),(65,Bo true),(66,Sl a9 (((JC s l).2.1).length) c9),(68,I (((JC s (l.take kn1)).2.1).length:Int))] ?_
 obtain ⟨a18,c18,ea2,ec2,en2,eh2,hs18⟩:=RS.reslXT (hs9.mono hl2) (((JC s (l.take kn1)).2.1).length) (by omega)
 refine Wb (a:=a9) (len:=((JC s l).2.1).length) (cap:=c9) 69 4 none (some (I (((JC s (l.take kn1)).2.1).length:Int))) 0 (((JC s (l.take kn1)).2.1).length) (.inl ⟨rfl,rfl⟩) (.inr ⟨_,rfl⟩) (by exact Nat.zero_le _) ea2 ec2 en2 eh2 ?_
 refine Jc [0] [(65,Bo true),(69,Sl a18 ((((JC s l).2.1).take (((JC s (l.take kn1)).2.1).length)).length) c18),(70,Sl a17 (((JC s (l.take kn1)).2.1).length) c17)] ?_
 refine Ji 71 (Bo (decide (((JC s l).2.1).take (((JC s (l.take kn1)).2.1).length)=(JC s (l.take kn1)).2.1))) (Jdr G2 a18 c18 (((JC s l).2.1).take (((JC s (l.take kn1)).2.1).length)) hs18 a17 c17 ((JC s (l.take kn1)).2.1) hs17) ?_
 refine Jc [0,0] [(6,Bo (decide (((JC s l).2.1).take (((JC s (l.take kn1)).2.1).length)=(JC s (l.take kn1)).2.1)))] (Jd (Ja (Jk ?_)))
 refine Jl [0] [Bo (decide (((JC s l).2.1).take (((JC s (l.take kn1)).2.1).length)=(JC s (l.take kn1)).2.1))] (Jv (Jt.le_trans hl1 hl2) ?_)
 have hf_:(decide (((JC s l).2.1).take (((JC s (l.take kn1)).2.1).length)=(JC s (l.take kn1)).2.1))=true:=by
  (have q_:=JaQ (k:=kn1) (by exact h1.1.1) (by omega);simp_all;done)
 exact congrArg Bo hf_
 try simp only [BB] at h3
 refine Jc [1,1,1,1,1,1,0,0] [(6,Bo false)] (Jd (Ja (Jk ?_)))
 refine Jl [0] [Bo false] (Jv (Jt.le_trans hl1 hl2) ?_)
 exfalso
 (have q_:=JaQ (k:=kn1) (by exact h1.1.1) (by omega);simp_all;omega)
 refine JO 9 [] (fun X=>?_)
 refine Ju 10 #[I 0,Sl none 0 0,I 0,I 0,I 0,Sl none 0 0,Sl none 0 0,Sl none 0 0,Sl none 0 0,I 0,Sl none 0 0] 41 (fun b4=>?_)
 refine JS [(9,Pt b4 0)] ?_
 refine JZ [] [(0,6),(1,0),(2,0)] [3] [4] (List.forall_mem_cons.2 ⟨?_,List.forall_mem_nil _⟩) (List.forall_mem_cons.2 ⟨?_,List.forall_mem_nil _⟩)
 refine Jq 3 51 (Sl a10 ((l.take kn1).length) c10) [(49,Sl a_l l.length c_l),(50,I (kn1:Int))] (fun X=>?_)
 exact Wb (a:=a_l) (len:=l.length) (cap:=c_l) 51 16 none (some (I (kn1:Int))) 0 kn1 (.inl ⟨rfl,rfl⟩) (.inr ⟨_,rfl⟩) (by exact Nat.zero_le _) ea1 ec1 en1 eh1 Jn
 refine JO 4 [(48,(YZ s a1 c1 a2 c2)),(51,Sl a10 ((l.take kn1).length) c10)] (fun X=>?_)
 refine JN 52 (JaT G1 (Ww s a1 c1 a2 c2) s (⟨a1,c1,a2,c2,rfl,(hs1.mono hl1),(hs2.mono hl1),w1,w2,w3,w4,w5,w6,w7⟩) a10 c10 (l.take kn1) hs10) (fun v G3 L1 hl3 hp=>?_)
 obtain ⟨a20,c20,a21,c21,a22,c22,a23,c23,a24,c24,a25,c25,a26,c26,rfl,_,_,_,_,_,_,_,_,_,_,_,hs26,rfl⟩:=hp
 refine JS [(4,.tuple #[(Vp (JC s (l.take kn1)).1 a20 c20 a21 c21 a22 c22 a23 c23 a24 c24 a25 c25),Sl a26 (((JC s (l.take kn1)).2.1).length) c26,I ((JC s (l.take kn1)).2.2)]),(5,.tuple #[(Vp (JC s (l.take kn1)).1 a20 c20 a21 c21 a22 c22 a23 c23 a24 c24 a25 c25),Sl a26 (((JC s (l.take kn1)).2.1).length) c26,I ((JC s (l.take kn1)).2.2)]),(6,(Vp (JC s (l.take kn1)).1 a20 c20 a21 c21 a22 c22 a23 c23 a24 c24 a25 c25)),(7,Sl a26 (((JC s (l.take kn1)).2.1).length) c26),(8,I ((JC s (l.take kn1)).2.2))] ?_
 refine JZ [0,1,2,3] [(5,0),(6,0),(7,0),(8,0)] [] [10] (List.forall_mem_nil _) (List.forall_mem_cons.2 ⟨?_,List.forall_mem_nil _⟩)
 refine JO 10 [(10,Pt b4 0),(53,(Vp (JC s (l.take kn1)).1 a20 c20 a21 c21 a22 c22 a23 c23 a24 c24 a25 c25))] (fun X=>?_)
 refine KQ 0 [[Sg b4 0 (Jbt (JC s (l.take kn1)).1 a20 c20 a21 c21 a22 c22 a23 c23 a24 c24 a25 c25)],[Sg b2 0 (Jbt (JC s l).1 a3 c3 a4 c4 a5 c5 a6 c6 a7 c7 a8 c8)],[Sg b1 0 (Ww s a1 c1 a2 c2)]] ?_
 refine Kj [(11,Sl a26 (((JC s (l.take kn1)).2.1).length) c26),(12,I ((JC s (l.take kn1)).2.2))] ?_
 refine Kv [0,1,2,3,5,6] [(7,0),(8,0),(11,0),(12,0)] [] [(8,Sl a9 (((JC s l).2.1).length) c9),(11,Sl a26 (((JC s (l.take kn1)).2.1).length) c26),(12,I ((JC s (l.take kn1)).2.2))] (List.forall_mem_nil _) ?_
 refine Ja (Je (Jb ?_))
 refine Jc [0,0,0] [(8,Sl a9 (((JC s l).2.1).length) c9),(11,Sl a26 (((JC s (l.take kn1)).2.1).length) c26),(58,Bo (decide ((JC s (l.take kn1)).2.2=0)))] ?_
 refine Ky (decide ((JC s (l.take kn1)).2.2=0)) (fun bb=>[(8,Sl a9 (((JC s l).2.1).length) c9),(11,Sl a26 (((JC s (l.take kn1)).2.1).length) c26),(58,Bo bb)]) [0,0,0,0,0,0] [1,1,1,1,1,0] (fun bb=>[(8,Sl a9 (((JC s l).2.1).length) c9),(11,Sl a26 (((JC s (l.take kn1)).2.1).length) c26),(64,Bo (bb && (decide ((((JC s (l.take kn1)).2.1).length:Int)≤(((JC s l).2.1).length:Int)))))]) ?_
 refine Jc [0] [(8,Sl a9 (((JC s l).2.1).length) c9),(11,Sl a26 (((JC s (l.take kn1)).2.1).length) c26),(65,Bo ((decide ((JC s (l.take kn1)).2.2=0)) && (decide ((((JC s (l.take kn1)).2.1).length:Int)≤(((JC s l).2.1).length:Int)))))] ?_
 refine QZ (fun bb=>[(8,Sl a9 (((JC s l).2.1).length) c9),(11,Sl a26 (((JC s (l.take kn1)).2.1).length) c26),(65,Bo bb)]) ((decide ((JC s (l.take kn1)).2.2=0)) && (decide ((((JC s (l.take kn1)).2.1).length:Int)≤(((JC s l).2.1).length:Int)))) (fun h4=>?_) (fun h4=>?_)
 try simp only [BB] at h4
 refine Jc [0,0,0] [(11,Sl a26 (((JC s (l.take kn1)).2.1).length) c26),(65,Bo true),(66,Sl a9 (((JC s l).2.1).length) c9),(68,I (((JC s (l.take kn1)).2.1).length:Int))] ?_
 obtain ⟨a27,c27,ea4,ec4,en4,eh4,hs27⟩:=RS.reslXT (hs9.mono hl3) (((JC s (l.take kn1)).2.1).length) (by omega)
 refine Wb (a:=a9) (len:=((JC s l).2.1).length) (cap:=c9) 69 4 none (some (I (((JC s (l.take kn1)).2.1).length:Int))) 0 (((JC s (l.take kn1)).2.1).length) (.inl ⟨rfl,rfl⟩) (.inr ⟨_,rfl⟩) (by exact Nat.zero_le _) ea4 ec4 en4 eh4 ?_
 refine Jc [0] [(65,Bo true),(69,Sl a27 ((((JC s l).2.1).take (((JC s (l.take kn1)).2.1).length)).length) c27),(70,Sl a26 (((JC s (l.take kn1)).2.1).length) c26)] ?_
 refine Ji 71 (Bo (decide (((JC s l).2.1).take (((JC s (l.take kn1)).2.1).length)=(JC s (l.take kn1)).2.1))) (Jdr G3 a27 c27 (((JC s l).2.1).take (((JC s (l.take kn1)).2.1).length)) hs27 a26 c26 ((JC s (l.take kn1)).2.1) hs26) ?_
 refine Jc [0,0] [(6,Bo (decide (((JC s l).2.1).take (((JC s (l.take kn1)).2.1).length)=(JC s (l.take kn1)).2.1)))] (Jd (Ja (Jk ?_)))
 refine Jl [0] [Bo (decide (((JC s l).2.1).take (((JC s (l.take kn1)).2.1).length)=(JC s (l.take kn1)).2.1))] (Jv (Jt.le_trans hl1 hl3) ?_)
 have hf_:(decide (((JC s l).2.1).take (((JC s (l.take kn1)).2.1).length)=(JC s (l.take kn1)).2.1))=true:=by
  (have q_:=JaQ (k:=kn1) (by exact h1.1.1) (by omega);simp_all;done)
 exact congrArg Bo hf_
 try simp only [BB] at h4
 refine Jc [1,1,1,1,1,1,0,0] [(6,Bo false)] (Jd (Ja (Jk ?_)))
 refine Jl [0] [Bo false] (Jv (Jt.le_trans hl1 hl3) ?_)
 exfalso
 (have q_:=JaQ (k:=kn1) (by exact h1.1.1) (by omega);simp_all;omega)
end Go.Proofs.YtnnlpbjdignhaaaGreatDoor
