import Derived.Test.YtnnlpbjdignhaaaGreatDoorTgClash
import Derived.Test.YtnnlpbjdignhaaaGreatDoorTgChain
import Derived.Test.YtnnlpbjdignhaaaGreatDoorTgOwner
namespace Go.Proofs.YtnnlpbjdignhaaaGreatDoor
open Go.Tx
set_option linter.unusedVariables false
set_option linter.unusedSimpArgs false
def Qg (p:WA):Int×Int:=if (KT p).2 ≠ 0 then (0,(KT p).2) else (Jf (Jfs (KT p).1),0)
def WN (root:Int) (p:WA):Int:=if (Qg p).2=0∧¬ (Qg p).1=root then 8 else (Qg p).2
def Q5 (root:Int) (p:WA):List UInt8×Bool×Int:=if ¬ WN root p=0 then ([],false,WN root p) else K8 p.entries p.name
def JJ (r:WE):List UInt8×Bool×Int:=if ¬ JE r.head=0 then ([],false,JE r.head) else Q5 r.head.root r.proof
theorem Yz {p:WA} (h:(KT p).2=0):(KT p).1.length=17:=by
 unfold KT at h ⊢
 split at h
 ·
  contradiction
 ·
  rename_i h1
  rw [if_neg h1]
  simp only
  rw [Zq,(QO.1 (Decidable.not_not.1 h1)).sides]
def Zr (x h:JS):Bool:=decide (x.epoch=h.epoch) && !decide (x=h)
def KQ (h:JS) (l:List JS):Int:=if ¬ (Kc l).1=0∨(QX l).epoch > h.epoch+1 then 2 else if (QX l).epoch=h.epoch+1∧(Qu h l).1=false then 2 else if (l.any fun x0=>Zr x0 h)=true then 3 else if (WC l).epoch≤h.epoch then 1 else 0
def Zf (o:KO):Int:=if 0 > o.had-1 then 0 else o.had-1
def Vj (o:KO) (w:List UInt8):Int:=K9 (fun x=>decide (w=x)) (o.wanted.drop (Zf o).toNat)
def JH (o:KO) (l:List JS) (r:WE):Int×Int:=if ¬ KQ o.head l=0 then (KQ o.head l,0) else if (¬ (JJ r).2.2=0∨¬ r.head=WC l)∨¬ r.proof.name=o.name then (4,0) else if (JJ r).2.1=false∧o.had > 0 then (5,0) else if (JJ r).2.1=false then (0,0) else if Vj o (JJ r).1<0 then (6,0) else (0,Zf o+Vj o (JJ r).1+1)
def Jx (o:KO) (l:List JS) (r:WE):KO×Int×Int:=if ¬ J6 o=0 then (Y8,0,J6 o) else if (JH o l r).1=0 then (⟨o.name,o.key,r.head,o.wanted,(JH o l r).2⟩,0,0) else (o,(JH o l r).1,0)
theorem Yc {h:JS} {l:List JS} (e:KQ h l=0):Wc l∧h.epoch<(WC l).epoch:=by
 unfold KQ at e
 split at e
 ·
  cases e
 split at e
 ·
  cases e
 split at e
 ·
  cases e
 split at e
 ·
  cases e
 ·
  rename_i h1 _ _ h4
  exact ⟨KZ.1 (Decidable.not_not.1 fun hc=>h1 (.inl hc)),by omega⟩
theorem Jhk {h:JS} {l:List JS} {x:JS} (h1:¬ (Kc l).1=0∨(l[0]? = some x∧x.epoch > h.epoch+1)):KQ h l=2:=by
 unfold KQ
 rw [if_pos]
 rcases h1 with h1 | ⟨h1,h2⟩
 ·
  exact .inl h1
 ·
  rw [← WB h1];exact .inr h2
theorem JlB {h:JS} {l:List JS} {x:JS} (h0:(Kc l).1=0) (h1:l[0]? = some x) (h2:x.epoch≤h.epoch+1) (h3:x.epoch=h.epoch+1) (h4:(Qu h l).1=false):KQ h l=2:=by
 unfold KQ
 rw [← WB h1,if_neg (by omega),if_pos ⟨h3,h4⟩]
theorem Jao {h:JS} {l:List JS} {x:JS} (h0:(Kc l).1=0) (h1:l[0]? = some x) (h2:x.epoch≤h.epoch+1) (h3:¬ x.epoch=h.epoch+1∨(Qu h l).1=true):KQ h l=if (l.any fun x0=>Zr x0 h)=true then 3 else if (WC l).epoch≤h.epoch then 1 else 0:=by
 unfold KQ
 rw [← WB h1,if_neg (by omega),if_neg]
 rintro ⟨a,b⟩
 rcases h3 with h3 | h3
 ·
  exact h3 a
 ·
  rw [h3] at b;cases b
theorem Jja {α:Type} (p:α→Bool) (l:List α):-1≤K9 p l∧K9 p l<l.length+1:=by
 by_cases h:K9 p l<0
 ·
  refine ⟨?_,by omega⟩
  unfold K9;split <;> omega
 ·
  obtain ⟨k,hk⟩:∃ k:Nat,K9 p l=k:=⟨_,(Int.toNat_of_nonneg (by omega)).symm⟩
  obtain ⟨x,hx,_⟩:=JfW hk
  have:=(List.getElem?_eq_some_iff.1 hx).1
  omega
theorem JdJ {o:KO} {l:List JS} {r:WE} {x:JS} (h0:KQ o.head l=0) (h1:(JJ r).2.2=0) (h2:l[l.length-1]? = some x) (h3:((r.head.epoch=x.epoch∧r.head.root=x.root)∧r.head.prev=x.prev)∧r.head.at_=x.at_) (h4:r.proof.name=o.name) :
  JH o l r=if (JJ r).2.1=false∧o.had > 0 then (5,0) else if (JJ r).2.1=false then (0,0) else if Vj o (JJ r).1<0 then (6,0) else (0,Zf o+Vj o (JJ r).1+1):=by
 unfold JH
 have e:=Wk rfl h2
 have e2:r.head=WC l:=by rw [← e,Ja1];exact ⟨h3.1.1.1,h3.1.1.2,h3.1.2,h3.2⟩
 rw [if_neg (by omega),if_neg]
 rintro ((a | a) | a)
 ·
  exact a h1
 ·
  exact a e2
 ·
  exact a h4
theorem Jgg {o:KO} {l:List JS} {r:WE} (h0:KQ o.head l=0) (h1:(¬ (JJ r).2.2=0∨∃ x,l[l.length-1]? = some x∧(((r.head.epoch=x.epoch∧r.head.root=x.root)∧r.head.prev=x.prev)→¬ r.head.at_=x.at_))∨¬ r.proof.name=o.name):JH o l r=(4,0):=by
 unfold JH
 rw [if_neg (by omega),if_pos]
 rcases h1 with (h1 | ⟨x,h1,h2⟩) | h1
 ·
  exact .inl (.inl h1)
 ·
  refine .inl (.inr ?_)
  rw [← Wk rfl h1,Ja1]
  rintro ⟨a,b,c,d⟩
  exact h2 ⟨⟨a,b⟩,c⟩ d
 ·
  exact .inr h1
theorem Jhl {o:KO} {k:Nat} (w:List UInt8) (h:(if 0 > o.had-1 then 0 else o.had-1)=(k:Int)):Zf o=k∧Vj o w=K9 (fun x=>decide (w=x)) (o.wanted.drop k):=by
 have e:Zf o=k:=h
 refine ⟨e,?_⟩
 unfold Vj;rw [e];rfl
theorem Jhm {o:KO} {w:List UInt8} (h:¬ Vj o w<0):∃ k:Nat,Vj o w=k∧o.wanted[(Zf o).toNat+k]? = some w:=by
 obtain ⟨k,hk⟩:∃ k:Nat,Vj o w=k:=⟨_,(Int.toNat_of_nonneg (by omega)).symm⟩
 refine ⟨k,hk,?_⟩
 unfold Vj at hk
 obtain ⟨x,hx,hp⟩:=JfW hk
 rw [List.getElem?_drop] at hx
 rw [hx,of_decide_eq_true hp]
theorem Jcd {o:KO} {l:List JS} {r:WE} (hc:J6 o=0) (h:(JH o l r).1=0) :
  (JJ r).2.2=0∧o.head.epoch<r.head.epoch∧JE r.head=0∧o.had≤(JH o l r).2∧0≤(JH o l r).2∧(JH o l r).2≤o.wanted.length ∧
  ((JJ r).2.1=false→(JH o l r).2=0∧o.had=0)∧((JJ r).2.1=true→1≤(JH o l r).2∧∃ k:Nat,(JH o l r).2-1=k∧o.wanted[k]? = some (JJ r).1):=by
 have ho:=K0.1 hc
 unfold JH at h ⊢
 by_cases h1:KQ o.head l=0
 ·
  rw [if_neg (by omega)] at h ⊢
  obtain ⟨c1,c2⟩:=Yc h1
  by_cases h2:(¬ (JJ r).2.2=0∨¬ r.head=WC l)∨¬ r.proof.name=o.name
  ·
   rw [if_pos h2] at h;cases h
  ·
   rw [if_neg h2] at h ⊢
   have e1:(JJ r).2.2=0:=Decidable.not_not.1 fun hc=>h2 (.inl (.inl hc))
   have e2:r.head=WC l:=Decidable.not_not.1 fun hc=>h2 (.inl (.inr hc))
   have e3:JE r.head=0:=by rw [e2];exact c1.ok _ (List.mem_of_getElem? c1.last)
   by_cases h3:(JJ r).2.1=false∧o.had > 0
   ·
    rw [if_pos h3] at h;cases h
   ·
    rw [if_neg h3] at h ⊢
    by_cases h4:(JJ r).2.1=false
    ·
     rw [if_pos h4] at h ⊢
     have:¬ o.had > 0:=fun hc=>h3 ⟨h4,hc⟩
     exact ⟨e1,by rw [e2];exact c2,e3,by simp only;omega,by simp,by simp,fun _=>⟨rfl,by omega⟩,fun hc=>by rw [h4] at hc;cases hc⟩
    ·
     rw [if_neg h4] at h ⊢
     by_cases h5:Vj o (JJ r).1<0
     ·
      rw [if_pos h5] at h;cases h
     ·
      rw [if_neg h5]
      obtain ⟨k,hk,hw⟩:=Jhm h5
      have hlt:=(List.getElem?_eq_some_iff.1 hw).1
      have hf:0≤Zf o∧o.had-1≤Zf o:=by unfold Zf;split <;> omega
      simp only
      refine ⟨e1,by rw [e2];exact c2,e3,by omega,by omega,by omega,fun hc=>absurd hc h4,fun _=>⟨by omega,(Zf o).toNat+k,by omega,hw⟩⟩
 ·
  rw [if_pos h1] at h;exact absurd h h1
theorem see_ok {o:KO} {l:List JS} {r:WE} (h:(Jx o l r).2.2=0):J6 o=0∧(Jx o l r).2.1=(JH o l r).1∧((JH o l r).1=0→(Jx o l r).1=⟨o.name,o.key,r.head,o.wanted,(JH o l r).2⟩)∧(¬ (JH o l r).1=0→(Jx o l r).1=o):=by
 unfold Jx at h ⊢
 by_cases h1:J6 o=0
 ·
  rw [if_neg (by omega)] at h ⊢
  by_cases h2:(JH o l r).1=0
  ·
   rw [if_pos h2];exact ⟨h1,h2.symm,fun _=>rfl,fun hc=>absurd h2 hc⟩
  ·
   rw [if_neg h2];exact ⟨h1,rfl,fun hc=>absurd hc h2,fun _=>rfl⟩
 ·
  rw [if_pos h1] at h;exact absurd h h1
theorem Jeg {o:KO} {l:List JS} {r:WE} (h:(Jx o l r).2.2=0) (hv:(Jx o l r).2.1=0):(JJ r).2.2=0∧(Jx o l r).1.head=r.head∧o.head.epoch<(Jx o l r).1.head.epoch∧o.had≤(Jx o l r).1.had∧J6 (Jx o l r).1=0∧((JJ r).2.1=false→(Jx o l r).1.had=0∧o.had=0)∧((JJ r).2.1=true→1≤(Jx o l r).1.had∧(Jx o l r).1.had≤o.wanted.length∧∃ k:Nat,(Jx o l r).1.had-1=k∧o.wanted[k]? = some (JJ r).1):=by
 obtain ⟨h1,h2,h3,_⟩:=see_ok h
 have hv0:(JH o l r).1=0:=by rw [← h2];exact hv
 have hx:=h3 hv0
 have ho:=K0.1 h1
 obtain ⟨a1,a2,a3,a4,a5,a6,a7,a8⟩:=Jcd h1 hv0
 rw [hx]
 refine ⟨a1,rfl,a2,a4,K0.2 ⟨ho.1,a3,ho.2.2.1,ho.2.2.2.1,a5,a6⟩,a7,fun hi=>⟨(a8 hi).1,a6,(a8 hi).2⟩⟩
theorem JeN (G:Jt) (vs_p:List Value) (p:WA) (h_p:JdZ.R G vs_p p) :QI Tryz.prog 158 #[.agg vs_p.toArray] G [] (fun u G' L'=>u=.tuple #[U ((Qg p).1),I ((Qg p).2)]):=by
 obtain ⟨a1,c1,a2,c2,rfl,w1,hs1,hs2⟩:=h_p
 refine JK Tryz.func158 21 [(0,(ZI p a1 c1 a2 c2))] rfl (fun w0 G0=>?_)
 refine Je (Jb (Ju 1 #[Sr p.name,Sl a1 p.entries.length c1,Sl a2 p.sides.length c2] 68 (fun b1=>Jd [0,0] [(1,Pt b1 0)] (Jc (Ja (Je (Jb (Jd [2] [(7,(ZI p a1 c1 a2 c2))] (JQ 8 (JeH G (Zg p a1 c1 a2 c2) p (⟨a1,c1,a2,c2,rfl,w1,hs1,hs2⟩)) (fun v G1 L1 hl1 hp=>?_))))))))))
 obtain ⟨a3,c3,rfl,hs3,rfl⟩:=hp
 refine Jd [0,0,0,0,0] [(4,Sl a3 (((KT p).1).length) c3),(5,I ((KT p).2))] (Jc (Ja (Je (Jg [0,0] [(4,Sl a3 (((KT p).1).length) c3),(5,I ((KT p).2)),(12,Bo (!decide ((KT p).2=0)))] (Jo (!decide ((KT p).2=0)) (fun h1=>?_) (fun h1=>?_))))))
 try simp only [BB] at h1
 refine Jg [0,0,0] [(2,U 0),(3,I ((KT p).2))] (Jk (Jh (Jl [0,0] [U 0,I ((KT p).2)] (Jv hl1 ?_))))
 have hf_:(Qg p)=(0,((KT p).2)):=by
  unfold Qg;(rw [if_pos ‹_›];done)
 · (try rw [hf_]);(simp only [JM];done)
 try simp only [BB] at h1
 refine Jn (Ja (Je (Jb (Jd [0,0,0,0] [(14,Sl a3 (((KT p).1).length) c3),(17,I (IntKind.i64.wrap ((((KT p).1).length:Int)-1)))] ?_))))
 have e1:IntKind.i64.wrap ((((KT p).1).length:Int)-1)=((((KT p).1).length-1:Nat):Int):=(IntWalk.i64_in _ (by (have q_:=Yz (p:=p) ‹_›;omega))).trans (show (((KT p).1).length:Int)-1=((((KT p).1).length-1:Nat):Int) by (have q_:=Yz (p:=p) ‹_›;omega))
 refine J4 (fr':=[(14,Sl a3 (((KT p).1).length) c3),(17,I ((((KT p).1).length-1:Nat):Int))]) (L':=[[Sg b1 0 [Sr p.name,Sl a1 p.entries.length c1,Sl a2 p.sides.length c2]]]) (by simp only [Zg,ZI,e1];first | done | rfl) (by rfl) ?_
 clear e1
 obtain ⟨b2,o1,rfl⟩:=RS.addr hs3 (k:=((KT p).1).length-1) (by (have q_:=Yz (p:=p) ‹_›;omega))
 obtain ⟨x1,hx1⟩:=Wj (l:=(KT p).1) (k:=((KT p).1).length-1) (by (have q_:=Yz (p:=p) ‹_›;omega))
 obtain ⟨_,⟨rfl,w2⟩,hc1⟩:=RS.get hs3 hx1
 refine Ki (b:=b2) (off:=o1) (len:=((KT p).1).length) (cap:=c3) (ik:=.i64) 18 9 1 (((KT p).1).length-1) (by (have q_:=Yz (p:=p) ‹_›;omega)) (Ka 19 9 (cs:=[Sr x1]) 0 (Sr x1) hc1 (Ji 20 (U (Jf x1)) (Zx x1 (JbM w2) G1) (Jd [0,0] [(2,U (Jf x1)),(3,I 0)] (Jc (Ja (Jk (Jl [0,0] [U (Jf x1),I 0] (Jv hl1 ?_))))))))
 have hf_:(Qg p)=((Jf x1),0):=by
  unfold Qg;(rw [if_neg (by omega)];have hl_:=Jft (a:=(KT p).1) rfl hx1;rw [← hl_];done)
 · (try rw [hf_]);(simp only [JM];done)
theorem JeO (G:Jt) (root:Int) (vs_p:List Value) (p:WA) (h_p:JdZ.R G vs_p p) :QI Tryz.prog 124 #[U root,.agg vs_p.toArray] G [] (fun u G' L'=>u=I (WN root p)):=by
 obtain ⟨a1,c1,a2,c2,rfl,w1,hs1,hs2⟩:=h_p
 refine JK Tryz.func124 20 [(0,U root),(1,(ZI p a1 c1 a2 c2))] rfl (fun w0 G0=>?_)
 refine Je (Jb (Ju 3 #[Sr p.name,Sl a1 p.entries.length c1,Sl a2 p.sides.length c2] 68 (fun b1=>Jd [0] [(0,U root),(3,Pt b1 0)] (Jc (Ja (Je (Jb (Jd [2] [(0,U root),(8,(ZI p a1 c1 a2 c2))] (Ji 9 (.tuple #[U ((Qg p).1),I ((Qg p).2)]) (JeN G (Zg p a1 c1 a2 c2) p (⟨a1,c1,a2,c2,rfl,w1,hs1,hs2⟩)) (Jd [0,0,0,0,0] [(0,U root),(5,U ((Qg p).1)),(6,I ((Qg p).2))] (Jc (Ja (Je (Je (Jb (Jd [0,0,0] [(0,U root),(5,U ((Qg p).1)),(6,I ((Qg p).2)),(14,Bo (decide ((Qg p).2=0)))] (KD (decide ((Qg p).2=0)) (fun bb=>[(0,U root),(5,U ((Qg p).1)),(6,I ((Qg p).2)),(14,Bo bb)]) [0,0,0,0] [1,1,1,0] (fun bb=>[(6,I ((Qg p).2)),(18,Bo (bb && (!decide ((Qg p).1=root))))]) (Jc (Ja (Jo ((decide ((Qg p).2=0)) && (!decide ((Qg p).1=root))) (fun h1=>?_) (fun h1=>?_)))))))))))))))))))))
 try simp only [BB] at h1
 refine Jb (Jd [0] [(6,I 8)] (Jc (Ja (Jg [0,0] [(4,I 8)] (Jk (Jl [0] [I 8] (Jv (Jt.le_refl _) ?_)))))))
 have hf_:(WN root p)=8:=by
  unfold WN;(rw [if_pos (by simp_all)];done)
 · (try rw [hf_]);(simp only [JM];done)
 try simp only [BB] at h1
 refine Jn (Ja (Jg [0,0] [(4,I ((Qg p).2))] (Jk (Jl [0] [I ((Qg p).2)] (Jv (Jt.le_refl _) ?_)))))
 have hf_:(WN root p)=((Qg p).2):=by
  unfold WN;(rw [if_neg (by simp_all)];done)
 · (try rw [hf_]);(simp only [JM];done)
theorem JeP (G:Jt) (root:Int) (vs_p:List Value) (p:WA) (h_p:JdZ.R G vs_p p) :QI Tryz.prog 87 #[U root,.agg vs_p.toArray] G [] (fun u G' L'=>u=.tuple #[Sr ((Q5 root p).1),Bo ((Q5 root p).2.1),I ((Q5 root p).2.2)]∧(((Q5 root p).1).length≤140737488351232)∧L'=[]):=by
 obtain ⟨a1,c1,a2,c2,rfl,w1,hs1,hs2⟩:=h_p
 refine JK Tryz.func87 22 [(0,U root),(1,(ZI p a1 c1 a2 c2))] rfl (fun w0 G0=>?_)
 refine Je (Jb (Ju 3 #[Sr p.name,Sl a1 p.entries.length c1,Sl a2 p.sides.length c2] 68 (fun b1=>Jd [0,0,0] [(0,U root),(3,Pt b1 0)] (Jc (Ja (Je (Je (Jb (Jd [0,2] [(3,Pt b1 0),(8,U root),(9,(ZI p a1 c1 a2 c2))] (Ji 10 (I (WN root p)) (JeO G root (Zg p a1 c1 a2 c2) p (⟨a1,c1,a2,c2,rfl,w1,hs1,hs2⟩)) (Jd [0] [(3,Pt b1 0),(7,I (WN root p))] (Jc (Ja (Jg [0,0] [(3,Pt b1 0),(7,I (WN root p)),(12,Bo (!decide (WN root p=0)))] (Jo (!decide (WN root p=0)) (fun h1=>?_) (fun h1=>?_))))))))))))))))
 try simp only [BB] at h1
 refine Jg [0,0,0,0] [(4,Sr ([])),(5,Bo false),(6,I (WN root p))] (Jk (Jh ?_))
 have hf1:Q5 root p=([],false,WN root p):=by
  unfold Q5;(rw [if_pos ‹_›];done)
 refine Jl [0,0,0] [Sr ([]),Bo false,I (WN root p)] (JY [] (.cons _ .slnil) (Jt.le_refl _) ?_)
 rw [hf1]
 try dsimp only
 exact ⟨rfl,(Nat.le_of_ble_eq_true rfl),rfl⟩
 try simp only [BB] at h1
 refine Jn (Ja (Je (Jb (Jd [0,2,0,2] [(15,Sl a1 p.entries.length c1),(17,Sr p.name)] (JQ 18 (Jg8 G a1 c1 p.entries hs1 p.name w1) (fun v G1 L1 hl1 hp=>?_))))))
 obtain ⟨rfl,w2,rfl⟩:=hp
 refine Jd [0,0,0,0,0,0] [(4,Sr ((K8 p.entries p.name).1)),(5,Bo ((K8 p.entries p.name).2.1)),(6,I ((K8 p.entries p.name).2.2))] (Jc (Ja (Jk ?_)))
 have hf2:Q5 root p=((K8 p.entries p.name).1,(K8 p.entries p.name).2.1,(K8 p.entries p.name).2.2):=by
  unfold Q5;(rw [if_neg (by simp_all)];done)
 refine Jl [0,0,0] [Sr ((K8 p.entries p.name).1),Bo ((K8 p.entries p.name).2.1),I ((K8 p.entries p.name).2.2)] (JY [] (.cons _ .slnil) hl1 ?_)
 rw [hf2]
 try dsimp only
 exact ⟨rfl,w2,rfl⟩
theorem JeQ (G:Jt) (vs_r:List Value) (r:WE) (h_r:JhU.R G vs_r r) :QI Tryz.prog 50 #[.agg vs_r.toArray] G [] (fun u G' L'=>u=.tuple #[Sr ((JJ r).1),Bo ((JJ r).2.1),I ((JJ r).2.2)]∧(((JJ r).1).length≤140737488351232)∧L'=[]):=by
 obtain ⟨a1,c1,a2,c2,rfl,_,_,_,_,w5,hs1,hs2⟩:=h_r
 refine JK Tryz.func50 21 [(0,(WF r a1 c1 a2 c2))] rfl (fun w0 G0=>?_)
 refine Je (Jb (Ju 1 #[I r.head.epoch,U r.head.root,U r.head.prev,I r.head.at_,Sr r.proof.name,Sl a1 r.proof.entries.length c1,Sl a2 r.proof.sides.length c2] 70 (fun b1=>Jd [0,0,0] [(1,Pt b1 0)] (Jc (Ja (Je (Je (Jb (Jd [0,2] [(1,Pt b1 0),(7,.agg #[I r.head.epoch,U r.head.root,U r.head.prev,I r.head.at_])] (Ji 8 (I (JE r.head)) (Zw r.head G) (Jd [0] [(1,Pt b1 0),(5,I (JE r.head))] (Jc (Ja (Jg [0,0] [(1,Pt b1 0),(5,I (JE r.head)),(10,Bo (!decide (JE r.head=0)))] (Jo (!decide (JE r.head=0)) (fun h1=>?_) (fun h1=>?_))))))))))))))))
 try simp only [BB] at h1
 refine Jg [0,0,0,0] [(2,Sr ([])),(3,Bo false),(4,I (JE r.head))] (Jk (Jh ?_))
 have hf1:JJ r=([],false,JE r.head):=by
  unfold JJ;(rw [if_pos ‹_›];done)
 refine Jl [0,0,0] [Sr ([]),Bo false,I (JE r.head)] (JY [] (.cons _ .slnil) (Jt.le_refl _) ?_)
 rw [hf1]
 try dsimp only
 exact ⟨rfl,(Nat.le_of_ble_eq_true rfl),rfl⟩
 try simp only [BB] at h1
 refine Jn (Ja (Je (Jb (Jd [0,0,2,0,2] [(14,U r.head.root),(16,(ZI r.proof a1 c1 a2 c2))] (JQ 17 (JeP G r.head.root (Zg r.proof a1 c1 a2 c2) r.proof (⟨a1,c1,a2,c2,rfl,w5,hs1,hs2⟩)) (fun v G1 L1 hl1 hp=>?_))))))
 obtain ⟨rfl,w6,rfl⟩:=hp
 refine Jd [0,0,0,0,0,0] [(2,Sr ((Q5 r.head.root r.proof).1)),(3,Bo ((Q5 r.head.root r.proof).2.1)),(4,I ((Q5 r.head.root r.proof).2.2))] (Jc (Ja (Jk ?_)))
 have hf2:JJ r=((Q5 r.head.root r.proof).1,(Q5 r.head.root r.proof).2.1,(Q5 r.head.root r.proof).2.2):=by
  unfold JJ;(rw [if_neg (by simp_all)];done)
 refine Jl [0,0,0] [Sr ((Q5 r.head.root r.proof).1),Bo ((Q5 r.head.root r.proof).2.1),I ((Q5 r.head.root r.proof).2.2)] (JY [] (.cons _ .slnil) hl1 ?_)
 rw [hf2]
 try dsimp only
 exact ⟨rfl,w6,rfl⟩
theorem Jce (G:Jt) (vs_x:List Value) (x:JS) (h_x:KE.R G vs_x x) (vs_h:List Value) (h:JS) (h_h:KE.R G vs_h h) (b_h:Nat) (hz_h:∀ j v,(vs_h:List Value)[j]? = some v→G b_h (0+j)=some v) :QI Tryz.prog 205 #[.agg vs_x.toArray,Pt b_h 0] G [] (fun u G' L'=>u=Bo (Zr x h)):=by
 obtain ⟨rfl,_,_,_,_⟩:=h_x
 obtain ⟨rfl,_,_,_,_⟩:=h_h
 refine JK Tryz.func205 14 [(0,.agg #[I x.epoch,U x.root,U x.prev,I x.at_]),(1,Pt b_h 0)] rfl (fun w0 G0=>?_)
 refine Je (Jb (Ju 2 #[I x.epoch,U x.root,U x.prev,I x.at_] 50 (fun b1=>Jd [0] [(1,Pt b_h 0),(2,Pt b1 0)] (Jc (Ja (Je (Jb (Jd [0,2,0] [(1,Pt b_h 0),(2,Pt b1 0),(5,I x.epoch),(6,Pt b_h 0)] (Ka (o':=0) 7 2 (cs:=[I h.epoch,U h.root,U h.prev,I h.at_]) 0 (I h.epoch) hz_h (Jd [0,0] [(1,Pt b_h 0),(2,Pt b1 0),(9,Bo (decide (x.epoch=h.epoch)))] (We (fun bb=>[(1,Pt b_h 0),(2,Pt b1 0),(9,Bo bb)]) (decide (x.epoch=h.epoch)) (fun h1=>?_) (fun h1=>?_))))))))))))
 try simp only [BB] at h1
 refine Jd [2] [(1,Pt b_h 0),(9,Bo true),(10,.agg #[I x.epoch,U x.root,U x.prev,I x.at_])] (Ka (o':=0) 11 50 (cs:=[I h.epoch,U h.root,U h.prev,I h.at_]) 0 (.agg #[I h.epoch,U h.root,U h.prev,I h.at_]) hz_h (JbY 12 (Bo (!(decide (x.epoch=h.epoch) && (decide (x.root=h.root) && (decide (x.prev=h.prev) && (decide (x.at_=h.at_) && true)))))) (Bo (!(decide (x.epoch=h.epoch) && decide (x.root=h.root) && decide (x.prev=h.prev) && decide (x.at_=h.at_)))) (by simp [Zc,Bool.and_assoc]) (Jd [0,0] [(3,Bo (!(decide (x.epoch=h.epoch) && decide (x.root=h.root) && decide (x.prev=h.prev) && decide (x.at_=h.at_))))] (Jc (Ja (Jk (Jl [0] [Bo (!(decide (x.epoch=h.epoch) && decide (x.root=h.root) && decide (x.prev=h.prev) && decide (x.at_=h.at_)))] (Jv (Jt.le_refl _) ?_))))))))
 have hf_:(Zr x h)=(!(decide (x.epoch=h.epoch) && decide (x.root=h.root) && decide (x.prev=h.prev) && decide (x.at_=h.at_))):=by
  unfold Zr;rw [Bool.eq_iff_iff];simp [Ja1];grind
 · (try rw [hf_]);(simp only [JM];done)
 try simp only [BB] at h1
 refine Jd [1,1,1,0,0] [(3,Bo false)] (Jc (Ja (Jk (Jl [0] [Bo false] (Jv (Jt.le_refl _) ?_)))))
 have hf_:(Zr x h)=false:=by
  unfold Zr;rw [Bool.eq_iff_iff];simp [Ja1];grind
 · (try rw [hf_]);(simp only [JM];done)
set_option maxRecDepth 20000 in
theorem Jeh (G:Jt) (vs_h:List Value) (h:JS) (h_h:KE.R G vs_h h) (a_l:Option Addr) (c_l:Nat) (l:List JS) (h_l:RS KE G a_l c_l l) (hh:JE h=0):QI Tryz.prog 196 #[.agg vs_h.toArray,Sl a_l l.length c_l] G [] (fun u G' L'=>u=I (KQ h l)):=by
 obtain ⟨rfl,w1,w2,w3,w4⟩:=h_h
 refine JK Tryz.func196 55 [(0,.agg #[I h.epoch,U h.root,U h.prev,I h.at_]),(1,Sl a_l l.length c_l)] rfl (fun w0 G0=>?_)
 refine Je (Jb (Ju 2 #[I h.epoch,U h.root,U h.prev,I h.at_] 50 (fun b1=>Jd [0] [(1,Sl a_l l.length c_l),(2,Pt b1 0)] (Jc (Ja (Je (Je (Jb (Jd [0] [(1,Sl a_l l.length c_l),(2,Pt b1 0),(10,Sl a_l l.length c_l)] (Ji 11 (.tuple #[I ((Kc l).1),I ((Kc l).2)]) (VQ G a_l c_l l h_l) (Jd [0,0,0,0,0] [(1,Sl a_l l.length c_l),(2,Pt b1 0),(5,I ((Kc l).1))] (Jc (Ja (Je ?_))))))))))))))
 rcases Bool.eq_false_or_eq_true (!decide ((Kc l).1=0)) with h1 | h1
 have h1d:=h1
 try simp only [BB] at h1d
 refine KA [] (Ws [(0,I ((Kc l).1)),(1,Bo true),(2,Bo true),(3,undef),(4,undef),(5,undef),(6,undef),(7,undef),(8,undef),(9,undef),(10,undef),(11,Bo true)] (Kz [] [(0,0),(2,0),(3,1),(4,1),(5,1),(6,1),(7,1),(8,1),(9,1),(10,1),(11,0)] [1] [(1,Sl a_l l.length c_l),(2,Pt b1 0),(25,Bo true)] (List.forall_mem_cons.2 ⟨?_,List.forall_mem_nil _⟩) ?_))
 refine Jr 1 15 (Bo true) [(14,I ((Kc l).1))] (fun X=>?_)
 exact K7 15 (Bo (!decide ((Kc l).1=0))) (Bo true) (by rw [h1]) Jp
 refine Ja (JZ (Jg [0] [(4,I 2)] (Jk (Jh (Jl [0] [I 2] (Jv (Jt.le_refl _) ?_))))))
 have hf_:(KQ h l)=2:=by
  exact Jhk (x:=W0) (.inl ‹_›)
 · (try rw [hf_]);(simp only [JM];done)
 have h1d:=h1
 try simp only [BB] at h1d
 obtain ⟨b2,o1,rfl⟩:=RS.addr h_l (k:=0) (by (have q_:=(KZ.1 ‹_›);have q1_:=q_.len1;have q2_:=q_.len;omega))
 obtain ⟨x1,hx1⟩:=Wj (l:=l) (k:=0) (by (have q_:=(KZ.1 ‹_›);have q1_:=q_.len1;have q2_:=q_.len;omega))
 obtain ⟨_,⟨rfl,_,_,_,_⟩,hc1⟩:=RS.get h_l hx1
 have e1:IntKind.i64.wrap (h.epoch+1)=h.epoch+1:=IntWalk.i64_in _ (by (have q0_:=W8 hh;omega))
 refine KA [] (Ws [(0,I ((Kc l).1)),(1,Bo false),(2,Bo false),(3,Sl (At b2 o1) l.length c_l),(4,Pt b2 (o1+0*4)),(5,Pt b2 (o1+0*4)),(6,I x1.epoch),(7,Pt b1 0),(8,I h.epoch),(9,I (h.epoch+1)),(10,Bo (decide (x1.epoch > h.epoch+1))),(11,Bo (decide (x1.epoch > h.epoch+1)))] (Kz [] [(0,0),(2,0),(3,0),(5,0),(7,0),(8,2),(10,0),(11,0)] [1,4,6,9] [(1,Sl (At b2 o1) l.length c_l),(2,Pt b1 0),(25,Bo (decide (x1.epoch > h.epoch+1)))] (List.forall_mem_cons.2 ⟨?_,(List.forall_mem_cons.2 ⟨?_,(List.forall_mem_cons.2 ⟨?_,(List.forall_mem_cons.2 ⟨?_,List.forall_mem_nil _⟩)⟩)⟩)⟩) ?_))
 refine Jr 1 15 (Bo false) [(14,I ((Kc l).1))] (fun X=>?_)
 exact K7 15 (Bo (!decide ((Kc l).1=0))) (Bo false) (by rw [h1]) Jp
 refine Jr 4 18 (Pt b2 (o1+0*4)) [(16,Bo false),(17,Sl (At b2 o1) l.length c_l)] (fun X=>?_)
 exact Ki (b:=b2) (off:=o1) (len:=l.length) (cap:=c_l) (ik:=.i64) 18 50 4 0 (by (have q_:=(KZ.1 ‹_›);have q1_:=q_.len1;have q2_:=q_.len;omega)) Jp
 refine Jr 6 20 (I x1.epoch) [(16,Bo false),(19,Pt b2 (o1+0*4))] (fun X=>?_)
 exact Ka 20 2 (cs:=[I x1.epoch,U x1.root,U x1.prev,I x1.at_]) 0 (I x1.epoch) hc1 Jp
 refine Jr 9 23 (I (h.epoch+1)) [(16,Bo false),(22,I h.epoch)] (fun X=>?_)
 exact K7 23 (I (IntKind.i64.wrap (h.epoch+1))) (I (h.epoch+1)) (by simp only [e1]) Jp
 refine Ja (Jo (decide (x1.epoch > h.epoch+1)) (fun h2=>?_) (fun h2=>?_))
 try simp only [BB] at h2
 refine Jg [0] [(4,I 2)] (Jk (Jh (Jl [0] [I 2] (Jv (Jt.le_refl _) ?_))))
 have hf_:(KQ h l)=2:=by
  exact Jhk (.inr ⟨hx1,by assumption⟩)
 · (try rw [hf_]);(simp only [JM];done)
 try simp only [BB] at h2
 refine Jn (Ja (Je (Je ?_)))
 have e2:IntKind.i64.wrap (h.epoch+1)=h.epoch+1:=IntWalk.i64_in _ (by (have q0_:=W8 hh;omega))
 refine KA [] (Ws [(0,Sl (At b2 o1) l.length c_l),(1,Pt b2 (o1+0*4)),(2,Pt b2 (o1+0*4)),(3,I x1.epoch),(4,Pt b1 0),(5,I h.epoch),(6,I (h.epoch+1)),(7,Bo (decide (x1.epoch=h.epoch+1)))] (Kz [] [(0,0),(2,0),(4,0),(5,2),(7,0)] [1,3,6] [(1,Sl (At b2 o1) l.length c_l),(2,Pt b1 0),(33,Bo (decide (x1.epoch=h.epoch+1)))] (List.forall_mem_cons.2 ⟨?_,(List.forall_mem_cons.2 ⟨?_,(List.forall_mem_cons.2 ⟨?_,List.forall_mem_nil _⟩)⟩)⟩) ?_))
 refine Jr 1 27 (Pt b2 (o1+0*4)) [(26,Sl (At b2 o1) l.length c_l)] (fun X=>?_)
 exact Ki (b:=b2) (off:=o1) (len:=l.length) (cap:=c_l) (ik:=.i64) 27 50 4 0 (by (have q_:=(KZ.1 ‹_›);have q1_:=q_.len1;have q2_:=q_.len;omega)) Jp
 refine Jr 3 29 (I x1.epoch) [(28,Pt b2 (o1+0*4))] (fun X=>?_)
 exact Ka 29 2 (cs:=[I x1.epoch,U x1.root,U x1.prev,I x1.at_]) 0 (I x1.epoch) hc1 Jp
 refine Jr 6 32 (I (h.epoch+1)) [(31,I h.epoch)] (fun X=>?_)
 exact K7 32 (I (IntKind.i64.wrap (h.epoch+1))) (I (h.epoch+1)) (by simp only [e2]) Jp
 refine Ja (Jo (decide (x1.epoch=h.epoch+1)) (fun h3=>?_) (fun h3=>?_))
 try simp only [BB] at h3
 refine Je (Jb (Jd [2,0] [(1,Sl (At b2 o1) l.length c_l),(2,Pt b1 0),(35,.agg #[I h.epoch,U h.root,U h.prev,I h.at_]),(36,Sl (At b2 o1) l.length c_l)] (Ji 37 (.tuple #[Bo ((Qu h l).1),I ((Qu h l).2)]) (JcO G [I h.epoch,U h.root,U h.prev,I h.at_] h (⟨rfl,w1,w2,w3,w4⟩) (At b2 o1) c_l l h_l) (Jd [0,0,0,0,0] [(1,Sl (At b2 o1) l.length c_l),(2,Pt b1 0),(7,Bo ((Qu h l).1))] (Jc (Ja (Jg [0,0] [(1,Sl (At b2 o1) l.length c_l),(2,Pt b1 0),(41,Bo (!((Qu h l).1)))] (Jo (!((Qu h l).1)) (fun h4=>?_) (fun h4=>?_)))))))))
 try simp only [BB] at h4
 refine Jg [0] [(4,I 2)] (Jk (Jh (Jl [0] [I 2] (Jv (Jt.le_refl _) ?_))))
 have hf_:(KQ h l)=2:=by
  exact JlB ‹_› hx1 ‹_› ‹_› ‹_›
 · (try rw [hf_]);(simp only [JM];done)
 try simp only [BB] at h4
 refine Jn (Ja (Je (Je (Jb (Jd [0,0] [(1,Sl (At b2 o1) l.length c_l),(2,Pt b1 0),(42,Sl (At b2 o1) l.length c_l),(43,.func (.func 205) #[] #[Pt b1 0])] (QS (b:=b1) (o:=0) (cs:=[I h.epoch,U h.root,U h.prev,I h.at_]) 0 (fun G1 hl1 hz1=>Ji 44 (Bo (l.any (fun x0=>Zr x0 h))) (Jd3 G1 (At b2 o1) c_l l (h_l.mono hl1) 205 #[Pt b1 0] (fun x0=>Zr x0 h) (fun _ _=>by kernel_rfl) (fun vs0 x0 hx0=>by obtain ⟨rfl,w9,w10,w11,w12⟩:=hx0;exact Jce G1 [I x0.epoch,U x0.root,U x0.prev,I x0.at_] x0 (⟨rfl,w9,w10,w11,w12⟩) [I h.epoch,U h.root,U h.prev,I h.at_] h (⟨rfl,w1,w2,w3,w4⟩) b1 hz1)) (Jc (Ja (Jo (l.any (fun x0=>Zr x0 h)) (fun h5=>?_) (fun h5=>?_)))))))))))
 try simp only [BB] at h5
 refine Jg [0] [(4,I 3)] (Jk (Jh (Jl [0] [I 3] (Jv hl1 ?_))))
 have hf_:(KQ h l)=3:=by
  (rw [Jao ‹_› hx1 ‹_› (by exact .inr ‹_›)];(rw [if_pos ‹_›];done))
 · (try rw [hf_]);(simp only [JM];done)
 try simp only [BB] at h5
 refine Jn (Ja (Je (Je ?_)))
 have e3:IntKind.i64.wrap ((l.length:Int)-1)=((l.length-1:Nat):Int):=(IntWalk.i64_in _ (by (have q_:=(KZ.1 ‹_›);have q1_:=q_.len1;have q2_:=q_.len;omega))).trans (show (l.length:Int)-1=((l.length-1:Nat):Int) by (have q_:=(KZ.1 ‹_›);have q1_:=q_.len1;have q2_:=q_.len;omega))
 obtain ⟨x2,hx2⟩:=Wj (l:=l) (k:=l.length-1) (by (have q_:=(KZ.1 ‹_›);have q1_:=q_.len1;have q2_:=q_.len;omega))
 obtain ⟨_,⟨rfl,_,_,_,_⟩,hc2⟩:=RS.get (h_l.mono hl1) hx2
 refine KA [] (Ws [(0,Sl (At b2 o1) l.length c_l),(1,Sl (At b2 o1) l.length c_l),(2,I (l.length:Int)),(3,I ((l.length-1:Nat):Int)),(4,Pt b2 (o1+(l.length-1)*4)),(5,Pt b2 (o1+(l.length-1)*4)),(6,I x2.epoch),(7,Pt b1 0),(8,I h.epoch),(9,Bo (decide (x2.epoch≤h.epoch)))] (Kz [] [(0,0),(1,0),(2,0),(5,0),(7,0),(9,0)] [3,4,6,8] [(54,Bo (decide (x2.epoch≤h.epoch)))] (List.forall_mem_cons.2 ⟨?_,(List.forall_mem_cons.2 ⟨?_,(List.forall_mem_cons.2 ⟨?_,(List.forall_mem_cons.2 ⟨?_,List.forall_mem_nil _⟩)⟩)⟩)⟩) ?_))
 refine Jr 3 48 (I ((l.length-1:Nat):Int)) [(47,I (l.length:Int))] (fun X=>?_)
 exact K7 48 (I (IntKind.i64.wrap ((l.length:Int)-1))) (I ((l.length-1:Nat):Int)) (by simp only [e3]) Jp
 refine Jr 4 49 (Pt b2 (o1+(l.length-1)*4)) [(45,Sl (At b2 o1) l.length c_l),(48,I ((l.length-1:Nat):Int))] (fun X=>?_)
 exact Ki (b:=b2) (off:=o1) (len:=l.length) (cap:=c_l) (ik:=.i64) 49 50 4 (l.length-1) (by (have q_:=(KZ.1 ‹_›);have q1_:=q_.len1;have q2_:=q_.len;omega)) Jp
 refine Jr 6 51 (I x2.epoch) [(50,Pt b2 (o1+(l.length-1)*4))] (fun X=>?_)
 exact Ka 51 2 (cs:=[I x2.epoch,U x2.root,U x2.prev,I x2.at_]) 0 (I x2.epoch) hc2 Jp
 refine Jr 8 53 (I h.epoch) [(52,Pt b1 0)] (fun X=>?_)
 exact Ka (o':=0) 53 2 (cs:=[I h.epoch,U h.root,U h.prev,I h.at_]) 0 (I h.epoch) hz1 Jp
 refine Ja (Jo (decide (x2.epoch≤h.epoch)) (fun h6=>?_) (fun h6=>?_))
 try simp only [BB] at h6
 refine Jg [0] [(4,I 1)] (Jk (Jh (Jl [0] [I 1] (Jv hl1 ?_))))
 have hf_:(KQ h l)=1:=by
  (rw [Jao ‹_› hx1 ‹_› (by exact .inr ‹_›)];(have el_:=Wk (l:=l) (k:=l.length-1) rfl ‹_›;subst el_;rw [if_neg (by simp_all)];(rw [if_pos ‹_›];done)))
 · (try rw [hf_]);(simp only [JM];done)
 try simp only [BB] at h6
 refine Jn (Ja (Jg [0] [(4,I 0)] (Jk (Jl [0] [I 0] (Jv hl1 ?_)))))
 have hf_:(KQ h l)=0:=by
  (rw [Jao ‹_› hx1 ‹_› (by exact .inr ‹_›)];(have el_:=Wk (l:=l) (k:=l.length-1) rfl ‹_›;subst el_;rw [if_neg (by simp_all)];(rw [if_neg (by omega)];done)))
 · (try rw [hf_]);(simp only [JM];done)
 try simp only [BB] at h3
 refine Jn (Ja (Je (Je (Jb (Jd [0,0] [(1,Sl (At b2 o1) l.length c_l),(2,Pt b1 0),(42,Sl (At b2 o1) l.length c_l),(43,.func (.func 205) #[] #[Pt b1 0])] (QS (b:=b1) (o:=0) (cs:=[I h.epoch,U h.root,U h.prev,I h.at_]) 0 (fun G2 hl2 hz2=>Ji 44 (Bo (l.any (fun x0=>Zr x0 h))) (Jd3 G2 (At b2 o1) c_l l (h_l.mono hl2) 205 #[Pt b1 0] (fun x0=>Zr x0 h) (fun _ _=>by kernel_rfl) (fun vs0 x0 hx0=>by obtain ⟨rfl,w17,w18,w19,w20⟩:=hx0;exact Jce G2 [I x0.epoch,U x0.root,U x0.prev,I x0.at_] x0 (⟨rfl,w17,w18,w19,w20⟩) [I h.epoch,U h.root,U h.prev,I h.at_] h (⟨rfl,w1,w2,w3,w4⟩) b1 hz2)) (Jc (Ja (Jo (l.any (fun x0=>Zr x0 h)) (fun h7=>?_) (fun h7=>?_)))))))))))
 try simp only [BB] at h7
 refine Jg [0] [(4,I 3)] (Jk (Jh (Jl [0] [I 3] (Jv hl2 ?_))))
 have hf_:(KQ h l)=3:=by
  (rw [Jao ‹_› hx1 ‹_› (by exact .inl ‹_›)];(rw [if_pos ‹_›];done))
 · (try rw [hf_]);(simp only [JM];done)
 try simp only [BB] at h7
 refine Jn (Ja (Je (Je ?_)))
 have e4:IntKind.i64.wrap ((l.length:Int)-1)=((l.length-1:Nat):Int):=(IntWalk.i64_in _ (by (have q_:=(KZ.1 ‹_›);have q1_:=q_.len1;have q2_:=q_.len;omega))).trans (show (l.length:Int)-1=((l.length-1:Nat):Int) by (have q_:=(KZ.1 ‹_›);have q1_:=q_.len1;have q2_:=q_.len;omega))
 obtain ⟨x3,hx3⟩:=Wj (l:=l) (k:=l.length-1) (by (have q_:=(KZ.1 ‹_›);have q1_:=q_.len1;have q2_:=q_.len;omega))
 obtain ⟨_,⟨rfl,_,_,_,_⟩,hc3⟩:=RS.get (h_l.mono hl2) hx3
 refine KA [] (Ws [(0,Sl (At b2 o1) l.length c_l),(1,Sl (At b2 o1) l.length c_l),(2,I (l.length:Int)),(3,I ((l.length-1:Nat):Int)),(4,Pt b2 (o1+(l.length-1)*4)),(5,Pt b2 (o1+(l.length-1)*4)),(6,I x3.epoch),(7,Pt b1 0),(8,I h.epoch),(9,Bo (decide (x3.epoch≤h.epoch)))] (Kz [] [(0,0),(1,0),(2,0),(5,0),(7,0),(9,0)] [3,4,6,8] [(54,Bo (decide (x3.epoch≤h.epoch)))] (List.forall_mem_cons.2 ⟨?_,(List.forall_mem_cons.2 ⟨?_,(List.forall_mem_cons.2 ⟨?_,(List.forall_mem_cons.2 ⟨?_,List.forall_mem_nil _⟩)⟩)⟩)⟩) ?_))
 refine Jr 3 48 (I ((l.length-1:Nat):Int)) [(47,I (l.length:Int))] (fun X=>?_)
 exact K7 48 (I (IntKind.i64.wrap ((l.length:Int)-1))) (I ((l.length-1:Nat):Int)) (by simp only [e4]) Jp
 refine Jr 4 49 (Pt b2 (o1+(l.length-1)*4)) [(45,Sl (At b2 o1) l.length c_l),(48,I ((l.length-1:Nat):Int))] (fun X=>?_)
 exact Ki (b:=b2) (off:=o1) (len:=l.length) (cap:=c_l) (ik:=.i64) 49 50 4 (l.length-1) (by (have q_:=(KZ.1 ‹_›);have q1_:=q_.len1;have q2_:=q_.len;omega)) Jp
 refine Jr 6 51 (I x3.epoch) [(50,Pt b2 (o1+(l.length-1)*4))] (fun X=>?_)
 exact Ka 51 2 (cs:=[I x3.epoch,U x3.root,U x3.prev,I x3.at_]) 0 (I x3.epoch) hc3 Jp
 refine Jr 8 53 (I h.epoch) [(52,Pt b1 0)] (fun X=>?_)
 exact Ka (o':=0) 53 2 (cs:=[I h.epoch,U h.root,U h.prev,I h.at_]) 0 (I h.epoch) hz2 Jp
 refine Ja (Jo (decide (x3.epoch≤h.epoch)) (fun h8=>?_) (fun h8=>?_))
 try simp only [BB] at h8
 refine Jg [0] [(4,I 1)] (Jk (Jh (Jl [0] [I 1] (Jv hl2 ?_))))
 have hf_:(KQ h l)=1:=by
  (rw [Jao ‹_› hx1 ‹_› (by exact .inl ‹_›)];(have el_:=Wk (l:=l) (k:=l.length-1) rfl ‹_›;subst el_;rw [if_neg (by simp_all)];(rw [if_pos ‹_›];done)))
 · (try rw [hf_]);(simp only [JM];done)
 try simp only [BB] at h8
 refine Jn (Ja (Jg [0] [(4,I 0)] (Jk (Jl [0] [I 0] (Jv hl2 ?_)))))
 have hf_:(KQ h l)=0:=by
  (rw [Jao ‹_› hx1 ‹_› (by exact .inl ‹_›)];(have el_:=Wk (l:=l) (k:=l.length-1) rfl ‹_›;subst el_;rw [if_neg (by simp_all)];(rw [if_neg (by omega)];done)))
 · (try rw [hf_]);(simp only [JM];done)
theorem Jhn (G:Jt) (vs_o:List Value) (o:KO) (h_o:QQ.R G vs_o o) :QI Tryz.prog 179 #[.agg vs_o.toArray] G [] (fun u G' L'=>∃ (a1:Option Addr) (c2:Nat),u=.agg #[Sr o.name,U o.key,I o.head.epoch,U o.head.root,U o.head.prev,I o.head.at_,Sl a1 o.wanted.length c2,I o.had]∧((o.name).length≤140737488351232)∧(rU o.key)∧(rI o.head.epoch)∧(rU o.head.root)∧(rU o.head.prev)∧(rI o.head.at_)∧(RS ES G' a1 c2 o.wanted)∧(rI o.had)∧L'=[]):=by
 obtain ⟨a1,c1,rfl,w1,w2,w3,w4,w5,w6,hs1,w7⟩:=h_o
 refine JK Tryz.func179 8 [(0,(Kp o a1 c1))] rfl (fun w0 G0=>?_)
 refine Je (Jb (Ju 1 #[Sr o.name,U o.key,I o.head.epoch,U o.head.root,U o.head.prev,I o.head.at_,Sl a1 o.wanted.length c1,I o.had] 52 (fun b1=>Ju 2 #[Sr ([]),U 0,I 0,U 0,U 0,I 0,Sl none 0 0,I 0] 52 (fun b2=>Jc (Ja (Je (Jb (Jd [0,4] [(1,Pt b1 0),(2,Pt b2 0),(4,Sl a1 o.wanted.length c1)] (JQ 5 (Jfl G a1 c1 o.wanted hs1) (fun v G1 L1 hl1 hp=>?_))))))))))
 obtain ⟨a2,c2,r1,rfl,hr1,rfl⟩:=hp
 refine Kd [0,7] [(1,Pt b1 0),(2,Pt b2 0)] [r1,[Sg b2 0 [Sr ([]),U 0,I 0,U 0,U 0,I 0,Sl none 0 0,I 0]],[Sg b1 0 (Kv o a2 c2)]] (Jc (Ja (WO [6,5] [(2,Pt b2 0)] [r1,[Sg b2 0 (Kv o a2 c2)],[Sg b1 0 (Kv o a2 c2)]] (Jk (Wn (E:=ES) 0 hr1 (by exact (hs1).fit) (fun G2 hl2 hs2=>?_))))))
 have hf1:o=o:=by
  rfl
 refine Jl [1] [(Kp o a2 c2)] (JY [] (.cons _ (.cons _ (.cons _ .slnil))) (Jt.le_trans hl1 hl2) ?_)
 rw [hf1]
 try dsimp only
 exact ⟨a2,c2,rfl,w1,w2,w3,w4,w5,w6,hs2,w7,rfl⟩
set_option maxRecDepth 20000 in
theorem JcP (G:Jt) (vs_o:List Value) (o:KO) (h_o:QQ.R G vs_o o) (a_l:Option Addr) (c_l:Nat) (l:List JS) (h_l:RS KE G a_l c_l l) (vs_r:List Value) (r:WE) (h_r:JhU.R G vs_r r) (ho:J6 o=0):QI Tryz.prog 180 #[.agg vs_o.toArray,Sl a_l l.length c_l,.agg vs_r.toArray] G [] (fun u G' L'=>u=.tuple #[I ((JH o l r).1),I ((JH o l r).2)]):=by
 obtain ⟨a1,c1,rfl,_,_,w3,w4,w5,w6,hs1,_⟩:=h_o
 obtain ⟨a2,c2,a3,c3,rfl,w8,w9,w10,w11,w12,hs2,hs3⟩:=h_r
 refine JK Tryz.func180 76 [(0,(Kp o a1 c1)),(1,Sl a_l l.length c_l),(2,(WF r a2 c2 a3 c3))] rfl (fun w0 G0=>?_)
 refine Je (Jb (Ju 3 #[Sr o.name,U o.key,I o.head.epoch,U o.head.root,U o.head.prev,I o.head.at_,Sl a1 o.wanted.length c1,I o.had] 52 (fun b1=>Ju 5 #[I r.head.epoch,U r.head.root,U r.head.prev,I r.head.at_,Sr r.proof.name,Sl a2 r.proof.entries.length c2,Sl a3 r.proof.sides.length c3] 70 (fun b2=>Jd [0,0] [(1,Sl a_l l.length c_l),(3,Pt b1 0),(5,Pt b2 0)] (Jc (Ja (Je (Je (Jb (Jd [0,4,0] [(1,Sl a_l l.length c_l),(3,Pt b1 0),(5,Pt b2 0),(15,.agg #[I o.head.epoch,U o.head.root,U o.head.prev,I o.head.at_]),(16,Sl a_l l.length c_l)] (Ji 17 (I (KQ o.head l)) (Jeh G [I o.head.epoch,U o.head.root,U o.head.prev,I o.head.at_] o.head (⟨rfl,w3,w4,w5,w6⟩) a_l c_l l h_l (K0.1 ho).2.1) (Jd [0] [(1,Sl a_l l.length c_l),(3,Pt b1 0),(5,Pt b2 0),(8,I (KQ o.head l))] (Jc (Ja (Jg [0,0] [(1,Sl a_l l.length c_l),(3,Pt b1 0),(5,Pt b2 0),(8,I (KQ o.head l)),(19,Bo (!decide (KQ o.head l=0)))] (Jo (!decide (KQ o.head l=0)) (fun h1=>?_) (fun h1=>?_)))))))))))))))))
 try simp only [BB] at h1
 refine Jg [0,0,0] [(6,I (KQ o.head l)),(7,I 0)] (Jk (Jh (Jl [0,0] [I (KQ o.head l),I 0] (Jv (Jt.le_refl _) ?_))))
 have hf_:(JH o l r)=((KQ o.head l),0):=by
  (unfold JH;rw [if_pos ‹_›];done)
 · (try rw [hf_]);(simp only [JM];done)
 try simp only [BB] at h1
 refine Jn (Ja (Je (Jb (Jd [2] [(1,Sl a_l l.length c_l),(3,Pt b1 0),(5,Pt b2 0),(22,(WF r a2 c2 a3 c3))] (JQ 23 (JeQ G (WW r a2 c2 a3 c3) r (⟨a2,c2,a3,c3,rfl,w8,w9,w10,w11,w12,hs2,hs3⟩)) (fun v G1 L1 hl1 hp=>?_))))))
 obtain ⟨rfl,_,rfl⟩:=hp
 refine Jd [0,0,0,0,0,0,0] [(1,Sl a_l l.length c_l),(3,Pt b1 0),(5,Pt b2 0),(9,Sr ((JJ r).1)),(10,Bo ((JJ r).2.1)),(11,I ((JJ r).2.2))] (Jc (Ja (Je (Jz (Je ?_)))))
 rcases Bool.eq_false_or_eq_true (!decide ((JJ r).2.2=0)) with h2 | h2
 have h2d:=h2
 try simp only [BB] at h2d
 refine KA [] (Ws [(0,I ((JJ r).2.2)),(1,Bo true),(2,Bo true),(3,undef),(4,undef),(5,undef),(6,undef),(7,undef),(8,undef),(9,undef),(10,undef),(11,undef),(12,Bo true),(13,Bo true),(14,undef),(15,undef),(16,undef),(17,undef),(18,undef),(19,undef),(20,Bo true),(21,Bo true)] (Kz [] [(0,0),(2,0),(3,1),(4,1),(5,1),(6,1),(7,1),(8,1),(9,1),(10,1),(11,1),(12,0),(13,0),(14,1),(15,1),(16,1),(17,1),(18,1),(19,1),(20,0),(21,0)] [1] [(3,Pt b1 0),(9,Sr ((JJ r).1)),(10,Bo ((JJ r).2.1)),(27,Bo true)] (List.forall_mem_cons.2 ⟨?_,List.forall_mem_nil _⟩) ?_))
 refine Jr 1 29 (Bo true) [(28,I ((JJ r).2.2))] (fun X=>?_)
 exact K7 29 (Bo (!decide ((JJ r).2.2=0))) (Bo true) (by rw [h2]) Jp
 refine Ja (JZ (Jg [0,0] [(6,I 4),(7,I 0)] (Jk (Js (Jh (Jl [0,0] [I 4,I 0] (Jv hl1 ?_)))))))
 have hf_:(JH o l r)=(4,0):=by
  exact Jgg ‹_› (.inl (.inl ‹_›))
 · (try rw [hf_]);(simp only [JM];done)
 have h2d:=h2
 try simp only [BB] at h2d
 have e1:IntKind.i64.wrap ((l.length:Int)-1)=((l.length-1:Nat):Int):=(IntWalk.i64_in _ (by (have q_:=(Yc ‹_›).1;have q1_:=q_.len1;have q2_:=q_.len;omega))).trans (show (l.length:Int)-1=((l.length-1:Nat):Int) by (have q_:=(Yc ‹_›).1;have q1_:=q_.len1;have q2_:=q_.len;omega))
 obtain ⟨b3,o1,rfl⟩:=RS.addr (h_l.mono hl1) (k:=l.length-1) (by (have q_:=(Yc ‹_›).1;have q1_:=q_.len1;have q2_:=q_.len;omega))
 obtain ⟨x1,hx1⟩:=Wj (l:=l) (k:=l.length-1) (by (have q_:=(Yc ‹_›).1;have q1_:=q_.len1;have q2_:=q_.len;omega))
 obtain ⟨_,⟨rfl,_,_,_,_⟩,hc1⟩:=RS.get (h_l.mono hl1) hx1
 rcases Bool.eq_false_or_eq_true (!(decide (r.head.epoch=x1.epoch) && decide (r.head.root=x1.root) && decide (r.head.prev=x1.prev) && decide (r.head.at_=x1.at_))) with h3 | h3
 have h3d:=h3
 try simp only [BB] at h3d
 have e2:IntKind.i64.wrap ((l.length:Int)-1)=((l.length-1:Nat):Int):=(IntWalk.i64_in _ (by (have q_:=(Yc ‹_›).1;have q1_:=q_.len1;have q2_:=q_.len;omega))).trans (show (l.length:Int)-1=((l.length-1:Nat):Int) by (have q_:=(Yc ‹_›).1;have q1_:=q_.len1;have q2_:=q_.len;omega))
 refine KA [] (Ws [(0,I ((JJ r).2.2)),(1,Bo false),(2,Bo false),(3,Pt b2 0),(4,.agg #[I r.head.epoch,U r.head.root,U r.head.prev,I r.head.at_]),(5,Sl (At b3 o1) l.length c_l),(6,Sl (At b3 o1) l.length c_l),(7,I (l.length:Int)),(8,I ((l.length-1:Nat):Int)),(9,Pt b3 (o1+(l.length-1)*4)),(10,.agg #[I x1.epoch,U x1.root,U x1.prev,I x1.at_]),(11,Bo (!(decide (r.head.epoch=x1.epoch) && decide (r.head.root=x1.root) && decide (r.head.prev=x1.prev) && decide (r.head.at_=x1.at_)))),(12,Bo true),(13,Bo true),(14,undef),(15,undef),(16,undef),(17,undef),(18,undef),(19,undef),(20,Bo true),(21,Bo true)] (Kz [] [(0,0),(2,0),(3,0),(4,2),(5,0),(6,0),(7,0),(13,0),(14,1),(15,1),(16,1),(17,1),(18,1),(19,1),(20,0),(21,0)] [1,8,9,10,11,12] [(3,Pt b1 0),(9,Sr ((JJ r).1)),(10,Bo ((JJ r).2.1)),(27,Bo true)] (List.forall_mem_cons.2 ⟨?_,(List.forall_mem_cons.2 ⟨?_,(List.forall_mem_cons.2 ⟨?_,(List.forall_mem_cons.2 ⟨?_,(List.forall_mem_cons.2 ⟨?_,(List.forall_mem_cons.2 ⟨?_,List.forall_mem_nil _⟩)⟩)⟩)⟩)⟩)⟩) ?_))
 refine Jr 1 29 (Bo false) [(28,I ((JJ r).2.2))] (fun X=>?_)
 exact K7 29 (Bo (!decide ((JJ r).2.2=0))) (Bo false) (by rw [h2]) Jp
 refine Jr 8 36 (I ((l.length-1:Nat):Int)) [(30,Bo false),(35,I (l.length:Int))] (fun X=>?_)
 exact K7 36 (I (IntKind.i64.wrap ((l.length:Int)-1))) (I ((l.length-1:Nat):Int)) (by simp only [e2]) Jp
 refine Jr 9 37 (Pt b3 (o1+(l.length-1)*4)) [(30,Bo false),(33,Sl (At b3 o1) l.length c_l),(36,I ((l.length-1:Nat):Int))] (fun X=>?_)
 exact Ki (b:=b3) (off:=o1) (len:=l.length) (cap:=c_l) (ik:=.i64) 37 50 4 (l.length-1) (by (have q_:=(Yc ‹_›).1;have q1_:=q_.len1;have q2_:=q_.len;omega)) Jp
 refine Jr 10 38 (.agg #[I x1.epoch,U x1.root,U x1.prev,I x1.at_]) [(30,Bo false),(37,Pt b3 (o1+(l.length-1)*4))] (fun X=>?_)
 exact Ka 38 50 (cs:=[I x1.epoch,U x1.root,U x1.prev,I x1.at_]) 0 (.agg #[I x1.epoch,U x1.root,U x1.prev,I x1.at_]) hc1 Jp
 refine Jr 11 39 (Bo (!(decide (r.head.epoch=x1.epoch) && decide (r.head.root=x1.root) && decide (r.head.prev=x1.prev) && decide (r.head.at_=x1.at_)))) [(30,Bo false),(32,.agg #[I r.head.epoch,U r.head.root,U r.head.prev,I r.head.at_]),(38,.agg #[I x1.epoch,U x1.root,U x1.prev,I x1.at_])] (fun X=>?_)
 exact JbY 39 (Bo (!(decide (r.head.epoch=x1.epoch) && (decide (r.head.root=x1.root) && (decide (r.head.prev=x1.prev) && (decide (r.head.at_=x1.at_) && true)))))) (Bo (!(decide (r.head.epoch=x1.epoch) && decide (r.head.root=x1.root) && decide (r.head.prev=x1.prev) && decide (r.head.at_=x1.at_)))) (by simp [Zc,Bool.and_assoc]) Jp
 refine Jr 12 40 (Bo true) [(30,Bo false),(39,Bo (!(decide (r.head.epoch=x1.epoch) && decide (r.head.root=x1.root) && decide (r.head.prev=x1.prev) && decide (r.head.at_=x1.at_))))] (fun X=>?_)
 exact K7 40 (Bo (!(decide (r.head.epoch=x1.epoch) && decide (r.head.root=x1.root) && decide (r.head.prev=x1.prev) && decide (r.head.at_=x1.at_)))) (Bo true) (by rw [h3]) Jp
 refine Ja (JZ (Jg [0,0] [(6,I 4),(7,I 0)] (Jk (Js (Jh (Jl [0,0] [I 4,I 0] (Jv hl1 ?_)))))))
 have hf_:(JH o l r)=(4,0):=by
  exact Jgg ‹_› (.inl (.inr ⟨_,hx1,by assumption⟩))
 · (try rw [hf_]);(simp only [JM];done)
 have h3d:=h3
 try simp only [BB] at h3d
 have e3:IntKind.i64.wrap ((l.length:Int)-1)=((l.length-1:Nat):Int):=(IntWalk.i64_in _ (by (have q_:=(Yc ‹_›).1;have q1_:=q_.len1;have q2_:=q_.len;omega))).trans (show (l.length:Int)-1=((l.length-1:Nat):Int) by (have q_:=(Yc ‹_›).1;have q1_:=q_.len1;have q2_:=q_.len;omega))
 refine KA [] (Ws [(0,I ((JJ r).2.2)),(1,Bo false),(2,Bo false),(3,Pt b2 0),(4,.agg #[I r.head.epoch,U r.head.root,U r.head.prev,I r.head.at_]),(5,Sl (At b3 o1) l.length c_l),(6,Sl (At b3 o1) l.length c_l),(7,I (l.length:Int)),(8,I ((l.length-1:Nat):Int)),(9,Pt b3 (o1+(l.length-1)*4)),(10,.agg #[I x1.epoch,U x1.root,U x1.prev,I x1.at_]),(11,Bo (!(decide (r.head.epoch=x1.epoch) && decide (r.head.root=x1.root) && decide (r.head.prev=x1.prev) && decide (r.head.at_=x1.at_)))),(12,Bo false),(13,Bo false),(14,Pt b2 4),(15,Pt b2 4),(16,Sr r.proof.name),(17,Pt b1 0),(18,Sr o.name),(19,Bo (!((B r.proof.name).toList == (B o.name).toList))),(20,Bo (!((B r.proof.name).toList == (B o.name).toList))),(21,Bo (!((B r.proof.name).toList == (B o.name).toList)))] (Kz [] [(0,0),(2,0),(3,0),(4,2),(5,0),(6,0),(7,0),(13,0),(14,0),(15,0),(16,2),(17,0),(18,4),(19,0),(20,0),(21,0)] [1,8,9,10,11,12] [(3,Pt b1 0),(9,Sr ((JJ r).1)),(10,Bo ((JJ r).2.1)),(27,Bo (!((B r.proof.name).toList == (B o.name).toList)))] (List.forall_mem_cons.2 ⟨?_,(List.forall_mem_cons.2 ⟨?_,(List.forall_mem_cons.2 ⟨?_,(List.forall_mem_cons.2 ⟨?_,(List.forall_mem_cons.2 ⟨?_,(List.forall_mem_cons.2 ⟨?_,List.forall_mem_nil _⟩)⟩)⟩)⟩)⟩)⟩) ?_))
 refine Jr 1 29 (Bo false) [(28,I ((JJ r).2.2))] (fun X=>?_)
 exact K7 29 (Bo (!decide ((JJ r).2.2=0))) (Bo false) (by rw [h2]) Jp
 refine Jr 8 36 (I ((l.length-1:Nat):Int)) [(30,Bo false),(35,I (l.length:Int))] (fun X=>?_)
 exact K7 36 (I (IntKind.i64.wrap ((l.length:Int)-1))) (I ((l.length-1:Nat):Int)) (by simp only [e3]) Jp
 refine Jr 9 37 (Pt b3 (o1+(l.length-1)*4)) [(30,Bo false),(33,Sl (At b3 o1) l.length c_l),(36,I ((l.length-1:Nat):Int))] (fun X=>?_)
 exact Ki (b:=b3) (off:=o1) (len:=l.length) (cap:=c_l) (ik:=.i64) 37 50 4 (l.length-1) (by (have q_:=(Yc ‹_›).1;have q1_:=q_.len1;have q2_:=q_.len;omega)) Jp
 refine Jr 10 38 (.agg #[I x1.epoch,U x1.root,U x1.prev,I x1.at_]) [(30,Bo false),(37,Pt b3 (o1+(l.length-1)*4))] (fun X=>?_)
 exact Ka 38 50 (cs:=[I x1.epoch,U x1.root,U x1.prev,I x1.at_]) 0 (.agg #[I x1.epoch,U x1.root,U x1.prev,I x1.at_]) hc1 Jp
 refine Jr 11 39 (Bo (!(decide (r.head.epoch=x1.epoch) && decide (r.head.root=x1.root) && decide (r.head.prev=x1.prev) && decide (r.head.at_=x1.at_)))) [(30,Bo false),(32,.agg #[I r.head.epoch,U r.head.root,U r.head.prev,I r.head.at_]),(38,.agg #[I x1.epoch,U x1.root,U x1.prev,I x1.at_])] (fun X=>?_)
 exact JbY 39 (Bo (!(decide (r.head.epoch=x1.epoch) && (decide (r.head.root=x1.root) && (decide (r.head.prev=x1.prev) && (decide (r.head.at_=x1.at_) && true)))))) (Bo (!(decide (r.head.epoch=x1.epoch) && decide (r.head.root=x1.root) && decide (r.head.prev=x1.prev) && decide (r.head.at_=x1.at_)))) (by simp [Zc,Bool.and_assoc]) Jp
 refine Jr 12 40 (Bo false) [(30,Bo false),(39,Bo (!(decide (r.head.epoch=x1.epoch) && decide (r.head.root=x1.root) && decide (r.head.prev=x1.prev) && decide (r.head.at_=x1.at_))))] (fun X=>?_)
 exact K7 40 (Bo (!(decide (r.head.epoch=x1.epoch) && decide (r.head.root=x1.root) && decide (r.head.prev=x1.prev) && decide (r.head.at_=x1.at_)))) (Bo false) (by rw [h3]) Jp
 refine Jc3 (fr':=[(3,Pt b1 0),(9,Sr ((JJ r).1)),(10,Bo ((JJ r).2.1)),(27,Bo (!(r.proof.name == o.name)))]) (L':=[[Sg b2 0 (WW r a2 c2 a3 c3)],[Sg b1 0 (Kv o a1 c1)]]) (by simp only [Zc]) (by rfl) (Ja (Jo (!(r.proof.name == o.name)) (fun h4=>?_) (fun h4=>?_)))
 try simp only [BB] at h4
 refine Jg [0,0] [(6,I 4),(7,I 0)] (Jk (Js (Jh (Jl [0,0] [I 4,I 0] (Jv hl1 ?_)))))
 have hf_:(JH o l r)=(4,0):=by
  exact Jgg ‹_› (.inr ‹_›)
 · (try rw [hf_]);(simp only [JM];done)
 try simp only [BB] at h4
 refine Je (Jb (Jd [0,0,0] [(3,Pt b1 0),(9,Sr ((JJ r).1)),(10,Bo ((JJ r).2.1)),(52,Bo (!((JJ r).2.1)))] (KD (!((JJ r).2.1)) (fun bb=>[(3,Pt b1 0),(9,Sr ((JJ r).1)),(10,Bo ((JJ r).2.1)),(52,Bo bb)]) [0,4,0,0] [1,1,1,0] (fun bb=>[(3,Pt b1 0),(9,Sr ((JJ r).1)),(10,Bo ((JJ r).2.1)),(56,Bo (bb && (decide (o.had > 0))))]) (Jd [0] [(3,Pt b1 0),(9,Sr ((JJ r).1)),(10,Bo ((JJ r).2.1)),(49,Bo ((!((JJ r).2.1)) && (decide (o.had > 0))))] (Jc (Ja (Jo ((!((JJ r).2.1)) && (decide (o.had > 0))) (fun h5=>?_) (fun h5=>?_))))))))
 try simp only [BB] at h5
 refine Jg [0,0] [(6,I 5),(7,I 0)] (Jk (Js (Jh (Jl [0,0] [I 5,I 0] (Jv hl1 ?_)))))
 have hf_:(JH o l r)=(5,0):=by
  (rw [JdJ ‹_› ‹_› hx1 ‹_› ‹_›];(rw [if_pos ‹_›];done))
 · (try rw [hf_]);(simp only [JM];done)
 try simp only [BB] at h5
 refine Jg [0,0,0] [(3,Pt b1 0),(9,Sr ((JJ r).1)),(57,Bo (!((JJ r).2.1)))] (Jo (!((JJ r).2.1)) (fun h6=>?_) (fun h6=>?_))
 try simp only [BB] at h6
 refine Jg [0,0] [(6,I 0),(7,I 0)] (Jk (Js (Jh (Jl [0,0] [I 0,I 0] (Jv hl1 ?_)))))
 have hf_:(JH o l r)=(0,0):=by
  (rw [JdJ ‹_› ‹_› hx1 ‹_› ‹_›];(rw [if_neg (by simp_all)];(rw [if_pos ‹_›];done)))
 · (try rw [hf_]);(simp only [JM];done)
 try simp only [BB] at h6
 refine Jn (JN (Ja (Jg [0,4,0,0,0] [(3,Pt b1 0),(9,Sr ((JJ r).1)),(12,I (if 0 > (IntKind.i64.wrap (o.had-1)) then 0 else (IntKind.i64.wrap (o.had-1))))] ?_)))
 have e4:IntKind.i64.wrap (o.had-1)=o.had-1:=IntWalk.i64_in _ (by (have q_:=K0.1 ho;omega))
 refine KP (fr':=[(3,Pt b1 0),(9,Sr ((JJ r).1)),(12,I (if 0 > (o.had-1) then 0 else (o.had-1)))]) (L':=[[Sg b2 0 [I r.head.epoch,U r.head.root,U r.head.prev,I r.head.at_,Sr r.proof.name,Sl a2 r.proof.entries.length c2,Sl a3 r.proof.sides.length c3]],[Sg b1 0 [Sr o.name,U o.key,I o.head.epoch,U o.head.root,U o.head.prev,I o.head.at_,Sl a1 o.wanted.length c1,I o.had]]]) (by simp only [Kv,WW,Kp,WF,e4];first | done | rfl) (by rfl) ?_
 clear e4
 refine Je (Jb (Jd [0,4,0] [(9,Sr ((JJ r).1)),(12,I (if 0 > (o.had-1) then 0 else (o.had-1))),(65,Sl a1 o.wanted.length c1),(66,I (if 0 > (o.had-1) then 0 else (o.had-1)))] ?_))
 obtain ⟨kn1,hkn1⟩:∃ k_:Nat,(if 0 > (o.had-1) then 0 else (o.had-1))=(k_:Int):=⟨(if 0 > (o.had-1) then 0 else (o.had-1)).toNat,by omega⟩
 have e5:(if 0 > (o.had-1) then 0 else (o.had-1))=(kn1:Int):=hkn1
 refine Jd [] [(9,Sr ((JJ r).1)),(12,I (if 0 > (o.had-1) then 0 else (o.had-1))),(65,Sl a1 o.wanted.length c1),(66,I (if 0 > (o.had-1) then 0 else (o.had-1)))] (J4 (fr':=[(9,Sr ((JJ r).1)),(12,I (kn1:Int)),(65,Sl a1 o.wanted.length c1),(66,I (kn1:Int))]) (L':=[[Sg b2 0 [I r.head.epoch,U r.head.root,U r.head.prev,I r.head.at_,Sr r.proof.name,Sl a2 r.proof.entries.length c2,Sl a3 r.proof.sides.length c3]],[Sg b1 0 [Sr o.name,U o.key,I o.head.epoch,U o.head.root,U o.head.prev,I o.head.at_,Sl a1 o.wanted.length c1,I o.had]]]) (by (simp only [Kv,WW,Kp,WF,e5];first | done | rfl)) (by rfl) ?_)
 obtain ⟨a4,c4,ea1,ec1,en1,eh1,hs4⟩:=RS.reslXD (hs1.mono hl1) kn1 (by (have q_:=K0.1 ho;omega))
 refine W5 (a:=a1) (len:=o.wanted.length) (cap:=c1) 67 1 (some (I (kn1:Int))) none kn1 o.wanted.length (.inr ⟨_,rfl⟩) (.inl ⟨rfl,rfl⟩) (by (have q_:=K0.1 ho;omega)) ea1 ec1 en1 eh1 (Jd [0] [(12,I (kn1:Int)),(67,Sl a4 ((o.wanted.drop kn1).length) c4),(68,Sr ((JJ r).1))] (Ji 69 (I (K9 (fun x=>decide ((JJ r).1=x)) (o.wanted.drop kn1))) (Ji0 G1 a4 c4 (o.wanted.drop kn1) hs4 ((JJ r).1)) (Jd [0] [(12,I (kn1:Int)),(13,I (K9 (fun x=>decide ((JJ r).1=x)) (o.wanted.drop kn1)))] (Jc (Ja (Je (Jg [0,0] [(12,I (kn1:Int)),(13,I (K9 (fun x=>decide ((JJ r).1=x)) (o.wanted.drop kn1))),(71,Bo (decide (K9 (fun x=>decide ((JJ r).1=x)) (o.wanted.drop kn1)<0)))] (Jo (decide (K9 (fun x=>decide ((JJ r).1=x)) (o.wanted.drop kn1)<0)) (fun h7=>?_) (fun h7=>?_)))))))))
 try simp only [BB] at h7
 refine Jg [0,0] [(6,I 6),(7,I 0)] (Jk (Jh (Jl [0,0] [I 6,I 0] (Jv hl1 ?_))))
 have hf_:(JH o l r)=(6,0):=by
  (rw [JdJ ‹_› ‹_› hx1 ‹_› ‹_›];(rw [if_neg (by simp_all)];(rw [if_neg (by simp_all)];obtain ⟨q1_,q2_⟩:=Jhl (JJ r).1 hkn1;rw [q1_,q2_];(rw [if_pos ‹_›];done))))
 · (try rw [hf_]);(simp only [JM];done)
 try simp only [BB] at h7
 refine Jn (Ja (Jg [0,0,0,0,0,0] [(6,I 0),(7,I (IntKind.i64.wrap ((IntKind.i64.wrap ((kn1:Int)+(K9 (fun x=>decide ((JJ r).1=x)) (o.wanted.drop kn1))))+1)))] ?_))
 have e6:IntKind.i64.wrap ((kn1:Int)+(K9 (fun x=>decide ((JJ r).1=x)) (o.wanted.drop kn1)))=(kn1:Int)+(K9 (fun x=>decide ((JJ r).1=x)) (o.wanted.drop kn1)):=IntWalk.i64_in _ (by (have q_:=K0.1 ho;have q1_:=Jja (fun x=>decide ((JJ r).1=x)) (o.wanted.drop kn1);rw [List.length_drop] at q1_;omega))
 have e7:IntKind.i64.wrap (((kn1:Int)+(K9 (fun x=>decide ((JJ r).1=x)) (o.wanted.drop kn1)))+1)=((kn1:Int)+(K9 (fun x=>decide ((JJ r).1=x)) (o.wanted.drop kn1)))+1:=IntWalk.i64_in _ (by (have q_:=K0.1 ho;have q1_:=Jja (fun x=>decide ((JJ r).1=x)) (o.wanted.drop kn1);rw [List.length_drop] at q1_;omega))
 refine KP (fr':=[(6,I 0),(7,I (((kn1:Int)+(K9 (fun x=>decide ((JJ r).1=x)) (o.wanted.drop kn1)))+1))]) (L':=[[Sg b2 0 [I r.head.epoch,U r.head.root,U r.head.prev,I r.head.at_,Sr r.proof.name,Sl a2 r.proof.entries.length c2,Sl a3 r.proof.sides.length c3]],[Sg b1 0 [Sr o.name,U o.key,I o.head.epoch,U o.head.root,U o.head.prev,I o.head.at_,Sl a1 o.wanted.length c1,I o.had]]]) (by simp only [Kv,WW,Kp,WF,e6,e7];first | done | rfl) (by rfl) ?_
 clear e7 e6
 refine Jk (Jl [0,0] [I 0,I (((kn1:Int)+(K9 (fun x=>decide ((JJ r).1=x)) (o.wanted.drop kn1)))+1)] (Jv hl1 ?_))
 have hf_:(JH o l r)=(0,(((kn1:Int)+(K9 (fun x=>decide ((JJ r).1=x)) (o.wanted.drop kn1)))+1)):=by
  (rw [JdJ ‹_› ‹_› hx1 ‹_› ‹_›];(rw [if_neg (by simp_all)];(rw [if_neg (by simp_all)];obtain ⟨q1_,q2_⟩:=Jhl (JJ r).1 hkn1;rw [q1_,q2_];(rw [if_neg (by omega)];done))))
 · (try rw [hf_]);(simp only [JM];done)
theorem Jcf (G:Jt) (vs_o:List Value) (o:KO) (h_o:QQ.R G vs_o o) (a_l:Option Addr) (c_l:Nat) (l:List JS) (h_l:RS KE G a_l c_l l) (vs_r:List Value) (r:WE) (h_r:JhU.R G vs_r r) :QI Tryz.prog 152 #[.agg vs_o.toArray,Sl a_l l.length c_l,.agg vs_r.toArray] G [] (fun u G' L'=>∃ (a1:Option Addr) (c2:Nat),u=.tuple #[.agg #[Sr (((Jx o l r).1).name),U (((Jx o l r).1).key),I (((Jx o l r).1).head.epoch),U (((Jx o l r).1).head.root),U (((Jx o l r).1).head.prev),I (((Jx o l r).1).head.at_),Sl a1 ((((Jx o l r).1).wanted).length) c2,I (((Jx o l r).1).had)],I ((Jx o l r).2.1),I ((Jx o l r).2.2)]∧((((Jx o l r).1).name).length≤140737488351232)∧(rU (((Jx o l r).1).key))∧(rI (((Jx o l r).1).head.epoch))∧(rU (((Jx o l r).1).head.root))∧(rU (((Jx o l r).1).head.prev))∧(rI (((Jx o l r).1).head.at_))∧(RS ES G' a1 c2 (((Jx o l r).1).wanted))∧(rI (((Jx o l r).1).had))∧L'=[]):=by
 obtain ⟨a1,c1,rfl,w1,w2,w3,w4,w5,w6,hs1,w7⟩:=h_o
 obtain ⟨a2,c2,a3,c3,rfl,w8,w9,w10,w11,w12,hs2,hs3⟩:=h_r
 refine JK Tryz.func152 36 [(0,(Kp o a1 c1)),(1,Sl a_l l.length c_l),(2,(WF r a2 c2 a3 c3))] rfl (fun w0 G0=>?_)
 refine Je (Jb (Ju 3 #[Sr o.name,U o.key,I o.head.epoch,U o.head.root,U o.head.prev,I o.head.at_,Sl a1 o.wanted.length c1,I o.had] 52 (fun b1=>Ju 5 #[I r.head.epoch,U r.head.root,U r.head.prev,I r.head.at_,Sr r.proof.name,Sl a2 r.proof.entries.length c2,Sl a3 r.proof.sides.length c3] 70 (fun b2=>Ju 6 #[Sr ([]),U 0,I 0,U 0,U 0,I 0,Sl none 0 0,I 0] 52 (fun b3=>Jd [0,0] [(1,Sl a_l l.length c_l),(3,Pt b1 0),(5,Pt b2 0),(6,Pt b3 0)] (Jc (Ja (Je (Je (Jb (Jd [6] [(1,Sl a_l l.length c_l),(3,Pt b1 0),(5,Pt b2 0),(6,Pt b3 0),(12,(Kp o a1 c1))] (Ji 13 (I (J6 o)) (VR G (Kv o a1 c1) o (⟨a1,c1,rfl,w1,w2,w3,w4,w5,w6,hs1,w7⟩)) (Jd [0] [(1,Sl a_l l.length c_l),(3,Pt b1 0),(5,Pt b2 0),(6,Pt b3 0),(9,I (J6 o))] (Jc (Ja (Jg [0,0] [(1,Sl a_l l.length c_l),(3,Pt b1 0),(5,Pt b2 0),(6,Pt b3 0),(9,I (J6 o)),(15,Bo (!decide (J6 o=0)))] (Jo (!decide (J6 o=0)) (fun h1=>?_) (fun h1=>?_))))))))))))))))))
 try simp only [BB] at h1
 refine Jg [0,0,3,0,0] [(6,Pt b3 0),(7,I 0),(8,I (J6 o))] (Jk (Jh ?_))
 have hf1:Jx o l r=((⟨[],0,(⟨0,0,0,0⟩:JS),[],0⟩:KO),0,J6 o):=by
  unfold Jx Y8 W0;simp_all
 refine Jl [0,0,0] [.agg #[Sr ([]),U 0,I 0,U 0,U 0,I 0,Sl none 0 0,I 0],I 0,I (J6 o)] (JY [] (.cons _ (.cons _ (.cons _ .slnil))) (Jt.le_refl _) ?_)
 rw [hf1]
 try dsimp only
 exact ⟨none,0,rfl,(Nat.le_of_ble_eq_true rfl),(by omega),(by omega),(by omega),(by omega),(by omega),(RS.nil' ES G),(by omega),rfl⟩
 try simp only [BB] at h1
 refine Jn (Ja (Je (Jb (Jd [6] [(1,Sl a_l l.length c_l),(3,Pt b1 0),(5,Pt b2 0),(6,Pt b3 0),(18,(Kp o a1 c1))] (JQ 19 (Jhn G (Kv o a1 c1) o (⟨a1,c1,rfl,w1,w2,w3,w4,w5,w6,hs1,w7⟩)) (fun v G1 L1 hl1 hp=>?_))))))
 obtain ⟨a4,c4,rfl,w13,w14,w15,w16,w17,w18,hs4,w19,rfl⟩:=hp
 refine Kd [7] [(1,Sl a_l l.length c_l),(3,Pt b1 0),(5,Pt b2 0),(6,Pt b3 0)] [[Sg b3 0 [Sr ([]),U 0,I 0,U 0,U 0,I 0,Sl none 0 0,I 0]],[Sg b2 0 (WW r a2 c2 a3 c3)],[Sg b1 0 (Kv o a4 c4)]] (Jc (Ja (Je (Jb (Jd [6,0,4] [(3,Pt b1 0),(5,Pt b2 0),(6,Pt b3 0),(21,(Kp o a4 c4)),(22,Sl a_l l.length c_l),(23,(WF r a2 c2 a3 c3))] (Ji 24 (.tuple #[I ((JH o l r).1),I ((JH o l r).2)]) (JcP G1 (Kv o a4 c4) o (⟨a4,c4,rfl,w13,w14,w15,w16,w17,w18,hs4,w19⟩) a_l c_l l (h_l.mono hl1) (WW r a2 c2 a3 c3) r (⟨a2,c2,a3,c3,rfl,w8,w9,w10,w11,w12,(hs2.mono hl1),(hs3.mono hl1)⟩) ‹_›) (Jd [0,0,0,0,0] [(3,Pt b1 0),(5,Pt b2 0),(6,Pt b3 0),(10,I ((JH o l r).1)),(11,I ((JH o l r).2))] (Jc (Ja (Je (Jg [0,0] [(3,Pt b1 0),(5,Pt b2 0),(6,Pt b3 0),(10,I ((JH o l r).1)),(11,I ((JH o l r).2)),(28,Bo (decide ((JH o l r).1=0)))] (Jo (decide ((JH o l r).1=0)) (fun h2=>?_) (fun h2=>?_)))))))))))))
 try simp only [BB] at h2
 refine Jb (Kd [0,4,0,0,7,0,7] [(3,Pt b1 0),(6,Pt b3 0),(10,I ((JH o l r).1))] [[Sg b3 0 [Sr ([]),U 0,I 0,U 0,U 0,I 0,Sl none 0 0,I 0]],[Sg b2 0 (WW r a2 c2 a3 c3)],[Sg b1 0 [Sr o.name,U o.key,I r.head.epoch,U r.head.root,U r.head.prev,I r.head.at_,Sl a4 o.wanted.length c4,I ((JH o l r).2)]]] (Jc (Ja (WO [6,0,3,0,0] [(6,Pt b3 0),(7,I ((JH o l r).1)),(8,I 0)] [[Sg b3 0 [Sr o.name,U o.key,I r.head.epoch,U r.head.root,U r.head.prev,I r.head.at_,Sl a4 o.wanted.length c4,I ((JH o l r).2)]],[Sg b2 0 (WW r a2 c2 a3 c3)],[Sg b1 0 [Sr o.name,U o.key,I r.head.epoch,U r.head.root,U r.head.prev,I r.head.at_,Sl a4 o.wanted.length c4,I ((JH o l r).2)]]] (Jk ?_)))))
 have hf2:Jx o l r=((⟨o.name,o.key,r.head,o.wanted,(JH o l r).2⟩:KO),(JH o l r).1,0):=by
  unfold Jx Y8 W0;simp_all
 refine Jl [0,0,0] [.agg #[Sr o.name,U o.key,I r.head.epoch,U r.head.root,U r.head.prev,I r.head.at_,Sl a4 o.wanted.length c4,I ((JH o l r).2)],I ((JH o l r).1),I 0] (JY [] (.cons _ (.cons _ (.cons _ .slnil))) hl1 ?_)
 rw [hf2]
 try dsimp only
 exact ⟨a4,c4,rfl,w13,w14,w8,w9,w10,w11,hs4,(by (have q_:=Jcd ‹_› ‹_›;have q1_:=K0.1 ‹_›;omega)),rfl⟩
 try simp only [BB] at h2
 refine Jn (Ja (WO [6,0,3,0,0] [(6,Pt b3 0),(7,I ((JH o l r).1)),(8,I 0)] [[Sg b3 0 (Kv o a4 c4)],[Sg b2 0 (WW r a2 c2 a3 c3)],[Sg b1 0 (Kv o a4 c4)]] (Jk ?_)))
 have hf3:Jx o l r=(o,(JH o l r).1,0):=by
  unfold Jx Y8 W0;simp_all
 refine Jl [0,0,0] [(Kp o a4 c4),I ((JH o l r).1),I 0] (JY [] (.cons _ (.cons _ (.cons _ .slnil))) hl1 ?_)
 rw [hf3]
 try dsimp only
 exact ⟨a4,c4,rfl,w13,w14,w15,w16,w17,w18,hs4,w19,rfl⟩
end Go.Proofs.YtnnlpbjdignhaaaGreatDoor
