import Derived.Test.YtnnlpbjdignhaaaGreatDoorTcClash
import Derived.Test.YtnnlpbjdignhaaaGreatDoorTcChain
import Derived.Test.YtnnlpbjdignhaaaGreatDoorTcOwner
namespace Go.Proofs.YtnnlpbjdignhaaaGreatDoor
open Go.Tx
set_option linter.unusedVariables false
set_option linter.unusedSimpArgs false
def Qf (p:Wy):Int×Int:=if (KT p).2 ≠ 0 then (0,(KT p).2) else (Jf (Jfk (KT p).1),0)
def WL (root:Int) (p:Wy):Int:=if (Qf p).2=0∧¬ (Qf p).1=root then 8 else (Qf p).2
def Q5 (root:Int) (p:Wy):List UInt8×Bool×Int:=if ¬ WL root p=0 then ([],false,WL root p) else K7 p.entries p.name
def JI (r:WC):List UInt8×Bool×Int:=if ¬ JD r.head=0 then ([],false,JD r.head) else Q5 r.head.root r.proof
theorem Yu {p:Wy} (h:(KT p).2=0):(KT p).1.length=17:=by
 unfold KT at h ⊢
 split at h
 ·
  contradiction
 ·
  rename_i h1
  rw [if_neg h1]
  simp only
  rw [Zo,(QM.1 (Decidable.not_not.1 h1)).sides]
def Zp (x h:JR):Bool:=decide (x.epoch=h.epoch) && !decide (x=h)
def KR (h:JR) (l:List JR):Int:=if ¬ (Kc l).1=0∨(QW l).epoch > h.epoch+1 then 2 else if (QW l).epoch=h.epoch+1∧(Qt h l).1=false then 2 else if (l.any fun x0=>Zp x0 h)=true then 3 else if (WA l).epoch≤h.epoch then 1 else 0
def Zd (o:KP):Int:=if 0 > o.had-1 then 0 else o.had-1
def Vf (o:KP) (w:List UInt8):Int:=K9 (fun x=>decide (w=x)) (o.wanted.drop (Zd o).toNat)
def JH (o:KP) (l:List JR) (r:WC):Int×Int:=if ¬ KR o.head l=0 then (KR o.head l,0) else if (¬ (JI r).2.2=0∨¬ r.head=WA l)∨¬ r.proof.name=o.name then (4,0) else if (JI r).2.1=false∧o.had > 0 then (5,0) else if (JI r).2.1=false then (0,0) else if Vf o (JI r).1<0 then (6,0) else (0,Zd o+Vf o (JI r).1+1)
def Jx (o:KP) (l:List JR) (r:WC):KP×Int×Int:=if ¬ J5 o=0 then (Y2,0,J5 o) else if (JH o l r).1=0 then (⟨o.name,o.key,r.head,o.wanted,(JH o l r).2⟩,0,0) else (o,(JH o l r).1,0)
theorem Z8 {h:JR} {l:List JR} (e:KR h l=0):Wa l∧h.epoch<(WA l).epoch:=by
 unfold KR at e
 split at e
 ·
  cases e
 split at e
 ·
  cases e
 split at e
 ·
  cases e
 split at e
 ·
  cases e
 ·
  rename_i h1 _ _ h4
  exact ⟨KY.1 (Decidable.not_not.1 fun hc=>h1 (.inl hc)),by omega⟩
theorem Jhb {h:JR} {l:List JR} {x:JR} (h1:¬ (Kc l).1=0∨(l[0]? = some x∧x.epoch > h.epoch+1)):KR h l=2:=by
 unfold KR
 rw [if_pos]
 rcases h1 with h1 | ⟨h1,h2⟩
 ·
  exact .inl h1
 ·
  rw [← Wz h1];exact .inr h2
theorem Jls {h:JR} {l:List JR} {x:JR} (h0:(Kc l).1=0) (h1:l[0]? = some x) (h2:x.epoch≤h.epoch+1) (h3:x.epoch=h.epoch+1) (h4:(Qt h l).1=false):KR h l=2:=by
 unfold KR
 rw [← Wz h1,if_neg (by omega),if_pos ⟨h3,h4⟩]
theorem Jag {h:JR} {l:List JR} {x:JR} (h0:(Kc l).1=0) (h1:l[0]? = some x) (h2:x.epoch≤h.epoch+1) (h3:¬ x.epoch=h.epoch+1∨(Qt h l).1=true):KR h l=if (l.any fun x0=>Zp x0 h)=true then 3 else if (WA l).epoch≤h.epoch then 1 else 0:=by
 unfold KR
 rw [← Wz h1,if_neg (by omega),if_neg]
 rintro ⟨a,b⟩
 rcases h3 with h3 | h3
 ·
  exact h3 a
 ·
  rw [h3] at b;cases b
theorem Ji2 {α:Type} (p:α→Bool) (l:List α):-1≤K9 p l∧K9 p l<l.length+1:=by
 by_cases h:K9 p l<0
 ·
  refine ⟨?_,by omega⟩
  unfold K9;split <;> omega
 ·
  obtain ⟨k,hk⟩:∃ k:Nat,K9 p l=k:=⟨_,(Int.toNat_of_nonneg (by omega)).symm⟩
  obtain ⟨x,hx,_⟩:=JfN hk
  have:=(List.getElem?_eq_some_iff.1 hx).1
  omega
theorem JdB {o:KP} {l:List JR} {r:WC} {x:JR} (h0:KR o.head l=0) (h1:(JI r).2.2=0) (h2:l[l.length-1]? = some x) (h3:((r.head.epoch=x.epoch∧r.head.root=x.root)∧r.head.prev=x.prev)∧r.head.at_=x.at_) (h4:r.proof.name=o.name) :
  JH o l r=if (JI r).2.1=false∧o.had > 0 then (5,0) else if (JI r).2.1=false then (0,0) else if Vf o (JI r).1<0 then (6,0) else (0,Zd o+Vf o (JI r).1+1):=by
 unfold JH
 have e:=Wi rfl h2
 have e2:r.head=WA l:=by rw [← e,JaU];exact ⟨h3.1.1.1,h3.1.1.2,h3.1.2,h3.2⟩
 rw [if_neg (by omega),if_neg]
 rintro ((a | a) | a)
 ·
  exact a h1
 ·
  exact a e2
 ·
  exact a h4
theorem Jf7 {o:KP} {l:List JR} {r:WC} (h0:KR o.head l=0) (h1:(¬ (JI r).2.2=0∨∃ x,l[l.length-1]? = some x∧(((r.head.epoch=x.epoch∧r.head.root=x.root)∧r.head.prev=x.prev)→¬ r.head.at_=x.at_))∨¬ r.proof.name=o.name):JH o l r=(4,0):=by
 unfold JH
 rw [if_neg (by omega),if_pos]
 rcases h1 with (h1 | ⟨x,h1,h2⟩) | h1
 ·
  exact .inl (.inl h1)
 ·
  refine .inl (.inr ?_)
  rw [← Wi rfl h1,JaU]
  rintro ⟨a,b,c,d⟩
  exact h2 ⟨⟨a,b⟩,c⟩ d
 ·
  exact .inr h1
theorem Jhc {o:KP} {k:Nat} (w:List UInt8) (h:(if 0 > o.had-1 then 0 else o.had-1)=(k:Int)):Zd o=k∧Vf o w=K9 (fun x=>decide (w=x)) (o.wanted.drop k):=by
 have e:Zd o=k:=h
 refine ⟨e,?_⟩
 unfold Vf;rw [e];rfl
theorem Jhd {o:KP} {w:List UInt8} (h:¬ Vf o w<0):∃ k:Nat,Vf o w=k∧o.wanted[(Zd o).toNat+k]? = some w:=by
 obtain ⟨k,hk⟩:∃ k:Nat,Vf o w=k:=⟨_,(Int.toNat_of_nonneg (by omega)).symm⟩
 refine ⟨k,hk,?_⟩
 unfold Vf at hk
 obtain ⟨x,hx,hp⟩:=JfN hk
 rw [List.getElem?_drop] at hx
 rw [hx,of_decide_eq_true hp]
theorem Jb5 {o:KP} {l:List JR} {r:WC} (hc:J5 o=0) (h:(JH o l r).1=0) :
  (JI r).2.2=0∧o.head.epoch<r.head.epoch∧JD r.head=0∧o.had≤(JH o l r).2∧0≤(JH o l r).2∧(JH o l r).2≤o.wanted.length ∧
  ((JI r).2.1=false→(JH o l r).2=0∧o.had=0)∧((JI r).2.1=true→1≤(JH o l r).2∧∃ k:Nat,(JH o l r).2-1=k∧o.wanted[k]? = some (JI r).1):=by
 have ho:=KZ.1 hc
 unfold JH at h ⊢
 by_cases h1:KR o.head l=0
 ·
  rw [if_neg (by omega)] at h ⊢
  obtain ⟨c1,c2⟩:=Z8 h1
  by_cases h2:(¬ (JI r).2.2=0∨¬ r.head=WA l)∨¬ r.proof.name=o.name
  ·
   rw [if_pos h2] at h;cases h
  ·
   rw [if_neg h2] at h ⊢
   have e1:(JI r).2.2=0:=Decidable.not_not.1 fun hc=>h2 (.inl (.inl hc))
   have e2:r.head=WA l:=Decidable.not_not.1 fun hc=>h2 (.inl (.inr hc))
   have e3:JD r.head=0:=by rw [e2];exact c1.ok _ (List.mem_of_getElem? c1.last)
   by_cases h3:(JI r).2.1=false∧o.had > 0
   ·
    rw [if_pos h3] at h;cases h
   ·
    rw [if_neg h3] at h ⊢
    by_cases h4:(JI r).2.1=false
    ·
     rw [if_pos h4] at h ⊢
     have:¬ o.had > 0:=fun hc=>h3 ⟨h4,hc⟩
     exact ⟨e1,by rw [e2];exact c2,e3,by simp only;omega,by simp,by simp,fun _=>⟨rfl,by omega⟩,fun hc=>by rw [h4] at hc;cases hc⟩
    ·
     rw [if_neg h4] at h ⊢
     by_cases h5:Vf o (JI r).1<0
     ·
      rw [if_pos h5] at h;cases h
     ·
      rw [if_neg h5]
      obtain ⟨k,hk,hw⟩:=Jhd h5
      have hlt:=(List.getElem?_eq_some_iff.1 hw).1
      have hf:0≤Zd o∧o.had-1≤Zd o:=by unfold Zd;split <;> omega
      simp only
      refine ⟨e1,by rw [e2];exact c2,e3,by omega,by omega,by omega,fun hc=>absurd hc h4,fun _=>⟨by omega,(Zd o).toNat+k,by omega,hw⟩⟩
 ·
  rw [if_pos h1] at h;exact absurd h h1
theorem see_ok {o:KP} {l:List JR} {r:WC} (h:(Jx o l r).2.2=0):J5 o=0∧(Jx o l r).2.1=(JH o l r).1∧((JH o l r).1=0→(Jx o l r).1=⟨o.name,o.key,r.head,o.wanted,(JH o l r).2⟩)∧(¬ (JH o l r).1=0→(Jx o l r).1=o):=by
 unfold Jx at h ⊢
 by_cases h1:J5 o=0
 ·
  rw [if_neg (by omega)] at h ⊢
  by_cases h2:(JH o l r).1=0
  ·
   rw [if_pos h2];exact ⟨h1,h2.symm,fun _=>rfl,fun hc=>absurd h2 hc⟩
  ·
   rw [if_neg h2];exact ⟨h1,rfl,fun hc=>absurd hc h2,fun _=>rfl⟩
 ·
  rw [if_pos h1] at h;exact absurd h h1
theorem Jd7 {o:KP} {l:List JR} {r:WC} (h:(Jx o l r).2.2=0) (hv:(Jx o l r).2.1=0):(JI r).2.2=0∧(Jx o l r).1.head=r.head∧o.head.epoch<(Jx o l r).1.head.epoch∧o.had≤(Jx o l r).1.had∧J5 (Jx o l r).1=0∧((JI r).2.1=false→(Jx o l r).1.had=0∧o.had=0)∧((JI r).2.1=true→1≤(Jx o l r).1.had∧(Jx o l r).1.had≤o.wanted.length∧∃ k:Nat,(Jx o l r).1.had-1=k∧o.wanted[k]? = some (JI r).1):=by
 obtain ⟨h1,h2,h3,_⟩:=see_ok h
 have hv0:(JH o l r).1=0:=by rw [← h2];exact hv
 have hx:=h3 hv0
 have ho:=KZ.1 h1
 obtain ⟨a1,a2,a3,a4,a5,a6,a7,a8⟩:=Jb5 h1 hv0
 rw [hx]
 refine ⟨a1,rfl,a2,a4,KZ.2 ⟨ho.1,a3,ho.2.2.1,ho.2.2.2.1,a5,a6⟩,a7,fun hi=>⟨(a8 hi).1,a6,(a8 hi).2⟩⟩
theorem JeE (G:Jt) (vs_p:List Value) (p:Wy) (h_p:JdR.R G vs_p p) :QF Tryz.prog 158 #[.agg vs_p.toArray] G [] (fun u G' L'=>u=.tuple #[U ((Qf p).1),I ((Qf p).2)]):=by
 obtain ⟨a1,c1,a2,c2,rfl,w1,hs1,hs2⟩:=h_p
 refine JJ Tryz.func158 21 [(0,(ZF p a1 c1 a2 c2))] rfl (fun w0 G0=>?_)
 refine Je (Jb (Ju 1 #[Sr p.name,Sl a1 p.entries.length c1,Sl a2 p.sides.length c2] 68 (fun b1=>Jd [0,0] [(1,Pt b1 0)] (Jc (Ja (Je (Jb (Jd [2] [(7,(ZF p a1 c1 a2 c2))] (JQ 8 (Jey G (Ze p a1 c1 a2 c2) p (⟨a1,c1,a2,c2,rfl,w1,hs1,hs2⟩)) (fun v G1 L1 hl1 hp=>?_))))))))))
 obtain ⟨a3,c3,rfl,hs3,rfl⟩:=hp
 refine Jd [0,0,0,0,0] [(4,Sl a3 (((KT p).1).length) c3),(5,I ((KT p).2))] (Jc (Ja (Je (Jg [0,0] [(4,Sl a3 (((KT p).1).length) c3),(5,I ((KT p).2)),(12,Bo (!decide ((KT p).2=0)))] (Jo (!decide ((KT p).2=0)) (fun h1=>?_) (fun h1=>?_))))))
 try simp only [BB] at h1
 refine Jg [0,0,0] [(2,U 0),(3,I ((KT p).2))] (Jk (Jh (Jl [0,0] [U 0,I ((KT p).2)] (Jv hl1 ?_))))
 have hf_:(Qf p)=(0,((KT p).2)):=by
  unfold Qf;(rw [if_pos ‹_›];done)
 · (try rw [hf_]);(simp only [JL];done)
 try simp only [BB] at h1
 refine Jm (Ja (Je (Jb (Jd [0,0,0,0] [(14,Sl a3 (((KT p).1).length) c3),(17,I (IntKind.i64.wrap ((((KT p).1).length:Int)-1)))] ?_))))
 have e1:IntKind.i64.wrap ((((KT p).1).length:Int)-1)=((((KT p).1).length-1:Nat):Int):=(IntWalk.i64_in _ (by (have q_:=Yu (p:=p) ‹_›;omega))).trans (show (((KT p).1).length:Int)-1=((((KT p).1).length-1:Nat):Int) by (have q_:=Yu (p:=p) ‹_›;omega))
 refine J3 (fr':=[(14,Sl a3 (((KT p).1).length) c3),(17,I ((((KT p).1).length-1:Nat):Int))]) (L':=[[Sg b1 0 [Sr p.name,Sl a1 p.entries.length c1,Sl a2 p.sides.length c2]]]) (by simp only [Ze,ZF,e1];first | done | rfl) (by rfl) ?_
 clear e1
 obtain ⟨b2,o1,rfl⟩:=RS.addr hs3 (k:=((KT p).1).length-1) (by (have q_:=Yu (p:=p) ‹_›;omega))
 obtain ⟨x1,hx1⟩:=Wh (l:=(KT p).1) (k:=((KT p).1).length-1) (by (have q_:=Yu (p:=p) ‹_›;omega))
 obtain ⟨_,⟨rfl,w2⟩,hc1⟩:=RS.get hs3 hx1
 refine Kh (b:=b2) (off:=o1) (len:=((KT p).1).length) (cap:=c3) (ik:=.i64) 18 9 1 (((KT p).1).length-1) (by (have q_:=Yu (p:=p) ‹_›;omega)) (Ka 19 9 (cs:=[Sr x1]) 0 (Sr x1) hc1 (Ji 20 (U (Jf x1)) (Zw x1 (JbG w2) G1) (Jd [0,0] [(2,U (Jf x1)),(3,I 0)] (Jc (Ja (Jk (Jl [0,0] [U (Jf x1),I 0] (Jv hl1 ?_))))))))
 have hf_:(Qf p)=((Jf x1),0):=by
  unfold Qf;(rw [if_neg (by omega)];have hl_:=Jfl (a:=(KT p).1) rfl hx1;rw [← hl_];done)
 · (try rw [hf_]);(simp only [JL];done)
theorem JeF (G:Jt) (root:Int) (vs_p:List Value) (p:Wy) (h_p:JdR.R G vs_p p) :QF Tryz.prog 124 #[U root,.agg vs_p.toArray] G [] (fun u G' L'=>u=I (WL root p)):=by
 obtain ⟨a1,c1,a2,c2,rfl,w1,hs1,hs2⟩:=h_p
 refine JJ Tryz.func124 20 [(0,U root),(1,(ZF p a1 c1 a2 c2))] rfl (fun w0 G0=>?_)
 refine Je (Jb (Ju 3 #[Sr p.name,Sl a1 p.entries.length c1,Sl a2 p.sides.length c2] 68 (fun b1=>Jd [0] [(0,U root),(3,Pt b1 0)] (Jc (Ja (Je (Jb (Jd [2] [(0,U root),(8,(ZF p a1 c1 a2 c2))] (Ji 9 (.tuple #[U ((Qf p).1),I ((Qf p).2)]) (JeE G (Ze p a1 c1 a2 c2) p (⟨a1,c1,a2,c2,rfl,w1,hs1,hs2⟩)) (Jd [0,0,0,0,0] [(0,U root),(5,U ((Qf p).1)),(6,I ((Qf p).2))] (Jc (Ja (Je (Je (Jb (Jd [0,0,0] [(0,U root),(5,U ((Qf p).1)),(6,I ((Qf p).2)),(14,Bo (decide ((Qf p).2=0)))] (KD (decide ((Qf p).2=0)) (fun bb=>[(0,U root),(5,U ((Qf p).1)),(6,I ((Qf p).2)),(14,Bo bb)]) [0,0,0,0] [1,1,1,0] (fun bb=>[(6,I ((Qf p).2)),(18,Bo (bb && (!decide ((Qf p).1=root))))]) (Jc (Ja (Jo ((decide ((Qf p).2=0)) && (!decide ((Qf p).1=root))) (fun h1=>?_) (fun h1=>?_)))))))))))))))))))))
 try simp only [BB] at h1
 refine Jb (Jd [0] [(6,I 8)] (Jc (Ja (Jg [0,0] [(4,I 8)] (Jk (Jl [0] [I 8] (Jv (Jt.le_refl _) ?_)))))))
 have hf_:(WL root p)=8:=by
  unfold WL;(rw [if_pos (by simp_all)];done)
 · (try rw [hf_]);(simp only [JL];done)
 try simp only [BB] at h1
 refine Jm (Ja (Jg [0,0] [(4,I ((Qf p).2))] (Jk (Jl [0] [I ((Qf p).2)] (Jv (Jt.le_refl _) ?_)))))
 have hf_:(WL root p)=((Qf p).2):=by
  unfold WL;(rw [if_neg (by simp_all)];done)
 · (try rw [hf_]);(simp only [JL];done)
theorem JeG (G:Jt) (root:Int) (vs_p:List Value) (p:Wy) (h_p:JdR.R G vs_p p) :QF Tryz.prog 87 #[U root,.agg vs_p.toArray] G [] (fun u G' L'=>u=.tuple #[Sr ((Q5 root p).1),Bo ((Q5 root p).2.1),I ((Q5 root p).2.2)]∧(((Q5 root p).1).length≤140737488351232)∧L'=[]):=by
 obtain ⟨a1,c1,a2,c2,rfl,w1,hs1,hs2⟩:=h_p
 refine JJ Tryz.func87 22 [(0,U root),(1,(ZF p a1 c1 a2 c2))] rfl (fun w0 G0=>?_)
 refine Je (Jb (Ju 3 #[Sr p.name,Sl a1 p.entries.length c1,Sl a2 p.sides.length c2] 68 (fun b1=>Jd [0,0,0] [(0,U root),(3,Pt b1 0)] (Jc (Ja (Je (Je (Jb (Jd [0,2] [(3,Pt b1 0),(8,U root),(9,(ZF p a1 c1 a2 c2))] (Ji 10 (I (WL root p)) (JeF G root (Ze p a1 c1 a2 c2) p (⟨a1,c1,a2,c2,rfl,w1,hs1,hs2⟩)) (Jd [0] [(3,Pt b1 0),(7,I (WL root p))] (Jc (Ja (Jg [0,0] [(3,Pt b1 0),(7,I (WL root p)),(12,Bo (!decide (WL root p=0)))] (Jo (!decide (WL root p=0)) (fun h1=>?_) (fun h1=>?_))))))))))))))))
 try simp only [BB] at h1
 refine Jg [0,0,0,0] [(4,Sr ([])),(5,Bo false),(6,I (WL root p))] (Jk (Jh ?_))
 have hf1:Q5 root p=([],false,WL root p):=by
  unfold Q5;(rw [if_pos ‹_›];done)
 refine Jl [0,0,0] [Sr ([]),Bo false,I (WL root p)] (JY [] (.cons _ .slnil) (Jt.le_refl _) ?_)
 rw [hf1]
 try dsimp only
 exact ⟨rfl,(Nat.le_of_ble_eq_true rfl),rfl⟩
 try simp only [BB] at h1
 refine Jm (Ja (Je (Jb (Jd [0,2,0,2] [(15,Sl a1 p.entries.length c1),(17,Sr p.name)] (JQ 18 (JgZ G a1 c1 p.entries hs1 p.name w1) (fun v G1 L1 hl1 hp=>?_))))))
 obtain ⟨rfl,w2,rfl⟩:=hp
 refine Jd [0,0,0,0,0,0] [(4,Sr ((K7 p.entries p.name).1)),(5,Bo ((K7 p.entries p.name).2.1)),(6,I ((K7 p.entries p.name).2.2))] (Jc (Ja (Jk ?_)))
 have hf2:Q5 root p=((K7 p.entries p.name).1,(K7 p.entries p.name).2.1,(K7 p.entries p.name).2.2):=by
  unfold Q5;(rw [if_neg (by simp_all)];done)
 refine Jl [0,0,0] [Sr ((K7 p.entries p.name).1),Bo ((K7 p.entries p.name).2.1),I ((K7 p.entries p.name).2.2)] (JY [] (.cons _ .slnil) hl1 ?_)
 rw [hf2]
 try dsimp only
 exact ⟨rfl,w2,rfl⟩
theorem JeH (G:Jt) (vs_r:List Value) (r:WC) (h_r:JhL.R G vs_r r) :QF Tryz.prog 50 #[.agg vs_r.toArray] G [] (fun u G' L'=>u=.tuple #[Sr ((JI r).1),Bo ((JI r).2.1),I ((JI r).2.2)]∧(((JI r).1).length≤140737488351232)∧L'=[]):=by
 obtain ⟨a1,c1,a2,c2,rfl,_,_,_,_,w5,hs1,hs2⟩:=h_r
 refine JJ Tryz.func50 21 [(0,(WD r a1 c1 a2 c2))] rfl (fun w0 G0=>?_)
 refine Je (Jb (Ju 1 #[I r.head.epoch,U r.head.root,U r.head.prev,I r.head.at_,Sr r.proof.name,Sl a1 r.proof.entries.length c1,Sl a2 r.proof.sides.length c2] 70 (fun b1=>Jd [0,0,0] [(1,Pt b1 0)] (Jc (Ja (Je (Je (Jb (Jd [0,2] [(1,Pt b1 0),(7,.agg #[I r.head.epoch,U r.head.root,U r.head.prev,I r.head.at_])] (Ji 8 (I (JD r.head)) (Zv r.head G) (Jd [0] [(1,Pt b1 0),(5,I (JD r.head))] (Jc (Ja (Jg [0,0] [(1,Pt b1 0),(5,I (JD r.head)),(10,Bo (!decide (JD r.head=0)))] (Jo (!decide (JD r.head=0)) (fun h1=>?_) (fun h1=>?_))))))))))))))))
 try simp only [BB] at h1
 refine Jg [0,0,0,0] [(2,Sr ([])),(3,Bo false),(4,I (JD r.head))] (Jk (Jh ?_))
 have hf1:JI r=([],false,JD r.head):=by
  unfold JI;(rw [if_pos ‹_›];done)
 refine Jl [0,0,0] [Sr ([]),Bo false,I (JD r.head)] (JY [] (.cons _ .slnil) (Jt.le_refl _) ?_)
 rw [hf1]
 try dsimp only
 exact ⟨rfl,(Nat.le_of_ble_eq_true rfl),rfl⟩
 try simp only [BB] at h1
 refine Jm (Ja (Je (Jb (Jd [0,0,2,0,2] [(14,U r.head.root),(16,(ZF r.proof a1 c1 a2 c2))] (JQ 17 (JeG G r.head.root (Ze r.proof a1 c1 a2 c2) r.proof (⟨a1,c1,a2,c2,rfl,w5,hs1,hs2⟩)) (fun v G1 L1 hl1 hp=>?_))))))
 obtain ⟨rfl,w6,rfl⟩:=hp
 refine Jd [0,0,0,0,0,0] [(2,Sr ((Q5 r.head.root r.proof).1)),(3,Bo ((Q5 r.head.root r.proof).2.1)),(4,I ((Q5 r.head.root r.proof).2.2))] (Jc (Ja (Jk ?_)))
 have hf2:JI r=((Q5 r.head.root r.proof).1,(Q5 r.head.root r.proof).2.1,(Q5 r.head.root r.proof).2.2):=by
  unfold JI;(rw [if_neg (by simp_all)];done)
 refine Jl [0,0,0] [Sr ((Q5 r.head.root r.proof).1),Bo ((Q5 r.head.root r.proof).2.1),I ((Q5 r.head.root r.proof).2.2)] (JY [] (.cons _ .slnil) hl1 ?_)
 rw [hf2]
 try dsimp only
 exact ⟨rfl,w6,rfl⟩
theorem Jb6 (G:Jt) (vs_x:List Value) (x:JR) (h_x:KE.R G vs_x x) (vs_h:List Value) (h:JR) (h_h:KE.R G vs_h h) (b_h:Nat) (hz_h:∀ j v,(vs_h:List Value)[j]? = some v→G b_h (0+j)=some v) :QF Tryz.prog 205 #[.agg vs_x.toArray,Pt b_h 0] G [] (fun u G' L'=>u=Bo (Zp x h)):=by
 obtain ⟨rfl,_,_,_,_⟩:=h_x
 obtain ⟨rfl,_,_,_,_⟩:=h_h
 refine JJ Tryz.func205 14 [(0,.agg #[I x.epoch,U x.root,U x.prev,I x.at_]),(1,Pt b_h 0)] rfl (fun w0 G0=>?_)
 refine Je (Jb (Ju 2 #[I x.epoch,U x.root,U x.prev,I x.at_] 50 (fun b1=>Jd [0] [(1,Pt b_h 0),(2,Pt b1 0)] (Jc (Ja (Je (Jb (Jd [0,2,0] [(1,Pt b_h 0),(2,Pt b1 0),(5,I x.epoch),(6,Pt b_h 0)] (Ka (o':=0) 7 2 (cs:=[I h.epoch,U h.root,U h.prev,I h.at_]) 0 (I h.epoch) hz_h (Jd [0,0] [(1,Pt b_h 0),(2,Pt b1 0),(9,Bo (decide (x.epoch=h.epoch)))] (Wd (fun bb=>[(1,Pt b_h 0),(2,Pt b1 0),(9,Bo bb)]) (decide (x.epoch=h.epoch)) (fun h1=>?_) (fun h1=>?_))))))))))))
 try simp only [BB] at h1
 refine Jd [2] [(1,Pt b_h 0),(9,Bo true),(10,.agg #[I x.epoch,U x.root,U x.prev,I x.at_])] (Ka (o':=0) 11 50 (cs:=[I h.epoch,U h.root,U h.prev,I h.at_]) 0 (.agg #[I h.epoch,U h.root,U h.prev,I h.at_]) hz_h (JbQ 12 (Bo (!(decide (x.epoch=h.epoch) && (decide (x.root=h.root) && (decide (x.prev=h.prev) && (decide (x.at_=h.at_) && true)))))) (Bo (!(decide (x.epoch=h.epoch) && decide (x.root=h.root) && decide (x.prev=h.prev) && decide (x.at_=h.at_)))) (by simp [Za,Bool.and_assoc]) (Jd [0,0] [(3,Bo (!(decide (x.epoch=h.epoch) && decide (x.root=h.root) && decide (x.prev=h.prev) && decide (x.at_=h.at_))))] (Jc (Ja (Jk (Jl [0] [Bo (!(decide (x.epoch=h.epoch) && decide (x.root=h.root) && decide (x.prev=h.prev) && decide (x.at_=h.at_)))] (Jv (Jt.le_refl _) ?_))))))))
 have hf_:(Zp x h)=(!(decide (x.epoch=h.epoch) && decide (x.root=h.root) && decide (x.prev=h.prev) && decide (x.at_=h.at_))):=by
  unfold Zp;rw [Bool.eq_iff_iff];simp [JaU];grind
 · (try rw [hf_]);(simp only [JL];done)
 try simp only [BB] at h1
 refine Jd [1,1,1,0,0] [(3,Bo false)] (Jc (Ja (Jk (Jl [0] [Bo false] (Jv (Jt.le_refl _) ?_)))))
 have hf_:(Zp x h)=false:=by
  unfold Zp;rw [Bool.eq_iff_iff];simp [JaU];grind
 · (try rw [hf_]);(simp only [JL];done)
set_option maxRecDepth 20000 in
theorem Jd8 (G:Jt) (vs_h:List Value) (h:JR) (h_h:KE.R G vs_h h) (a_l:Option Addr) (c_l:Nat) (l:List JR) (h_l:RS KE G a_l c_l l) (hh:JD h=0):QF Tryz.prog 196 #[.agg vs_h.toArray,Sl a_l l.length c_l] G [] (fun u G' L'=>u=I (KR h l)):=by
 obtain ⟨rfl,w1,w2,w3,w4⟩:=h_h
 refine JJ Tryz.func196 55 [(0,.agg #[I h.epoch,U h.root,U h.prev,I h.at_]),(1,Sl a_l l.length c_l)] rfl (fun w0 G0=>?_)
 refine Je (Jb (Ju 2 #[I h.epoch,U h.root,U h.prev,I h.at_] 50 (fun b1=>Jd [0] [(1,Sl a_l l.length c_l),(2,Pt b1 0)] (Jc (Ja (Je (Je (Jb (Jd [0] [(1,Sl a_l l.length c_l),(2,Pt b1 0),(10,Sl a_l l.length c_l)] (Ji 11 (.tuple #[I ((Kc l).1),I ((Kc l).2)]) (VL G a_l c_l l h_l) (Jd [0,0,0,0,0] [(1,Sl a_l l.length c_l),(2,Pt b1 0),(5,I ((Kc l).1))] (Jc (Ja (Je ?_))))))))))))))
 rcases Bool.eq_false_or_eq_true (!decide ((Kc l).1=0)) with h1 | h1
 have h1d:=h1
 try simp only [BB] at h1d
 refine KB [] (Wr [(0,I ((Kc l).1)),(1,Bo true),(2,Bo true),(3,undef),(4,undef),(5,undef),(6,undef),(7,undef),(8,undef),(9,undef),(10,undef),(11,Bo true)] (KA [] [(0,0),(2,0),(3,1),(4,1),(5,1),(6,1),(7,1),(8,1),(9,1),(10,1),(11,0)] [1] [(1,Sl a_l l.length c_l),(2,Pt b1 0),(25,Bo true)] (List.forall_mem_cons.2 ⟨?_,List.forall_mem_nil _⟩) ?_))
 refine Jr 1 15 (Bo true) [(14,I ((Kc l).1))] (fun X=>?_)
 exact K6 15 (Bo (!decide ((Kc l).1=0))) (Bo true) (by rw [h1]) Jp
 refine Ja (JZ (Jg [0] [(4,I 2)] (Jk (Jh (Jl [0] [I 2] (Jv (Jt.le_refl _) ?_))))))
 have hf_:(KR h l)=2:=by
  exact Jhb (x:=WY) (.inl ‹_›)
 · (try rw [hf_]);(simp only [JL];done)
 have h1d:=h1
 try simp only [BB] at h1d
 obtain ⟨b2,o1,rfl⟩:=RS.addr h_l (k:=0) (by (have q_:=(KY.1 ‹_›);have q1_:=q_.len1;have q2_:=q_.len;omega))
 obtain ⟨x1,hx1⟩:=Wh (l:=l) (k:=0) (by (have q_:=(KY.1 ‹_›);have q1_:=q_.len1;have q2_:=q_.len;omega))
 obtain ⟨_,⟨rfl,_,_,_,_⟩,hc1⟩:=RS.get h_l hx1
 have e1:IntKind.i64.wrap (h.epoch+1)=h.epoch+1:=IntWalk.i64_in _ (by (have q0_:=W6 hh;omega))
 refine KB [] (Wr [(0,I ((Kc l).1)),(1,Bo false),(2,Bo false),(3,Sl (At b2 o1) l.length c_l),(4,Pt b2 (o1+0*4)),(5,Pt b2 (o1+0*4)),(6,I x1.epoch),(7,Pt b1 0),(8,I h.epoch),(9,I (h.epoch+1)),(10,Bo (decide (x1.epoch > h.epoch+1))),(11,Bo (decide (x1.epoch > h.epoch+1)))] (KA [] [(0,0),(2,0),(3,0),(5,0),(7,0),(8,2),(10,0),(11,0)] [1,4,6,9] [(1,Sl (At b2 o1) l.length c_l),(2,Pt b1 0),(25,Bo (decide (x1.epoch > h.epoch+1)))] (List.forall_mem_cons.2 ⟨?_,(List.forall_mem_cons.2 ⟨?_,(List.forall_mem_cons.2 ⟨?_,(List.forall_mem_cons.2 ⟨?_,List.forall_mem_nil _⟩)⟩)⟩)⟩) ?_))
 refine Jr 1 15 (Bo false) [(14,I ((Kc l).1))] (fun X=>?_)
 exact K6 15 (Bo (!decide ((Kc l).1=0))) (Bo false) (by rw [h1]) Jp
 refine Jr 4 18 (Pt b2 (o1+0*4)) [(16,Bo false),(17,Sl (At b2 o1) l.length c_l)] (fun X=>?_)
 exact Kh (b:=b2) (off:=o1) (len:=l.length) (cap:=c_l) (ik:=.i64) 18 50 4 0 (by (have q_:=(KY.1 ‹_›);have q1_:=q_.len1;have q2_:=q_.len;omega)) Jp
 refine Jr 6 20 (I x1.epoch) [(16,Bo false),(19,Pt b2 (o1+0*4))] (fun X=>?_)
 exact Ka 20 2 (cs:=[I x1.epoch,U x1.root,U x1.prev,I x1.at_]) 0 (I x1.epoch) hc1 Jp
 refine Jr 9 23 (I (h.epoch+1)) [(16,Bo false),(22,I h.epoch)] (fun X=>?_)
 exact K6 23 (I (IntKind.i64.wrap (h.epoch+1))) (I (h.epoch+1)) (by simp only [e1]) Jp
 refine Ja (Jo (decide (x1.epoch > h.epoch+1)) (fun h2=>?_) (fun h2=>?_))
 try simp only [BB] at h2
 refine Jg [0] [(4,I 2)] (Jk (Jh (Jl [0] [I 2] (Jv (Jt.le_refl _) ?_))))
 have hf_:(KR h l)=2:=by
  exact Jhb (.inr ⟨hx1,by assumption⟩)
 · (try rw [hf_]);(simp only [JL];done)
 try simp only [BB] at h2
 refine Jm (Ja (Je (Je ?_)))
 have e2:IntKind.i64.wrap (h.epoch+1)=h.epoch+1:=IntWalk.i64_in _ (by (have q0_:=W6 hh;omega))
 refine KB [] (Wr [(0,Sl (At b2 o1) l.length c_l),(1,Pt b2 (o1+0*4)),(2,Pt b2 (o1+0*4)),(3,I x1.epoch),(4,Pt b1 0),(5,I h.epoch),(6,I (h.epoch+1)),(7,Bo (decide (x1.epoch=h.epoch+1)))] (KA [] [(0,0),(2,0),(4,0),(5,2),(7,0)] [1,3,6] [(1,Sl (At b2 o1) l.length c_l),(2,Pt b1 0),(33,Bo (decide (x1.epoch=h.epoch+1)))] (List.forall_mem_cons.2 ⟨?_,(List.forall_mem_cons.2 ⟨?_,(List.forall_mem_cons.2 ⟨?_,List.forall_mem_nil _⟩)⟩)⟩) ?_))
 refine Jr 1 27 (Pt b2 (o1+0*4)) [(26,Sl (At b2 o1) l.length c_l)] (fun X=>?_)
 exact Kh (b:=b2) (off:=o1) (len:=l.length) (cap:=c_l) (ik:=.i64) 27 50 4 0 (by (have q_:=(KY.1 ‹_›);have q1_:=q_.len1;have q2_:=q_.len;omega)) Jp
 refine Jr 3 29 (I x1.epoch) [(28,Pt b2 (o1+0*4))] (fun X=>?_)
 exact Ka 29 2 (cs:=[I x1.epoch,U x1.root,U x1.prev,I x1.at_]) 0 (I x1.epoch) hc1 Jp
 refine Jr 6 32 (I (h.epoch+1)) [(31,I h.epoch)] (fun X=>?_)
 exact K6 32 (I (IntKind.i64.wrap (h.epoch+1))) (I (h.epoch+1)) (by simp only [e2]) Jp
 refine Ja (Jo (decide (x1.epoch=h.epoch+1)) (fun h3=>?_) (fun h3=>?_))
 try simp only [BB] at h3
 refine Je (Jb (Jd [2,0] [(1,Sl (At b2 o1) l.length c_l),(2,Pt b1 0),(35,.agg #[I h.epoch,U h.root,U h.prev,I h.at_]),(36,Sl (At b2 o1) l.length c_l)] (Ji 37 (.tuple #[Bo ((Qt h l).1),I ((Qt h l).2)]) (JcE G [I h.epoch,U h.root,U h.prev,I h.at_] h (⟨rfl,w1,w2,w3,w4⟩) (At b2 o1) c_l l h_l) (Jd [0,0,0,0,0] [(1,Sl (At b2 o1) l.length c_l),(2,Pt b1 0),(7,Bo ((Qt h l).1))] (Jc (Ja (Jg [0,0] [(1,Sl (At b2 o1) l.length c_l),(2,Pt b1 0),(41,Bo (!((Qt h l).1)))] (Jo (!((Qt h l).1)) (fun h4=>?_) (fun h4=>?_)))))))))
 try simp only [BB] at h4
 refine Jg [0] [(4,I 2)] (Jk (Jh (Jl [0] [I 2] (Jv (Jt.le_refl _) ?_))))
 have hf_:(KR h l)=2:=by
  exact Jls ‹_› hx1 ‹_› ‹_› ‹_›
 · (try rw [hf_]);(simp only [JL];done)
 try simp only [BB] at h4
 refine Jm (Ja (Je (Je (Jb (Jd [0,0] [(1,Sl (At b2 o1) l.length c_l),(2,Pt b1 0),(42,Sl (At b2 o1) l.length c_l),(43,.func (.func 205) #[] #[Pt b1 0])] (QQ (b:=b1) (o:=0) (cs:=[I h.epoch,U h.root,U h.prev,I h.at_]) 0 (fun G1 hl1 hz1=>Ji 44 (Bo (l.any (fun x0=>Zp x0 h))) (JdU G1 (At b2 o1) c_l l (h_l.mono hl1) 205 #[Pt b1 0] (fun x0=>Zp x0 h) (fun _ _=>by kernel_rfl) (fun vs0 x0 hx0=>by obtain ⟨rfl,w9,w10,w11,w12⟩:=hx0;exact Jb6 G1 [I x0.epoch,U x0.root,U x0.prev,I x0.at_] x0 (⟨rfl,w9,w10,w11,w12⟩) [I h.epoch,U h.root,U h.prev,I h.at_] h (⟨rfl,w1,w2,w3,w4⟩) b1 hz1)) (Jc (Ja (Jo (l.any (fun x0=>Zp x0 h)) (fun h5=>?_) (fun h5=>?_)))))))))))
 try simp only [BB] at h5
 refine Jg [0] [(4,I 3)] (Jk (Jh (Jl [0] [I 3] (Jv hl1 ?_))))
 have hf_:(KR h l)=3:=by
  (rw [Jag ‹_› hx1 ‹_› (by exact .inr ‹_›)];(rw [if_pos ‹_›];done))
 · (try rw [hf_]);(simp only [JL];done)
 try simp only [BB] at h5
 refine Jm (Ja (Je (Je ?_)))
 have e3:IntKind.i64.wrap ((l.length:Int)-1)=((l.length-1:Nat):Int):=(IntWalk.i64_in _ (by (have q_:=(KY.1 ‹_›);have q1_:=q_.len1;have q2_:=q_.len;omega))).trans (show (l.length:Int)-1=((l.length-1:Nat):Int) by (have q_:=(KY.1 ‹_›);have q1_:=q_.len1;have q2_:=q_.len;omega))
 obtain ⟨x2,hx2⟩:=Wh (l:=l) (k:=l.length-1) (by (have q_:=(KY.1 ‹_›);have q1_:=q_.len1;have q2_:=q_.len;omega))
 obtain ⟨_,⟨rfl,_,_,_,_⟩,hc2⟩:=RS.get (h_l.mono hl1) hx2
 refine KB [] (Wr [(0,Sl (At b2 o1) l.length c_l),(1,Sl (At b2 o1) l.length c_l),(2,I (l.length:Int)),(3,I ((l.length-1:Nat):Int)),(4,Pt b2 (o1+(l.length-1)*4)),(5,Pt b2 (o1+(l.length-1)*4)),(6,I x2.epoch),(7,Pt b1 0),(8,I h.epoch),(9,Bo (decide (x2.epoch≤h.epoch)))] (KA [] [(0,0),(1,0),(2,0),(5,0),(7,0),(9,0)] [3,4,6,8] [(54,Bo (decide (x2.epoch≤h.epoch)))] (List.forall_mem_cons.2 ⟨?_,(List.forall_mem_cons.2 ⟨?_,(List.forall_mem_cons.2 ⟨?_,(List.forall_mem_cons.2 ⟨?_,List.forall_mem_nil _⟩)⟩)⟩)⟩) ?_))
 refine Jr 3 48 (I ((l.length-1:Nat):Int)) [(47,I (l.length:Int))] (fun X=>?_)
 exact K6 48 (I (IntKind.i64.wrap ((l.length:Int)-1))) (I ((l.length-1:Nat):Int)) (by simp only [e3]) Jp
 refine Jr 4 49 (Pt b2 (o1+(l.length-1)*4)) [(45,Sl (At b2 o1) l.length c_l),(48,I ((l.length-1:Nat):Int))] (fun X=>?_)
 exact Kh (b:=b2) (off:=o1) (len:=l.length) (cap:=c_l) (ik:=.i64) 49 50 4 (l.length-1) (by (have q_:=(KY.1 ‹_›);have q1_:=q_.len1;have q2_:=q_.len;omega)) Jp
 refine Jr 6 51 (I x2.epoch) [(50,Pt b2 (o1+(l.length-1)*4))] (fun X=>?_)
 exact Ka 51 2 (cs:=[I x2.epoch,U x2.root,U x2.prev,I x2.at_]) 0 (I x2.epoch) hc2 Jp
 refine Jr 8 53 (I h.epoch) [(52,Pt b1 0)] (fun X=>?_)
 exact Ka (o':=0) 53 2 (cs:=[I h.epoch,U h.root,U h.prev,I h.at_]) 0 (I h.epoch) hz1 Jp
 refine Ja (Jo (decide (x2.epoch≤h.epoch)) (fun h6=>?_) (fun h6=>?_))
 try simp only [BB] at h6
 refine Jg [0] [(4,I 1)] (Jk (Jh (Jl [0] [I 1] (Jv hl1 ?_))))
 have hf_:(KR h l)=1:=by
  (rw [Jag ‹_› hx1 ‹_› (by exact .inr ‹_›)];(have el_:=Wi (l:=l) (k:=l.length-1) rfl ‹_›;subst el_;rw [if_neg (by simp_all)];(rw [if_pos ‹_›];done)))
 · (try rw [hf_]);(simp only [JL];done)
 try simp only [BB] at h6
 refine Jm (Ja (Jg [0] [(4,I 0)] (Jk (Jl [0] [I 0] (Jv hl1 ?_)))))
 have hf_:(KR h l)=0:=by
  (rw [Jag ‹_› hx1 ‹_› (by exact .inr ‹_›)];(have el_:=Wi (l:=l) (k:=l.length-1) rfl ‹_›;subst el_;rw [if_neg (by simp_all)];(rw [if_neg (by omega)];done)))
 · (try rw [hf_]);(simp only [JL];done)
 try simp only [BB] at h3
 refine Jm (Ja (Je (Je (Jb (Jd [0,0] [(1,Sl (At b2 o1) l.length c_l),(2,Pt b1 0),(42,Sl (At b2 o1) l.length c_l),(43,.func (.func 205) #[] #[Pt b1 0])] (QQ (b:=b1) (o:=0) (cs:=[I h.epoch,U h.root,U h.prev,I h.at_]) 0 (fun G2 hl2 hz2=>Ji 44 (Bo (l.any (fun x0=>Zp x0 h))) (JdU G2 (At b2 o1) c_l l (h_l.mono hl2) 205 #[Pt b1 0] (fun x0=>Zp x0 h) (fun _ _=>by kernel_rfl) (fun vs0 x0 hx0=>by obtain ⟨rfl,w17,w18,w19,w20⟩:=hx0;exact Jb6 G2 [I x0.epoch,U x0.root,U x0.prev,I x0.at_] x0 (⟨rfl,w17,w18,w19,w20⟩) [I h.epoch,U h.root,U h.prev,I h.at_] h (⟨rfl,w1,w2,w3,w4⟩) b1 hz2)) (Jc (Ja (Jo (l.any (fun x0=>Zp x0 h)) (fun h7=>?_) (fun h7=>?_)))))))))))
 try simp only [BB] at h7
 refine Jg [0] [(4,I 3)] (Jk (Jh (Jl [0] [I 3] (Jv hl2 ?_))))
 have hf_:(KR h l)=3:=by
  (rw [Jag ‹_› hx1 ‹_› (by exact .inl ‹_›)];(rw [if_pos ‹_›];done))
 · (try rw [hf_]);(simp only [JL];done)
 try simp only [BB] at h7
 refine Jm (Ja (Je (Je ?_)))
 have e4:IntKind.i64.wrap ((l.length:Int)-1)=((l.length-1:Nat):Int):=(IntWalk.i64_in _ (by (have q_:=(KY.1 ‹_›);have q1_:=q_.len1;have q2_:=q_.len;omega))).trans (show (l.length:Int)-1=((l.length-1:Nat):Int) by (have q_:=(KY.1 ‹_›);have q1_:=q_.len1;have q2_:=q_.len;omega))
 obtain ⟨x3,hx3⟩:=Wh (l:=l) (k:=l.length-1) (by (have q_:=(KY.1 ‹_›);have q1_:=q_.len1;have q2_:=q_.len;omega))
 obtain ⟨_,⟨rfl,_,_,_,_⟩,hc3⟩:=RS.get (h_l.mono hl2) hx3
 refine KB [] (Wr [(0,Sl (At b2 o1) l.length c_l),(1,Sl (At b2 o1) l.length c_l),(2,I (l.length:Int)),(3,I ((l.length-1:Nat):Int)),(4,Pt b2 (o1+(l.length-1)*4)),(5,Pt b2 (o1+(l.length-1)*4)),(6,I x3.epoch),(7,Pt b1 0),(8,I h.epoch),(9,Bo (decide (x3.epoch≤h.epoch)))] (KA [] [(0,0),(1,0),(2,0),(5,0),(7,0),(9,0)] [3,4,6,8] [(54,Bo (decide (x3.epoch≤h.epoch)))] (List.forall_mem_cons.2 ⟨?_,(List.forall_mem_cons.2 ⟨?_,(List.forall_mem_cons.2 ⟨?_,(List.forall_mem_cons.2 ⟨?_,List.forall_mem_nil _⟩)⟩)⟩)⟩) ?_))
 refine Jr 3 48 (I ((l.length-1:Nat):Int)) [(47,I (l.length:Int))] (fun X=>?_)
 exact K6 48 (I (IntKind.i64.wrap ((l.length:Int)-1))) (I ((l.length-1:Nat):Int)) (by simp only [e4]) Jp
 refine Jr 4 49 (Pt b2 (o1+(l.length-1)*4)) [(45,Sl (At b2 o1) l.length c_l),(48,I ((l.length-1:Nat):Int))] (fun X=>?_)
 exact Kh (b:=b2) (off:=o1) (len:=l.length) (cap:=c_l) (ik:=.i64) 49 50 4 (l.length-1) (by (have q_:=(KY.1 ‹_›);have q1_:=q_.len1;have q2_:=q_.len;omega)) Jp
 refine Jr 6 51 (I x3.epoch) [(50,Pt b2 (o1+(l.length-1)*4))] (fun X=>?_)
 exact Ka 51 2 (cs:=[I x3.epoch,U x3.root,U x3.prev,I x3.at_]) 0 (I x3.epoch) hc3 Jp
 refine Jr 8 53 (I h.epoch) [(52,Pt b1 0)] (fun X=>?_)
 exact Ka (o':=0) 53 2 (cs:=[I h.epoch,U h.root,U h.prev,I h.at_]) 0 (I h.epoch) hz2 Jp
 refine Ja (Jo (decide (x3.epoch≤h.epoch)) (fun h8=>?_) (fun h8=>?_))
 try simp only [BB] at h8
 refine Jg [0] [(4,I 1)] (Jk (Jh (Jl [0] [I 1] (Jv hl2 ?_))))
 have hf_:(KR h l)=1:=by
  (rw [Jag ‹_› hx1 ‹_› (by exact .inl ‹_›)];(have el_:=Wi (l:=l) (k:=l.length-1) rfl ‹_›;subst el_;rw [if_neg (by simp_all)];(rw [if_pos ‹_›];done)))
 · (try rw [hf_]);(simp only [JL];done)
 try simp only [BB] at h8
 refine Jm (Ja (Jg [0] [(4,I 0)] (Jk (Jl [0] [I 0] (Jv hl2 ?_)))))
 have hf_:(KR h l)=0:=by
  (rw [Jag ‹_› hx1 ‹_› (by exact .inl ‹_›)];(have el_:=Wi (l:=l) (k:=l.length-1) rfl ‹_›;subst el_;rw [if_neg (by simp_all)];(rw [if_neg (by omega)];done)))
 · (try rw [hf_]);(simp only [JL];done)
theorem Jhe (G:Jt) (vs_o:List Value) (o:KP) (h_o:QO.R G vs_o o) :QF Tryz.prog 179 #[.agg vs_o.toArray] G [] (fun u G' L'=>∃ (a1:Option Addr) (c2:Nat),u=.agg #[Sr o.name,U o.key,I o.head.epoch,U o.head.root,U o.head.prev,I o.head.at_,Sl a1 o.wanted.length c2,I o.had]∧((o.name).length≤140737488351232)∧(rU o.key)∧(rI o.head.epoch)∧(rU o.head.root)∧(rU o.head.prev)∧(rI o.head.at_)∧(RS ES G' a1 c2 o.wanted)∧(rI o.had)∧L'=[]):=by
 obtain ⟨a1,c1,rfl,w1,w2,w3,w4,w5,w6,hs1,w7⟩:=h_o
 refine JJ Tryz.func179 8 [(0,(Ko o a1 c1))] rfl (fun w0 G0=>?_)
 refine Je (Jb (Ju 1 #[Sr o.name,U o.key,I o.head.epoch,U o.head.root,U o.head.prev,I o.head.at_,Sl a1 o.wanted.length c1,I o.had] 52 (fun b1=>Ju 2 #[Sr ([]),U 0,I 0,U 0,U 0,I 0,Sl none 0 0,I 0] 52 (fun b2=>Jc (Ja (Je (Jb (Jd [0,4] [(1,Pt b1 0),(2,Pt b2 0),(4,Sl a1 o.wanted.length c1)] (JQ 5 (Jfd G a1 c1 o.wanted hs1) (fun v G1 L1 hl1 hp=>?_))))))))))
 obtain ⟨a2,c2,r1,rfl,hr1,rfl⟩:=hp
 refine Kd [0,7] [(1,Pt b1 0),(2,Pt b2 0)] [r1,[Sg b2 0 [Sr ([]),U 0,I 0,U 0,U 0,I 0,Sl none 0 0,I 0]],[Sg b1 0 (Kv o a2 c2)]] (Jc (Ja (WM [6,5] [(2,Pt b2 0)] [r1,[Sg b2 0 (Kv o a2 c2)],[Sg b1 0 (Kv o a2 c2)]] (Jk (Wn (E:=ES) 0 hr1 (by exact (hs1).fit) (fun G2 hl2 hs2=>?_))))))
 have hf1:o=o:=by
  rfl
 refine Jl [1] [(Ko o a2 c2)] (JY [] (.cons _ (.cons _ (.cons _ .slnil))) (Jt.le_trans hl1 hl2) ?_)
 rw [hf1]
 try dsimp only
 exact ⟨a2,c2,rfl,w1,w2,w3,w4,w5,w6,hs2,w7,rfl⟩
set_option maxRecDepth 20000 in
theorem JcF (G:Jt) (vs_o:List Value) (o:KP) (h_o:QO.R G vs_o o) (a_l:Option Addr) (c_l:Nat) (l:List JR) (h_l:RS KE G a_l c_l l) (vs_r:List Value) (r:WC) (h_r:JhL.R G vs_r r) (ho:J5 o=0):QF Tryz.prog 180 #[.agg vs_o.toArray,Sl a_l l.length c_l,.agg vs_r.toArray] G [] (fun u G' L'=>u=.tuple #[I ((JH o l r).1),I ((JH o l r).2)]):=by
 obtain ⟨a1,c1,rfl,_,_,w3,w4,w5,w6,hs1,_⟩:=h_o
 obtain ⟨a2,c2,a3,c3,rfl,w8,w9,w10,w11,w12,hs2,hs3⟩:=h_r
 refine JJ Tryz.func180 76 [(0,(Ko o a1 c1)),(1,Sl a_l l.length c_l),(2,(WD r a2 c2 a3 c3))] rfl (fun w0 G0=>?_)
 refine Je (Jb (Ju 3 #[Sr o.name,U o.key,I o.head.epoch,U o.head.root,U o.head.prev,I o.head.at_,Sl a1 o.wanted.length c1,I o.had] 52 (fun b1=>Ju 5 #[I r.head.epoch,U r.head.root,U r.head.prev,I r.head.at_,Sr r.proof.name,Sl a2 r.proof.entries.length c2,Sl a3 r.proof.sides.length c3] 70 (fun b2=>Jd [0,0] [(1,Sl a_l l.length c_l),(3,Pt b1 0),(5,Pt b2 0)] (Jc (Ja (Je (Je (Jb (Jd [0,4,0] [(1,Sl a_l l.length c_l),(3,Pt b1 0),(5,Pt b2 0),(15,.agg #[I o.head.epoch,U o.head.root,U o.head.prev,I o.head.at_]),(16,Sl a_l l.length c_l)] (Ji 17 (I (KR o.head l)) (Jd8 G [I o.head.epoch,U o.head.root,U o.head.prev,I o.head.at_] o.head (⟨rfl,w3,w4,w5,w6⟩) a_l c_l l h_l (KZ.1 ho).2.1) (Jd [0] [(1,Sl a_l l.length c_l),(3,Pt b1 0),(5,Pt b2 0),(8,I (KR o.head l))] (Jc (Ja (Jg [0,0] [(1,Sl a_l l.length c_l),(3,Pt b1 0),(5,Pt b2 0),(8,I (KR o.head l)),(19,Bo (!decide (KR o.head l=0)))] (Jo (!decide (KR o.head l=0)) (fun h1=>?_) (fun h1=>?_)))))))))))))))))
 try simp only [BB] at h1
 refine Jg [0,0,0] [(6,I (KR o.head l)),(7,I 0)] (Jk (Jh (Jl [0,0] [I (KR o.head l),I 0] (Jv (Jt.le_refl _) ?_))))
 have hf_:(JH o l r)=((KR o.head l),0):=by
  (unfold JH;rw [if_pos ‹_›];done)
 · (try rw [hf_]);(simp only [JL];done)
 try simp only [BB] at h1
 refine Jm (Ja (Je (Jb (Jd [2] [(1,Sl a_l l.length c_l),(3,Pt b1 0),(5,Pt b2 0),(22,(WD r a2 c2 a3 c3))] (JQ 23 (JeH G (WV r a2 c2 a3 c3) r (⟨a2,c2,a3,c3,rfl,w8,w9,w10,w11,w12,hs2,hs3⟩)) (fun v G1 L1 hl1 hp=>?_))))))
 obtain ⟨rfl,_,rfl⟩:=hp
 refine Jd [0,0,0,0,0,0,0] [(1,Sl a_l l.length c_l),(3,Pt b1 0),(5,Pt b2 0),(9,Sr ((JI r).1)),(10,Bo ((JI r).2.1)),(11,I ((JI r).2.2))] (Jc (Ja (Je (Jz (Je ?_)))))
 rcases Bool.eq_false_or_eq_true (!decide ((JI r).2.2=0)) with h2 | h2
 have h2d:=h2
 try simp only [BB] at h2d
 refine KB [] (Wr [(0,I ((JI r).2.2)),(1,Bo true),(2,Bo true),(3,undef),(4,undef),(5,undef),(6,undef),(7,undef),(8,undef),(9,undef),(10,undef),(11,undef),(12,Bo true),(13,Bo true),(14,undef),(15,undef),(16,undef),(17,undef),(18,undef),(19,undef),(20,Bo true),(21,Bo true)] (KA [] [(0,0),(2,0),(3,1),(4,1),(5,1),(6,1),(7,1),(8,1),(9,1),(10,1),(11,1),(12,0),(13,0),(14,1),(15,1),(16,1),(17,1),(18,1),(19,1),(20,0),(21,0)] [1] [(3,Pt b1 0),(9,Sr ((JI r).1)),(10,Bo ((JI r).2.1)),(27,Bo true)] (List.forall_mem_cons.2 ⟨?_,List.forall_mem_nil _⟩) ?_))
 refine Jr 1 29 (Bo true) [(28,I ((JI r).2.2))] (fun X=>?_)
 exact K6 29 (Bo (!decide ((JI r).2.2=0))) (Bo true) (by rw [h2]) Jp
 refine Ja (JZ (Jg [0,0] [(6,I 4),(7,I 0)] (Jk (Js (Jh (Jl [0,0] [I 4,I 0] (Jv hl1 ?_)))))))
 have hf_:(JH o l r)=(4,0):=by
  exact Jf7 ‹_› (.inl (.inl ‹_›))
 · (try rw [hf_]);(simp only [JL];done)
 have h2d:=h2
 try simp only [BB] at h2d
 have e1:IntKind.i64.wrap ((l.length:Int)-1)=((l.length-1:Nat):Int):=(IntWalk.i64_in _ (by (have q_:=(Z8 ‹_›).1;have q1_:=q_.len1;have q2_:=q_.len;omega))).trans (show (l.length:Int)-1=((l.length-1:Nat):Int) by (have q_:=(Z8 ‹_›).1;have q1_:=q_.len1;have q2_:=q_.len;omega))
 obtain ⟨b3,o1,rfl⟩:=RS.addr (h_l.mono hl1) (k:=l.length-1) (by (have q_:=(Z8 ‹_›).1;have q1_:=q_.len1;have q2_:=q_.len;omega))
 obtain ⟨x1,hx1⟩:=Wh (l:=l) (k:=l.length-1) (by (have q_:=(Z8 ‹_›).1;have q1_:=q_.len1;have q2_:=q_.len;omega))
 obtain ⟨_,⟨rfl,_,_,_,_⟩,hc1⟩:=RS.get (h_l.mono hl1) hx1
 rcases Bool.eq_false_or_eq_true (!(decide (r.head.epoch=x1.epoch) && decide (r.head.root=x1.root) && decide (r.head.prev=x1.prev) && decide (r.head.at_=x1.at_))) with h3 | h3
 have h3d:=h3
 try simp only [BB] at h3d
 have e2:IntKind.i64.wrap ((l.length:Int)-1)=((l.length-1:Nat):Int):=(IntWalk.i64_in _ (by (have q_:=(Z8 ‹_›).1;have q1_:=q_.len1;have q2_:=q_.len;omega))).trans (show (l.length:Int)-1=((l.length-1:Nat):Int) by (have q_:=(Z8 ‹_›).1;have q1_:=q_.len1;have q2_:=q_.len;omega))
 refine KB [] (Wr [(0,I ((JI r).2.2)),(1,Bo false),(2,Bo false),(3,Pt b2 0),(4,.agg #[I r.head.epoch,U r.head.root,U r.head.prev,I r.head.at_]),(5,Sl (At b3 o1) l.length c_l),(6,Sl (At b3 o1) l.length c_l),(7,I (l.length:Int)),(8,I ((l.length-1:Nat):Int)),(9,Pt b3 (o1+(l.length-1)*4)),(10,.agg #[I x1.epoch,U x1.root,U x1.prev,I x1.at_]),(11,Bo (!(decide (r.head.epoch=x1.epoch) && decide (r.head.root=x1.root) && decide (r.head.prev=x1.prev) && decide (r.head.at_=x1.at_)))),(12,Bo true),(13,Bo true),(14,undef),(15,undef),(16,undef),(17,undef),(18,undef),(19,undef),(20,Bo true),(21,Bo true)] (KA [] [(0,0),(2,0),(3,0),(4,2),(5,0),(6,0),(7,0),(13,0),(14,1),(15,1),(16,1),(17,1),(18,1),(19,1),(20,0),(21,0)] [1,8,9,10,11,12] [(3,Pt b1 0),(9,Sr ((JI r).1)),(10,Bo ((JI r).2.1)),(27,Bo true)] (List.forall_mem_cons.2 ⟨?_,(List.forall_mem_cons.2 ⟨?_,(List.forall_mem_cons.2 ⟨?_,(List.forall_mem_cons.2 ⟨?_,(List.forall_mem_cons.2 ⟨?_,(List.forall_mem_cons.2 ⟨?_,List.forall_mem_nil _⟩)⟩)⟩)⟩)⟩)⟩) ?_))
 refine Jr 1 29 (Bo false) [(28,I ((JI r).2.2))] (fun X=>?_)
 exact K6 29 (Bo (!decide ((JI r).2.2=0))) (Bo false) (by rw [h2]) Jp
 refine Jr 8 36 (I ((l.length-1:Nat):Int)) [(30,Bo false),(35,I (l.length:Int))] (fun X=>?_)
 exact K6 36 (I (IntKind.i64.wrap ((l.length:Int)-1))) (I ((l.length-1:Nat):Int)) (by simp only [e2]) Jp
 refine Jr 9 37 (Pt b3 (o1+(l.length-1)*4)) [(30,Bo false),(33,Sl (At b3 o1) l.length c_l),(36,I ((l.length-1:Nat):Int))] (fun X=>?_)
 exact Kh (b:=b3) (off:=o1) (len:=l.length) (cap:=c_l) (ik:=.i64) 37 50 4 (l.length-1) (by (have q_:=(Z8 ‹_›).1;have q1_:=q_.len1;have q2_:=q_.len;omega)) Jp
 refine Jr 10 38 (.agg #[I x1.epoch,U x1.root,U x1.prev,I x1.at_]) [(30,Bo false),(37,Pt b3 (o1+(l.length-1)*4))] (fun X=>?_)
 exact Ka 38 50 (cs:=[I x1.epoch,U x1.root,U x1.prev,I x1.at_]) 0 (.agg #[I x1.epoch,U x1.root,U x1.prev,I x1.at_]) hc1 Jp
 refine Jr 11 39 (Bo (!(decide (r.head.epoch=x1.epoch) && decide (r.head.root=x1.root) && decide (r.head.prev=x1.prev) && decide (r.head.at_=x1.at_)))) [(30,Bo false),(32,.agg #[I r.head.epoch,U r.head.root,U r.head.prev,I r.head.at_]),(38,.agg #[I x1.epoch,U x1.root,U x1.prev,I x1.at_])] (fun X=>?_)
 exact JbQ 39 (Bo (!(decide (r.head.epoch=x1.epoch) && (decide (r.head.root=x1.root) && (decide (r.head.prev=x1.prev) && (decide (r.head.at_=x1.at_) && true)))))) (Bo (!(decide (r.head.epoch=x1.epoch) && decide (r.head.root=x1.root) && decide (r.head.prev=x1.prev) && decide (r.head.at_=x1.at_)))) (by simp [Za,Bool.and_assoc]) Jp
 refine Jr 12 40 (Bo true) [(30,Bo false),(39,Bo (!(decide (r.head.epoch=x1.epoch) && decide (r.head.root=x1.root) && decide (r.head.prev=x1.prev) && decide (r.head.at_=x1.at_))))] (fun X=>?_)
 exact K6 40 (Bo (!(decide (r.head.epoch=x1.epoch) && decide (r.head.root=x1.root) && decide (r.head.prev=x1.prev) && decide (r.head.at_=x1.at_)))) (Bo true) (by rw [h3]) Jp
 refine Ja (JZ (Jg [0,0] [(6,I 4),(7,I 0)] (Jk (Js (Jh (Jl [0,0] [I 4,I 0] (Jv hl1 ?_)))))))
 have hf_:(JH o l r)=(4,0):=by
  exact Jf7 ‹_› (.inl (.inr ⟨_,hx1,by assumption⟩))
 · (try rw [hf_]);(simp only [JL];done)
 have h3d:=h3
 try simp only [BB] at h3d
 have e3:IntKind.i64.wrap ((l.length:Int)-1)=((l.length-1:Nat):Int):=(IntWalk.i64_in _ (by (have q_:=(Z8 ‹_›).1;have q1_:=q_.len1;have q2_:=q_.len;omega))).trans (show (l.length:Int)-1=((l.length-1:Nat):Int) by (have q_:=(Z8 ‹_›).1;have q1_:=q_.len1;have q2_:=q_.len;omega))
 refine KB [] (Wr [(0,I ((JI r).2.2)),(1,Bo false),(2,Bo false),(3,Pt b2 0),(4,.agg #[I r.head.epoch,U r.head.root,U r.head.prev,I r.head.at_]),(5,Sl (At b3 o1) l.length c_l),(6,Sl (At b3 o1) l.length c_l),(7,I (l.length:Int)),(8,I ((l.length-1:Nat):Int)),(9,Pt b3 (o1+(l.length-1)*4)),(10,.agg #[I x1.epoch,U x1.root,U x1.prev,I x1.at_]),(11,Bo (!(decide (r.head.epoch=x1.epoch) && decide (r.head.root=x1.root) && decide (r.head.prev=x1.prev) && decide (r.head.at_=x1.at_)))),(12,Bo false),(13,Bo false),(14,Pt b2 4),(15,Pt b2 4),(16,Sr r.proof.name),(17,Pt b1 0),(18,Sr o.name),(19,Bo (!((B r.proof.name).toList == (B o.name).toList))),(20,Bo (!((B r.proof.name).toList == (B o.name).toList))),(21,Bo (!((B r.proof.name).toList == (B o.name).toList)))] (KA [] [(0,0),(2,0),(3,0),(4,2),(5,0),(6,0),(7,0),(13,0),(14,0),(15,0),(16,2),(17,0),(18,4),(19,0),(20,0),(21,0)] [1,8,9,10,11,12] [(3,Pt b1 0),(9,Sr ((JI r).1)),(10,Bo ((JI r).2.1)),(27,Bo (!((B r.proof.name).toList == (B o.name).toList)))] (List.forall_mem_cons.2 ⟨?_,(List.forall_mem_cons.2 ⟨?_,(List.forall_mem_cons.2 ⟨?_,(List.forall_mem_cons.2 ⟨?_,(List.forall_mem_cons.2 ⟨?_,(List.forall_mem_cons.2 ⟨?_,List.forall_mem_nil _⟩)⟩)⟩)⟩)⟩)⟩) ?_))
 refine Jr 1 29 (Bo false) [(28,I ((JI r).2.2))] (fun X=>?_)
 exact K6 29 (Bo (!decide ((JI r).2.2=0))) (Bo false) (by rw [h2]) Jp
 refine Jr 8 36 (I ((l.length-1:Nat):Int)) [(30,Bo false),(35,I (l.length:Int))] (fun X=>?_)
 exact K6 36 (I (IntKind.i64.wrap ((l.length:Int)-1))) (I ((l.length-1:Nat):Int)) (by simp only [e3]) Jp
 refine Jr 9 37 (Pt b3 (o1+(l.length-1)*4)) [(30,Bo false),(33,Sl (At b3 o1) l.length c_l),(36,I ((l.length-1:Nat):Int))] (fun X=>?_)
 exact Kh (b:=b3) (off:=o1) (len:=l.length) (cap:=c_l) (ik:=.i64) 37 50 4 (l.length-1) (by (have q_:=(Z8 ‹_›).1;have q1_:=q_.len1;have q2_:=q_.len;omega)) Jp
 refine Jr 10 38 (.agg #[I x1.epoch,U x1.root,U x1.prev,I x1.at_]) [(30,Bo false),(37,Pt b3 (o1+(l.length-1)*4))] (fun X=>?_)
 exact Ka 38 50 (cs:=[I x1.epoch,U x1.root,U x1.prev,I x1.at_]) 0 (.agg #[I x1.epoch,U x1.root,U x1.prev,I x1.at_]) hc1 Jp
 refine Jr 11 39 (Bo (!(decide (r.head.epoch=x1.epoch) && decide (r.head.root=x1.root) && decide (r.head.prev=x1.prev) && decide (r.head.at_=x1.at_)))) [(30,Bo false),(32,.agg #[I r.head.epoch,U r.head.root,U r.head.prev,I r.head.at_]),(38,.agg #[I x1.epoch,U x1.root,U x1.prev,I x1.at_])] (fun X=>?_)
 exact JbQ 39 (Bo (!(decide (r.head.epoch=x1.epoch) && (decide (r.head.root=x1.root) && (decide (r.head.prev=x1.prev) && (decide (r.head.at_=x1.at_) && true)))))) (Bo (!(decide (r.head.epoch=x1.epoch) && decide (r.head.root=x1.root) && decide (r.head.prev=x1.prev) && decide (r.head.at_=x1.at_)))) (by simp [Za,Bool.and_assoc]) Jp
 refine Jr 12 40 (Bo false) [(30,Bo false),(39,Bo (!(decide (r.head.epoch=x1.epoch) && decide (r.head.root=x1.root) && decide (r.head.prev=x1.prev) && decide (r.head.at_=x1.at_))))] (fun X=>?_)
 exact K6 40 (Bo (!(decide (r.head.epoch=x1.epoch) && decide (r.head.root=x1.root) && decide (r.head.prev=x1.prev) && decide (r.head.at_=x1.at_)))) (Bo false) (by rw [h3]) Jp
 refine JcU (fr':=[(3,Pt b1 0),(9,Sr ((JI r).1)),(10,Bo ((JI r).2.1)),(27,Bo (!(r.proof.name == o.name)))]) (L':=[[Sg b2 0 (WV r a2 c2 a3 c3)],[Sg b1 0 (Kv o a1 c1)]]) (by simp only [Za]) (by rfl) (Ja (Jo (!(r.proof.name == o.name)) (fun h4=>?_) (fun h4=>?_)))
 try simp only [BB] at h4
 refine Jg [0,0] [(6,I 4),(7,I 0)] (Jk (Js (Jh (Jl [0,0] [I 4,I 0] (Jv hl1 ?_)))))
 have hf_:(JH o l r)=(4,0):=by
  exact Jf7 ‹_› (.inr ‹_›)
 · (try rw [hf_]);(simp only [JL];done)
 try simp only [BB] at h4
 refine Je (Jb (Jd [0,0,0] [(3,Pt b1 0),(9,Sr ((JI r).1)),(10,Bo ((JI r).2.1)),(52,Bo (!((JI r).2.1)))] (KD (!((JI r).2.1)) (fun bb=>[(3,Pt b1 0),(9,Sr ((JI r).1)),(10,Bo ((JI r).2.1)),(52,Bo bb)]) [0,4,0,0] [1,1,1,0] (fun bb=>[(3,Pt b1 0),(9,Sr ((JI r).1)),(10,Bo ((JI r).2.1)),(56,Bo (bb && (decide (o.had > 0))))]) (Jd [0] [(3,Pt b1 0),(9,Sr ((JI r).1)),(10,Bo ((JI r).2.1)),(49,Bo ((!((JI r).2.1)) && (decide (o.had > 0))))] (Jc (Ja (Jo ((!((JI r).2.1)) && (decide (o.had > 0))) (fun h5=>?_) (fun h5=>?_))))))))
 try simp only [BB] at h5
 refine Jg [0,0] [(6,I 5),(7,I 0)] (Jk (Js (Jh (Jl [0,0] [I 5,I 0] (Jv hl1 ?_)))))
 have hf_:(JH o l r)=(5,0):=by
  (rw [JdB ‹_› ‹_› hx1 ‹_› ‹_›];(rw [if_pos ‹_›];done))
 · (try rw [hf_]);(simp only [JL];done)
 try simp only [BB] at h5
 refine Jg [0,0,0] [(3,Pt b1 0),(9,Sr ((JI r).1)),(57,Bo (!((JI r).2.1)))] (Jo (!((JI r).2.1)) (fun h6=>?_) (fun h6=>?_))
 try simp only [BB] at h6
 refine Jg [0,0] [(6,I 0),(7,I 0)] (Jk (Js (Jh (Jl [0,0] [I 0,I 0] (Jv hl1 ?_)))))
 have hf_:(JH o l r)=(0,0):=by
  (rw [JdB ‹_› ‹_› hx1 ‹_› ‹_›];(rw [if_neg (by simp_all)];(rw [if_pos ‹_›];done)))
 · (try rw [hf_]);(simp only [JL];done)
 try simp only [BB] at h6
 refine Jm (JM (Ja (Jg [0,4,0,0,0] [(3,Pt b1 0),(9,Sr ((JI r).1)),(12,I (if 0 > (IntKind.i64.wrap (o.had-1)) then 0 else (IntKind.i64.wrap (o.had-1))))] ?_)))
 have e4:IntKind.i64.wrap (o.had-1)=o.had-1:=IntWalk.i64_in _ (by (have q_:=KZ.1 ho;omega))
 refine KQ (fr':=[(3,Pt b1 0),(9,Sr ((JI r).1)),(12,I (if 0 > (o.had-1) then 0 else (o.had-1)))]) (L':=[[Sg b2 0 [I r.head.epoch,U r.head.root,U r.head.prev,I r.head.at_,Sr r.proof.name,Sl a2 r.proof.entries.length c2,Sl a3 r.proof.sides.length c3]],[Sg b1 0 [Sr o.name,U o.key,I o.head.epoch,U o.head.root,U o.head.prev,I o.head.at_,Sl a1 o.wanted.length c1,I o.had]]]) (by simp only [Kv,WV,Ko,WD,e4];first | done | rfl) (by rfl) ?_
 clear e4
 refine Je (Jb (Jd [0,4,0] [(9,Sr ((JI r).1)),(12,I (if 0 > (o.had-1) then 0 else (o.had-1))),(65,Sl a1 o.wanted.length c1),(66,I (if 0 > (o.had-1) then 0 else (o.had-1)))] ?_))
 obtain ⟨kn1,hkn1⟩:∃ k_:Nat,(if 0 > (o.had-1) then 0 else (o.had-1))=(k_:Int):=⟨(if 0 > (o.had-1) then 0 else (o.had-1)).toNat,by omega⟩
 have e5:(if 0 > (o.had-1) then 0 else (o.had-1))=(kn1:Int):=hkn1
 refine Jd [] [(9,Sr ((JI r).1)),(12,I (if 0 > (o.had-1) then 0 else (o.had-1))),(65,Sl a1 o.wanted.length c1),(66,I (if 0 > (o.had-1) then 0 else (o.had-1)))] (J3 (fr':=[(9,Sr ((JI r).1)),(12,I (kn1:Int)),(65,Sl a1 o.wanted.length c1),(66,I (kn1:Int))]) (L':=[[Sg b2 0 [I r.head.epoch,U r.head.root,U r.head.prev,I r.head.at_,Sr r.proof.name,Sl a2 r.proof.entries.length c2,Sl a3 r.proof.sides.length c3]],[Sg b1 0 [Sr o.name,U o.key,I o.head.epoch,U o.head.root,U o.head.prev,I o.head.at_,Sl a1 o.wanted.length c1,I o.had]]]) (by (simp only [Kv,WV,Ko,WD,e5];first | done | rfl)) (by rfl) ?_)
 obtain ⟨a4,c4,ea1,ec1,en1,eh1,hs4⟩:=RS.reslXD (hs1.mono hl1) kn1 (by (have q_:=KZ.1 ho;omega))
 refine W3 (a:=a1) (len:=o.wanted.length) (cap:=c1) 67 1 (some (I (kn1:Int))) none kn1 o.wanted.length (.inr ⟨_,rfl⟩) (.inl ⟨rfl,rfl⟩) (by (have q_:=KZ.1 ho;omega)) ea1 ec1 en1 eh1 (Jd [0] [(12,I (kn1:Int)),(67,Sl a4 ((o.wanted.drop kn1).length) c4),(68,Sr ((JI r).1))] (Ji 69 (I (K9 (fun x=>decide ((JI r).1=x)) (o.wanted.drop kn1))) (JiS G1 a4 c4 (o.wanted.drop kn1) hs4 ((JI r).1)) (Jd [0] [(12,I (kn1:Int)),(13,I (K9 (fun x=>decide ((JI r).1=x)) (o.wanted.drop kn1)))] (Jc (Ja (Je (Jg [0,0] [(12,I (kn1:Int)),(13,I (K9 (fun x=>decide ((JI r).1=x)) (o.wanted.drop kn1))),(71,Bo (decide (K9 (fun x=>decide ((JI r).1=x)) (o.wanted.drop kn1)<0)))] (Jo (decide (K9 (fun x=>decide ((JI r).1=x)) (o.wanted.drop kn1)<0)) (fun h7=>?_) (fun h7=>?_)))))))))
 try simp only [BB] at h7
 refine Jg [0,0] [(6,I 6),(7,I 0)] (Jk (Jh (Jl [0,0] [I 6,I 0] (Jv hl1 ?_))))
 have hf_:(JH o l r)=(6,0):=by
  (rw [JdB ‹_› ‹_› hx1 ‹_› ‹_›];(rw [if_neg (by simp_all)];(rw [if_neg (by simp_all)];obtain ⟨q1_,q2_⟩:=Jhc (JI r).1 hkn1;rw [q1_,q2_];(rw [if_pos ‹_›];done))))
 · (try rw [hf_]);(simp only [JL];done)
 try simp only [BB] at h7
 refine Jm (Ja (Jg [0,0,0,0,0,0] [(6,I 0),(7,I (IntKind.i64.wrap ((IntKind.i64.wrap ((kn1:Int)+(K9 (fun x=>decide ((JI r).1=x)) (o.wanted.drop kn1))))+1)))] ?_))
 have e6:IntKind.i64.wrap ((kn1:Int)+(K9 (fun x=>decide ((JI r).1=x)) (o.wanted.drop kn1)))=(kn1:Int)+(K9 (fun x=>decide ((JI r).1=x)) (o.wanted.drop kn1)):=IntWalk.i64_in _ (by (have q_:=KZ.1 ho;have q1_:=Ji2 (fun x=>decide ((JI r).1=x)) (o.wanted.drop kn1);rw [List.length_drop] at q1_;omega))
 have e7:IntKind.i64.wrap (((kn1:Int)+(K9 (fun x=>decide ((JI r).1=x)) (o.wanted.drop kn1)))+1)=((kn1:Int)+(K9 (fun x=>decide ((JI r).1=x)) (o.wanted.drop kn1)))+1:=IntWalk.i64_in _ (by (have q_:=KZ.1 ho;have q1_:=Ji2 (fun x=>decide ((JI r).1=x)) (o.wanted.drop kn1);rw [List.length_drop] at q1_;omega))
 refine KQ (fr':=[(6,I 0),(7,I (((kn1:Int)+(K9 (fun x=>decide ((JI r).1=x)) (o.wanted.drop kn1)))+1))]) (L':=[[Sg b2 0 [I r.head.epoch,U r.head.root,U r.head.prev,I r.head.at_,Sr r.proof.name,Sl a2 r.proof.entries.length c2,Sl a3 r.proof.sides.length c3]],[Sg b1 0 [Sr o.name,U o.key,I o.head.epoch,U o.head.root,U o.head.prev,I o.head.at_,Sl a1 o.wanted.length c1,I o.had]]]) (by simp only [Kv,WV,Ko,WD,e6,e7];first | done | rfl) (by rfl) ?_
 clear e7 e6
 refine Jk (Jl [0,0] [I 0,I (((kn1:Int)+(K9 (fun x=>decide ((JI r).1=x)) (o.wanted.drop kn1)))+1)] (Jv hl1 ?_))
 have hf_:(JH o l r)=(0,(((kn1:Int)+(K9 (fun x=>decide ((JI r).1=x)) (o.wanted.drop kn1)))+1)):=by
  (rw [JdB ‹_› ‹_› hx1 ‹_› ‹_›];(rw [if_neg (by simp_all)];(rw [if_neg (by simp_all)];obtain ⟨q1_,q2_⟩:=Jhc (JI r).1 hkn1;rw [q1_,q2_];(rw [if_neg (by omega)];done))))
 · (try rw [hf_]);(simp only [JL];done)
theorem Jb7 (G:Jt) (vs_o:List Value) (o:KP) (h_o:QO.R G vs_o o) (a_l:Option Addr) (c_l:Nat) (l:List JR) (h_l:RS KE G a_l c_l l) (vs_r:List Value) (r:WC) (h_r:JhL.R G vs_r r) :QF Tryz.prog 152 #[.agg vs_o.toArray,Sl a_l l.length c_l,.agg vs_r.toArray] G [] (fun u G' L'=>∃ (a1:Option Addr) (c2:Nat),u=.tuple #[.agg #[Sr (((Jx o l r).1).name),U (((Jx o l r).1).key),I (((Jx o l r).1).head.epoch),U (((Jx o l r).1).head.root),U (((Jx o l r).1).head.prev),I (((Jx o l r).1).head.at_),Sl a1 ((((Jx o l r).1).wanted).length) c2,I (((Jx o l r).1).had)],I ((Jx o l r).2.1),I ((Jx o l r).2.2)]∧((((Jx o l r).1).name).length≤140737488351232)∧(rU (((Jx o l r).1).key))∧(rI (((Jx o l r).1).head.epoch))∧(rU (((Jx o l r).1).head.root))∧(rU (((Jx o l r).1).head.prev))∧(rI (((Jx o l r).1).head.at_))∧(RS ES G' a1 c2 (((Jx o l r).1).wanted))∧(rI (((Jx o l r).1).had))∧L'=[]):=by
 obtain ⟨a1,c1,rfl,w1,w2,w3,w4,w5,w6,hs1,w7⟩:=h_o
 obtain ⟨a2,c2,a3,c3,rfl,w8,w9,w10,w11,w12,hs2,hs3⟩:=h_r
 refine JJ Tryz.func152 36 [(0,(Ko o a1 c1)),(1,Sl a_l l.length c_l),(2,(WD r a2 c2 a3 c3))] rfl (fun w0 G0=>?_)
 refine Je (Jb (Ju 3 #[Sr o.name,U o.key,I o.head.epoch,U o.head.root,U o.head.prev,I o.head.at_,Sl a1 o.wanted.length c1,I o.had] 52 (fun b1=>Ju 5 #[I r.head.epoch,U r.head.root,U r.head.prev,I r.head.at_,Sr r.proof.name,Sl a2 r.proof.entries.length c2,Sl a3 r.proof.sides.length c3] 70 (fun b2=>Ju 6 #[Sr ([]),U 0,I 0,U 0,U 0,I 0,Sl none 0 0,I 0] 52 (fun b3=>Jd [0,0] [(1,Sl a_l l.length c_l),(3,Pt b1 0),(5,Pt b2 0),(6,Pt b3 0)] (Jc (Ja (Je (Je (Jb (Jd [6] [(1,Sl a_l l.length c_l),(3,Pt b1 0),(5,Pt b2 0),(6,Pt b3 0),(12,(Ko o a1 c1))] (Ji 13 (I (J5 o)) (VM G (Kv o a1 c1) o (⟨a1,c1,rfl,w1,w2,w3,w4,w5,w6,hs1,w7⟩)) (Jd [0] [(1,Sl a_l l.length c_l),(3,Pt b1 0),(5,Pt b2 0),(6,Pt b3 0),(9,I (J5 o))] (Jc (Ja (Jg [0,0] [(1,Sl a_l l.length c_l),(3,Pt b1 0),(5,Pt b2 0),(6,Pt b3 0),(9,I (J5 o)),(15,Bo (!decide (J5 o=0)))] (Jo (!decide (J5 o=0)) (fun h1=>?_) (fun h1=>?_))))))))))))))))))
 try simp only [BB] at h1
 refine Jg [0,0,3,0,0] [(6,Pt b3 0),(7,I 0),(8,I (J5 o))] (Jk (Jh ?_))
 have hf1:Jx o l r=((⟨[],0,(⟨0,0,0,0⟩:JR),[],0⟩:KP),0,J5 o):=by
  unfold Jx Y2 WY;simp_all
 refine Jl [0,0,0] [.agg #[Sr ([]),U 0,I 0,U 0,U 0,I 0,Sl none 0 0,I 0],I 0,I (J5 o)] (JY [] (.cons _ (.cons _ (.cons _ .slnil))) (Jt.le_refl _) ?_)
 rw [hf1]
 try dsimp only
 exact ⟨none,0,rfl,(Nat.le_of_ble_eq_true rfl),(by omega),(by omega),(by omega),(by omega),(by omega),(RS.nil' ES G),(by omega),rfl⟩
 try simp only [BB] at h1
 refine Jm (Ja (Je (Jb (Jd [6] [(1,Sl a_l l.length c_l),(3,Pt b1 0),(5,Pt b2 0),(6,Pt b3 0),(18,(Ko o a1 c1))] (JQ 19 (Jhe G (Kv o a1 c1) o (⟨a1,c1,rfl,w1,w2,w3,w4,w5,w6,hs1,w7⟩)) (fun v G1 L1 hl1 hp=>?_))))))
 obtain ⟨a4,c4,rfl,w13,w14,w15,w16,w17,w18,hs4,w19,rfl⟩:=hp
 refine Kd [7] [(1,Sl a_l l.length c_l),(3,Pt b1 0),(5,Pt b2 0),(6,Pt b3 0)] [[Sg b3 0 [Sr ([]),U 0,I 0,U 0,U 0,I 0,Sl none 0 0,I 0]],[Sg b2 0 (WV r a2 c2 a3 c3)],[Sg b1 0 (Kv o a4 c4)]] (Jc (Ja (Je (Jb (Jd [6,0,4] [(3,Pt b1 0),(5,Pt b2 0),(6,Pt b3 0),(21,(Ko o a4 c4)),(22,Sl a_l l.length c_l),(23,(WD r a2 c2 a3 c3))] (Ji 24 (.tuple #[I ((JH o l r).1),I ((JH o l r).2)]) (JcF G1 (Kv o a4 c4) o (⟨a4,c4,rfl,w13,w14,w15,w16,w17,w18,hs4,w19⟩) a_l c_l l (h_l.mono hl1) (WV r a2 c2 a3 c3) r (⟨a2,c2,a3,c3,rfl,w8,w9,w10,w11,w12,(hs2.mono hl1),(hs3.mono hl1)⟩) ‹_›) (Jd [0,0,0,0,0] [(3,Pt b1 0),(5,Pt b2 0),(6,Pt b3 0),(10,I ((JH o l r).1)),(11,I ((JH o l r).2))] (Jc (Ja (Je (Jg [0,0] [(3,Pt b1 0),(5,Pt b2 0),(6,Pt b3 0),(10,I ((JH o l r).1)),(11,I ((JH o l r).2)),(28,Bo (decide ((JH o l r).1=0)))] (Jo (decide ((JH o l r).1=0)) (fun h2=>?_) (fun h2=>?_)))))))))))))
 try simp only [BB] at h2
 refine Jb (Kd [0,4,0,0,7,0,7] [(3,Pt b1 0),(6,Pt b3 0),(10,I ((JH o l r).1))] [[Sg b3 0 [Sr ([]),U 0,I 0,U 0,U 0,I 0,Sl none 0 0,I 0]],[Sg b2 0 (WV r a2 c2 a3 c3)],[Sg b1 0 [Sr o.name,U o.key,I r.head.epoch,U r.head.root,U r.head.prev,I r.head.at_,Sl a4 o.wanted.length c4,I ((JH o l r).2)]]] (Jc (Ja (WM [6,0,3,0,0] [(6,Pt b3 0),(7,I ((JH o l r).1)),(8,I 0)] [[Sg b3 0 [Sr o.name,U o.key,I r.head.epoch,U r.head.root,U r.head.prev,I r.head.at_,Sl a4 o.wanted.length c4,I ((JH o l r).2)]],[Sg b2 0 (WV r a2 c2 a3 c3)],[Sg b1 0 [Sr o.name,U o.key,I r.head.epoch,U r.head.root,U r.head.prev,I r.head.at_,Sl a4 o.wanted.length c4,I ((JH o l r).2)]]] (Jk ?_)))))
 have hf2:Jx o l r=((⟨o.name,o.key,r.head,o.wanted,(JH o l r).2⟩:KP),(JH o l r).1,0):=by
  unfold Jx Y2 WY;simp_all
 refine Jl [0,0,0] [.agg #[Sr o.name,U o.key,I r.head.epoch,U r.head.root,U r.head.prev,I r.head.at_,Sl a4 o.wanted.length c4,I ((JH o l r).2)],I ((JH o l r).1),I 0] (JY [] (.cons _ (.cons _ (.cons _ .slnil))) hl1 ?_)
 rw [hf2]
 try dsimp only
 exact ⟨a4,c4,rfl,w13,w14,w8,w9,w10,w11,hs4,(by (have q_:=Jb5 ‹_› ‹_›;have q1_:=KZ.1 ‹_›;omega)),rfl⟩
 try simp only [BB] at h2
 refine Jm (Ja (WM [6,0,3,0,0] [(6,Pt b3 0),(7,I ((JH o l r).1)),(8,I 0)] [[Sg b3 0 (Kv o a4 c4)],[Sg b2 0 (WV r a2 c2 a3 c3)],[Sg b1 0 (Kv o a4 c4)]] (Jk ?_)))
 have hf3:Jx o l r=(o,(JH o l r).1,0):=by
  unfold Jx Y2 WY;simp_all
 refine Jl [0,0,0] [(Ko o a4 c4),I ((JH o l r).1),I 0] (JY [] (.cons _ (.cons _ (.cons _ .slnil))) hl1 ?_)
 rw [hf3]
 try dsimp only
 exact ⟨a4,c4,rfl,w13,w14,w15,w16,w17,w18,hs4,w19,rfl⟩
end Go.Proofs.YtnnlpbjdignhaaaGreatDoor
