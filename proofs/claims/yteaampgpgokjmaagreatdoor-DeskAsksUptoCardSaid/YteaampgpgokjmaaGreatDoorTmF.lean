import Derived.Test.YteaampgpgokjmaaGreatDoorTmE
import Derived.Stop.LaidErr
set_option linter.unusedVariables false
set_option linter.unusedSimpArgs false
namespace Go.Proofs.YteaampgpgokjmaaGreatDoor
open Go.Tx
open Go.Proofs
open _root_.List renaming length_append → Ha, forall_mem_nil → Hb, mem_of_getElem? → Hc, length_cons → Hd, length_nil → Hf, length_drop → Hh, length_take → Hi, getElem?_cons_zero → Hj, getElem?_cons_succ → Hk, replicate → Hl, take_of_length_le → Ho, mem_of_mem_drop → Hp, mem_nil_iff → Hq, mem_cons → Hr, length → Hs, take_append_drop → Hw, length_map → Hx, append_nil → Hy, mem_singleton → Hz, take_add_one → HA, drop_eq_nil_of_le → HB
open _root_.Nat renaming le_of_ble_eq_true → He, le_trans → Ht, zero_le → HC, min_def → HD, min → HE
open IntKind renaming i64 → Hg
open _root_.Option renaming getD_some → Hm
open IntWalk renaming i64_in → Hn
open _root_.Int renaming toNat_natCast → Hu
open _root_.Decidable renaming not_not → Hv
def ZG (t:KD) (w:Bs):Bs×Int :=
 if ¬ (Kb (V3 w 1)).2=0 then ([],(Kb (V3 w 1)).2) else if ¬ (Jt t.setup t.deeds).2.2=0 then ([],(Jt t.setup t.deeds).2.2)
 else if ¬ (JL (Jt t.setup t.deeds).1.clerk (V3 w 0) (Kb (V3 w 1)).1).2=0 then ([],(JL (Jt t.setup t.deeds).1.clerk (V3 w 0) (Kb (V3 w 1)).1).2)
 else if ¬ (JG (JL (Jt t.setup t.deeds).1.clerk (V3 w 0) (Kb (V3 w 1)).1).1).2.2=0 then ([],(JG (JL (Jt t.setup t.deeds).1.clerk (V3 w 0) (Kb (V3 w 1)).1).1).2.2)
 else if (JG (JL (Jt t.setup t.deeds).1.clerk (V3 w 0) (Kb (V3 w 1)).1).1).2.1=false then ([[45]],0) else ([[43],(JG (JL (Jt t.setup t.deeds).1.clerk (V3 w 0) (Kb (V3 w 1)).1).1).1],0)
section
variable {t:KD} {w:Bs} {x y:Bb}
theorem Jp7 (h:w[1]? = some y) (h1:¬ (Kb y).2=0):(ZG t w).2=(Kb y).2:=by unfold ZG;rw [← Q2 h,if_pos h1]
theorem Jp8 (h:w[1]? = some y) (h1:(Kb y).2=0) (h2:¬ (Jt t.setup t.deeds).2.2=0):(ZG t w).2=(Jt t.setup t.deeds).2.2:=by unfold ZG;rw [← Q2 h,if_neg (by omega),if_pos h2]
theorem Jp9 (h:w[1]? = some y) (h0:w[0]? = some x) (h1:(Kb y).2=0) (h2:(Jt t.setup t.deeds).2.2=0) (h3:¬ (JL (Jt t.setup t.deeds).1.clerk x (Kb y).1).2=0):(ZG t w).2=(JL (Jt t.setup t.deeds).1.clerk x (Kb y).1).2:=by
 unfold ZG;rw [← Q2 h,← Q2 h0,if_neg (by omega),if_neg (by omega),if_pos h3]
theorem Jqa (h:w[1]? = some y) (h0:w[0]? = some x) (h1:(Kb y).2=0) (h2:(Jt t.setup t.deeds).2.2=0) (h3:(JL (Jt t.setup t.deeds).1.clerk x (Kb y).1).2=0) (h4:¬ (JG (JL (Jt t.setup t.deeds).1.clerk x (Kb y).1).1).2.2=0) :
  (ZG t w).2=(JG (JL (Jt t.setup t.deeds).1.clerk x (Kb y).1).1).2.2:=by
 unfold ZG;rw [← Q2 h,← Q2 h0,if_neg (by omega),if_neg (by omega),if_neg (by omega),if_pos h4]
theorem Jqb (h:w[1]? = some y) (h0:w[0]? = some x) (h1:(Kb y).2=0) (h2:(Jt t.setup t.deeds).2.2=0) (h3:(JL (Jt t.setup t.deeds).1.clerk x (Kb y).1).2=0) (h4:(JG (JL (Jt t.setup t.deeds).1.clerk x (Kb y).1).1).2.2=0)
  (h5:(JG (JL (Jt t.setup t.deeds).1.clerk x (Kb y).1).1).2.1=false):ZG t w=([[45]],0):=by
 unfold ZG;rw [← Q2 h,← Q2 h0,if_neg (by omega),if_neg (by omega),if_neg (by omega),if_neg (by omega),if_pos h5]
theorem Jqc (h:w[1]? = some y) (h0:w[0]? = some x) (h1:(Kb y).2=0) (h2:(Jt t.setup t.deeds).2.2=0) (h3:(JL (Jt t.setup t.deeds).1.clerk x (Kb y).1).2=0) (h4:(JG (JL (Jt t.setup t.deeds).1.clerk x (Kb y).1).1).2.2=0)
  (h5:(JG (JL (Jt t.setup t.deeds).1.clerk x (Kb y).1).1).2.1=true):ZG t w=([[43],(JG (JL (Jt t.setup t.deeds).1.clerk x (Kb y).1).1).1],0):=by
 unfold ZG;rw [← Q2 h,← Q2 h0,if_neg (by omega),if_neg (by omega),if_neg (by omega),if_neg (by omega),if_neg (by rw [h5];simp)]
end
def Vz (t:KD) (w:Bs):Bs×Int :=
 if ¬ (Jt t.setup t.deeds).2.2=0 then ([],(Jt t.setup t.deeds).2.2) else if ¬ (Kw (W9 (Jt t.setup t.deeds).1.clerk.heads)).2=0 then ([],(Kw (W9 (Jt t.setup t.deeds).1.clerk.heads)).2)
 else ([Lib.itoa (Kw (W9 (Jt t.setup t.deeds).1.clerk.heads)).1],0)
section
variable {t:KD} {w:Bs} {x:JX} {k:Nat}
theorem Jqd (h:¬ (Jt t.setup t.deeds).2.2=0):(Vz t w).2=(Jt t.setup t.deeds).2.2:=by unfold Vz;rw [if_pos h]
theorem Jqe (h:(Jt t.setup t.deeds).2.2=0) (hx:(Jt t.setup t.deeds).1.clerk.heads[k]? = some x) (hk:k=(Jt t.setup t.deeds).1.clerk.heads.length-1) (h2:¬ (Kw x).2=0):(Vz t w).2=(Kw x).2:=by
 unfold Vz;rw [if_neg (by omega),← Wz hk hx,if_pos h2]
theorem Jqf (h:(Jt t.setup t.deeds).2.2=0) (hx:(Jt t.setup t.deeds).1.clerk.heads[k]? = some x) (hk:k=(Jt t.setup t.deeds).1.clerk.heads.length-1) (h2:(Kw x).2=0):Vz t w=([Lib.itoa (Kw x).1],0):=by
 unfold Vz;rw [if_neg (by omega),← Wz hk hx,if_neg (by omega)]
end
def Y6 (t:KD) (w:Bs):Bs×Int :=
 if ¬ (Kb (V3 w 0)).2=0 then ([],(Kb (V3 w 0)).2) else if ¬ (Jt t.setup t.deeds).2.2=0 then ([],(Jt t.setup t.deeds).2.2)
 else match (Jt t.setup t.deeds).1.owners[(Kb (V3 w 0)).1.toNat]? with
  | some o=>([o.head.epoch,o.had].map Lib.itoa,0)
  | none=>([],5)
section
variable {t:KD} {w:Bs} {y:Bb}
theorem Jqg (h:w[0]? = some y) (h1:¬ (Kb y).2=0):(Y6 t w).2=(Kb y).2:=by unfold Y6;rw [← Q2 h,if_pos h1]
theorem Jqh (h:w[0]? = some y) (h1:(Kb y).2=0) (h2:¬ (Jt t.setup t.deeds).2.2=0):(Y6 t w).2=(Jt t.setup t.deeds).2.2:=by unfold Y6;rw [← Q2 h,if_neg (by omega),if_pos h2]
theorem Jqi (h:w[0]? = some y) (h1:(Kb y).2=0) (h2:(Jt t.setup t.deeds).2.2=0) (h3:(Kb y).1 ≥ ((Jt t.setup t.deeds).1.owners.length:Int)):(Y6 t w).2=5:=by
 unfold Y6;rw [← Q2 h,if_neg (by omega),if_neg (by omega),List.getElem?_eq_none (by omega)]
theorem Jqj {k:Nat} {o:Qp} (h:w[0]? = some y) (h1:(Kb y).2=0) (h2:(Jt t.setup t.deeds).2.2=0) (hk:(Kb y).1=(k:Int)) (ho:(Jt t.setup t.deeds).1.owners[k]? = some o):Y6 t w=([o.head.epoch,o.had].map Lib.itoa,0):=by
 unfold Y6;rw [← Q2 h,if_neg (by omega),if_neg (by omega),hk,Hu,ho]
end
set_option maxRecDepth 20000 in
theorem Jnm (G:J5) (b:Nat) (t:KD) (a_0:Ba) (c_0:Nat) (a_1:Ba) (c_1:Nat) (a_9:Ba) (c_9:Nat) (r_9:Bg) (h_0:RS ES G a_0 c_0 t.setup.names) (h_1:RS EU G a_1 c_1 t.setup.keys) (h_2:rI t.setup.most) (h_3:rI t.setup.batch) (h_4:rI t.setup.every) (h_5:rI t.setup.least) (h_6:rI t.setup.top) (h_7:rI t.setup.lost) (h_8:rI t.setup.reach) (h_9:JR Wh G a_9 c_9 t.deeds r_9) (a_w:Ba) (c_w:Nat) (w:Bs) (h_w:RS ES G a_w c_w w) (hw:w.length=2) (hs:∀ s∈w,s.length≤1048576) (ht:t.deeds.length≤200):Zg Tryz.prog 86 #[Pt b 0,Sl a_w w.length c_w] G [[Sg b 0 [Sl a_0 t.setup.names.length c_0,Sl a_1 t.setup.keys.length c_1,I t.setup.most,I t.setup.batch,I t.setup.every,I t.setup.least,I t.setup.top,I t.setup.lost,I t.setup.reach,Sl a_9 t.deeds.length c_9]],r_9] (fun u G' L'=>((ZG t w).2=0)∧∃ (az1:Ba) (cz2:Nat),u=Sl az1 (((ZG t w).1).length) cz2∧(RS ES G' az1 cz2 ((ZG t w).1))∧L'=[[Sg b 0 [Sl a_0 t.setup.names.length c_0,Sl a_1 t.setup.keys.length c_1,I t.setup.most,I t.setup.batch,I t.setup.every,I t.setup.least,I t.setup.top,I t.setup.lost,I t.setup.reach,Sl a_9 t.deeds.length c_9]],r_9]) (fun u _ L'=>(¬ (ZG t w).2=0)∧u=Y5 ((ZG t w).2)∧L'=[[Sg b 0 [Sl a_0 t.setup.names.length c_0,Sl a_1 t.setup.keys.length c_1,I t.setup.most,I t.setup.batch,I t.setup.every,I t.setup.least,I t.setup.top,I t.setup.lost,I t.setup.reach,Sl a_9 t.deeds.length c_9]],r_9]):=by
 intro Lr
 refine W0 Tryz.func86 46 [(0,Pt b 0),(1,Sl a_w w.length c_w)] rfl (fun w0 G0 hT=>?_)
 show TC _ _ _ _ _ ([Sg b 0 (J3 t a_0 c_0 a_1 c_1 a_9 c_9)]::r_9::Lr)
 refine Jg [0] [] (Jf (Jd (Jb [0] [(12,Sl a_w w.length c_w)] ?_)))
 obtain ⟨b1,o1,rfl⟩:=RS.addr h_w (k:=1) (by omega)
 obtain ⟨x1,hx1⟩:=QS (l:=w) (k:=1) (by omega)
 obtain ⟨_,⟨rfl,_⟩,hc1⟩:=RS.get h_w hx1
 refine JV (b:=b1) (off:=o1) (len:=w.length) (cap:=c_w) (ik:=.i64) 13 9 1 1 J4 (JO 14 9 (cs:=[Sr x1]) 0 (Sr x1) hc1 (KG (Ls:=[]) (Lr:=([Sg b 0 (J3 t a_0 c_0 a_1 c_1 a_9 c_9)]::r_9::Lr)) 15 hT ((Yt G x1 (by have q_:=hs _ (Hc hx1);omega)).frame) (fun v G1 L1 hl1 hp=>?_) (fun v G1 L1 hl1 hp=>?_)))
 obtain ⟨hne1,rfl,rfl⟩:=hp
 refine J8 ?_
 have hp1:(ZG t w).2=(Kb x1).2:=by
  exact Jp7 ‹_› ‹_›
 refine Wt (QO (Lr:=Lr) [[Sg b 0 (J3 t a_0 c_0 a_1 c_1 a_9 c_9)],r_9] hl1 ?_)
 rw [hp1];exact ⟨hne1,rfl,rfl⟩
 obtain ⟨_,rfl,rfl⟩:=hp
 refine Jb [0] [(5,I ((Kb x1).1))] (Je (Jc (Jf (Jd (Jb [0] [(17,Pt b 0)] (Jw 1 (Jw 1 (KG (Ls:=[[Sg b 0 (J3 t a_0 c_0 a_1 c_1 a_9 c_9)],r_9]) (Lr:=Lr) 18 hT (Jbu G1 b t a_0 c_0 a_1 c_1 a_9 c_9 r_9 (h_0.mono hl1) (h_1.mono hl1) h_2 h_3 h_4 h_5 h_6 h_7 h_8 (h_9.mono hl1) ‹_›) (fun v G2 L1 hl2 hp=>?_) (fun v G2 L1 hl2 hp=>?_)))))))))
 obtain ⟨hne2,rfl,rfl⟩:=hp
 refine J8 ?_
 have hp3:(ZG t w).2=(Jt t.setup t.deeds).2.2:=by
  exact Jp8 ‹_› ‹_› ‹_›
 refine Wt (QO (Lr:=Lr) [[Sg b 0 (J3 t a_0 c_0 a_1 c_1 a_9 c_9)],r_9] (Ja hl1 hl2) ?_)
 rw [hp3];exact ⟨hne2,rfl,rfl⟩
 obtain ⟨_,a1,c1,a2,c2,a3,c3,a4,c4,a5,c5,a6,c6,a7,c7,rfl,w2,hs1,w3,w4,w5,hs2,hs3,_,_,_,_,_,rfl⟩:=hp
 refine Jb [0,0,0] [(19,(VT (Jt t.setup t.deeds).1 a1 c1 a2 c2 a3 c3 a4 c4 a5 c5 a6 c6)),(20,Sl a7 (((Jt t.setup t.deeds).2.1).length) c7)] (Jv 6 #[I 0,Sl none 0 0,I 0,I 0,I 0,Sl none 0 0,Sl none 0 0,Sl none 0 0,Sl none 0 0,I 0,Sl none 0 0] 67 (fun b2=>JW [3,0] [] ([Sg b2 0 (ZU (Jt t.setup t.deeds).1 a1 c1 a2 c2 a3 c3 a4 c4 a5 c5 a6 c6)]::[Sg b 0 (J3 t a_0 c_0 a_1 c_1 a_9 c_9)]::r_9::Lr) (Je (Jc ?_))))
 obtain ⟨x2,hx2⟩:=QS (l:=w) (k:=0) (by omega)
 obtain ⟨_,⟨rfl,w7⟩,hc2⟩:=RS.get (h_w.mono (Ja hl1 hl2)) hx2
 refine Ye (σ:=Nat×Ba×Nat×Ba×Nat×J5) (fun q_=>(J5.le G2 q_.2.2.2.2.2)∧(rI (((JL (((Jt t.setup t.deeds).1).clerk) x2 ((Kb x1).1)).1).head.epoch))∧(rU (((JL (((Jt t.setup t.deeds).1).clerk) x2 ((Kb x1).1)).1).head.root))∧(rU (((JL (((Jt t.setup t.deeds).1).clerk) x2 ((Kb x1).1)).1).head.prev))∧(rI (((JL (((Jt t.setup t.deeds).1).clerk) x2 ((Kb x1).1)).1).head.at_))∧((((JL (((Jt t.setup t.deeds).1).clerk) x2 ((Kb x1).1)).1).proof.name).length≤140737488351232)∧(RS QK q_.2.2.2.2.2 q_.2.1 q_.2.2.1 (((JL (((Jt t.setup t.deeds).1).clerk) x2 ((Kb x1).1)).1).proof.entries))∧(RS EU q_.2.2.2.2.2 q_.2.2.2.1 q_.2.2.2.2.1 (((JL (((Jt t.setup t.deeds).1).clerk) x2 ((Kb x1).1)).1).proof.sides))) (fun q_=>[(8,Pt q_.1 0),(9,I ((JL (((Jt t.setup t.deeds).1).clerk) x2 ((Kb x1).1)).2))]) (fun q_=>q_.2.2.2.2.2) (fun q_=>([Sg q_.1 0 (ZR (JL (((Jt t.setup t.deeds).1).clerk) x2 ((Kb x1).1)).1 q_.2.1 q_.2.2.1 q_.2.2.2.1 q_.2.2.2.2.1)]::[Sg b2 0 (ZU (Jt t.setup t.deeds).1 a1 c1 a2 c2 a3 c3 a4 c4 a5 c5 a6 c6)]::[Sg b 0 (J3 t a_0 c_0 a_1 c_1 a_9 c_9)]::r_9::Lr)) ?_ (fun q_ hs=>?_)
 refine Kt [6,10,11] (Wm [(0,Pt b2 0),(1,(QG (Jt t.setup t.deeds).1.clerk a1 c1 a2 c2 a3 c3)),(2,Sl (At b1 o1) w.length c_w),(3,Pt b1 (o1+0*1)),(4,Sr x2),(5,I ((Kb x1).1))] (JF [] [(0,0),(1,2),(2,0),(5,0)] [3,4] [6,10] (Kf ?_ (Kf ?_ KY)) (Kf ?_ (Kf ?_ KY))))
 refine Jr 3 25 (Pt b1 (o1+0*1)) [(24,Sl (At b1 o1) w.length c_w)] (fun X=>?_)
 exact JV (b:=b1) (off:=o1) (len:=w.length) (cap:=c_w) (ik:=.i64) 25 9 1 0 J4 Jp
 refine Jr 4 26 (Sr x2) [(25,Pt b1 (o1+0*1))] (fun X=>?_)
 exact JO 26 9 (cs:=[Sr x2]) 0 (Sr x2) hc2 Jp
 refine Jz 6 [(23,(QG (Jt t.setup t.deeds).1.clerk a1 c1 a2 c2 a3 c3)),(26,Sr x2),(27,I ((Kb x1).1))] (fun X=>?_)
 refine JN 28 (V1 G2 (KW (Jt t.setup t.deeds).1.clerk a1 c1 a2 c2 a3 c3) (((Jt t.setup t.deeds).1).clerk) (⟨a1,c1,a2,c2,a3,c3,rfl,w2,hs1,w3,w4,w5,hs2,hs3⟩) x2 w7 ((Kb x1).1) (by have q_:=YF x1;omega)) (fun v G3 L1 hl3 hp=>?_)
 obtain ⟨a8,c8,a9,c9,rfl,w8,w9,w10,w11,w12,hs8,hs9,rfl⟩:=hp
 refine JA [(6,.tuple #[(WV (JL (((Jt t.setup t.deeds).1).clerk) x2 ((Kb x1).1)).1 a8 c8 a9 c9),I ((JL (((Jt t.setup t.deeds).1).clerk) x2 ((Kb x1).1)).2)]),(7,.tuple #[(WV (JL (((Jt t.setup t.deeds).1).clerk) x2 ((Kb x1).1)).1 a8 c8 a9 c9),I ((JL (((Jt t.setup t.deeds).1).clerk) x2 ((Kb x1).1)).2)]),(8,(WV (JL (((Jt t.setup t.deeds).1).clerk) x2 ((Kb x1).1)).1 a8 c8 a9 c9)),(9,I ((JL (((Jt t.setup t.deeds).1).clerk) x2 ((Kb x1).1)).2))] (JF [0,1,2,3,4,5] [(7,0),(8,0),(9,0)] [] [10] (Hb _) (Kf ?_ KY))
 refine Jz 10 [] (fun X=>?_)
 refine Jv 8 #[I 0,U 0,U 0,I 0,Sr ([]),Sl none 0 0,Sl none 0 0] 49 (fun b3=>JA [(10,Pt b3 0)] (JF [0,1,2,3,4,5] [(7,0),(8,0),(9,0)] [] [11] (Hb _) (Kf ?_ KY)))
 refine Jz 11 [(8,Pt b3 0),(29,(WV (JL (((Jt t.setup t.deeds).1).clerk) x2 ((Kb x1).1)).1 a8 c8 a9 c9))] (fun X=>?_)
 exact KC 0 ([Sg b3 0 (ZR (JL (((Jt t.setup t.deeds).1).clerk) x2 ((Kb x1).1)).1 a8 c8 a9 c9)]::[Sg b2 0 (ZU (Jt t.setup t.deeds).1 a1 c1 a2 c2 a3 c3 a4 c4 a5 c5 a6 c6)]::[Sg b 0 (J3 t a_0 c_0 a_1 c_1 a_9 c_9)]::r_9::Lr) (J6 [(12,I ((JL (((Jt t.setup t.deeds).1).clerk) x2 ((Kb x1).1)).2))] (Kl [0,1,2,3,4,5,7,8] [(9,0),(12,0)] [] [(8,Pt b3 0),(9,I ((JL (((Jt t.setup t.deeds).1).clerk) x2 ((Kb x1).1)).2))] (Hb _) (QW (b3,a8,c8,a9,c9,G3) ⟨hl3,w8,w9,w10,w11,w12,hs8,hs9⟩)))
 refine Jz 10 [] (fun X=>?_)
 refine Jv 8 #[I 0,U 0,U 0,I 0,Sr ([]),Sl none 0 0,Sl none 0 0] 49 (fun b4=>JA [(10,Pt b4 0)] (JF [] [(0,0),(1,4),(2,0),(5,0)] [3,4] [6] (Kf ?_ (Kf ?_ KY)) (Kf ?_ KY)))
 refine Jr 3 25 (Pt b1 (o1+0*1)) [(24,Sl (At b1 o1) w.length c_w)] (fun X=>?_)
 exact JV (b:=b1) (off:=o1) (len:=w.length) (cap:=c_w) (ik:=.i64) 25 9 1 0 J4 Jp
 refine Jr 4 26 (Sr x2) [(25,Pt b1 (o1+0*1))] (fun X=>?_)
 exact JO 26 9 (cs:=[Sr x2]) 0 (Sr x2) hc2 Jp
 refine Jz 6 [(23,(QG (Jt t.setup t.deeds).1.clerk a1 c1 a2 c2 a3 c3)),(26,Sr x2),(27,I ((Kb x1).1))] (fun X=>?_)
 refine JN 28 (V1 G2 (KW (Jt t.setup t.deeds).1.clerk a1 c1 a2 c2 a3 c3) (((Jt t.setup t.deeds).1).clerk) (⟨a1,c1,a2,c2,a3,c3,rfl,w2,hs1,w3,w4,w5,hs2,hs3⟩) x2 w7 ((Kb x1).1) (by have q_:=YF x1;omega)) (fun v G4 L1 hl4 hp=>?_)
 obtain ⟨a10,c10,a11,c11,rfl,w13,w14,w15,w16,w17,hs10,hs11,rfl⟩:=hp
 refine JA [(6,.tuple #[(WV (JL (((Jt t.setup t.deeds).1).clerk) x2 ((Kb x1).1)).1 a10 c10 a11 c11),I ((JL (((Jt t.setup t.deeds).1).clerk) x2 ((Kb x1).1)).2)]),(7,.tuple #[(WV (JL (((Jt t.setup t.deeds).1).clerk) x2 ((Kb x1).1)).1 a10 c10 a11 c11),I ((JL (((Jt t.setup t.deeds).1).clerk) x2 ((Kb x1).1)).2)]),(8,(WV (JL (((Jt t.setup t.deeds).1).clerk) x2 ((Kb x1).1)).1 a10 c10 a11 c11)),(9,I ((JL (((Jt t.setup t.deeds).1).clerk) x2 ((Kb x1).1)).2))] (JF [0,1,2,3,4,5] [(7,0),(8,0),(9,0)] [] [11] (Hb _) (Kf ?_ KY))
 refine Jz 11 [(8,Pt b4 0),(29,(WV (JL (((Jt t.setup t.deeds).1).clerk) x2 ((Kb x1).1)).1 a10 c10 a11 c11))] (fun X=>?_)
 exact KC 0 ([Sg b4 0 (ZR (JL (((Jt t.setup t.deeds).1).clerk) x2 ((Kb x1).1)).1 a10 c10 a11 c11)]::[Sg b2 0 (ZU (Jt t.setup t.deeds).1 a1 c1 a2 c2 a3 c3 a4 c4 a5 c5 a6 c6)]::[Sg b 0 (J3 t a_0 c_0 a_1 c_1 a_9 c_9)]::r_9::Lr) (J6 [(12,I ((JL (((Jt t.setup t.deeds).1).clerk) x2 ((Kb x1).1)).2))] (Kl [0,1,2,3,4,5,7,8] [(9,0),(12,0)] [] [(8,Pt b4 0),(9,I ((JL (((Jt t.setup t.deeds).1).clerk) x2 ((Kb x1).1)).2))] (Hb _) (QW (b4,a10,c10,a11,c11,G4) ⟨hl4,w13,w14,w15,w16,w17,hs10,hs11⟩)))
 obtain ⟨b3,a8,c8,a9,c9,G3⟩:=q_
 obtain ⟨hle1,hj1,hj2,hj3,hj4,hj5,hj6,hj7⟩:=hs
 dsimp only at hle1 hj1 hj2 hj3 hj4 hj5 hj6 hj7
 dsimp only
 refine Jf (Jd (Jb [0] [(31,I ((JL (((Jt t.setup t.deeds).1).clerk) x2 ((Kb x1).1)).2))] (KG (Ls:=[]) (Lr:=([Sg b3 0 (ZR (JL (((Jt t.setup t.deeds).1).clerk) x2 ((Kb x1).1)).1 a8 c8 a9 c9)]::[Sg b2 0 (ZU (Jt t.setup t.deeds).1 a1 c1 a2 c2 a3 c3 a4 c4 a5 c5 a6 c6)]::[Sg b 0 (J3 t a_0 c_0 a_1 c_1 a_9 c_9)]::r_9::Lr)) 32 hT ((ZN G3 ((JL (((Jt t.setup t.deeds).1).clerk) x2 ((Kb x1).1)).2)).frame) (fun v G5 L1 hl5 hp=>?_) (fun v G5 L1 hl5 hp=>?_))))
 obtain ⟨hne3,rfl,rfl⟩:=hp
 refine J8 ?_
 have hp5:(ZG t w).2=(JL (((Jt t.setup t.deeds).1).clerk) x2 ((Kb x1).1)).2:=by
  exact Jp9 ‹_› ‹_› ‹_› ‹_› ‹_›
 refine Wt (QO (Lr:=Lr) [[Sg b 0 (J3 t a_0 c_0 a_1 c_1 a_9 c_9)],r_9] (Ja (Ja (Ja hl1 hl2) hle1) hl5) ?_)
 rw [hp5];exact ⟨hne3,rfl,rfl⟩
 obtain ⟨_,rfl,rfl⟩:=hp
 refine Je (Jc (Jf (Jd (Jb [2] [(34,(WV (JL (((Jt t.setup t.deeds).1).clerk) x2 ((Kb x1).1)).1 a8 c8 a9 c9))] (JN 35 (JcL G5 (ZR (JL (((Jt t.setup t.deeds).1).clerk) x2 ((Kb x1).1)).1 a8 c8 a9 c9) ((JL (((Jt t.setup t.deeds).1).clerk) x2 ((Kb x1).1)).1) (⟨a8,c8,a9,c9,rfl,hj1,hj2,hj3,hj4,hj5,(hj6.mono hl5),(hj7.mono hl5)⟩)) (fun v G6 L1 hl6 hp=>?_))))))
 obtain ⟨rfl,w18,rfl⟩:=hp
 refine Jb [0,0,0,0,0,0,0] [(9,I ((JG ((JL (((Jt t.setup t.deeds).1).clerk) x2 ((Kb x1).1)).1)).2.2)),(10,Sr ((JG ((JL (((Jt t.setup t.deeds).1).clerk) x2 ((Kb x1).1)).1)).1)),(11,Bo ((JG ((JL (((Jt t.setup t.deeds).1).clerk) x2 ((Kb x1).1)).1)).2.1))] (Je (Jc (Jf (Jd (Jb [0] [(39,I ((JG ((JL (((Jt t.setup t.deeds).1).clerk) x2 ((Kb x1).1)).1)).2.2))] (KG (Ls:=[]) (Lr:=([Sg b3 0 (ZR (JL (((Jt t.setup t.deeds).1).clerk) x2 ((Kb x1).1)).1 a8 c8 a9 c9)]::[Sg b2 0 (ZU (Jt t.setup t.deeds).1 a1 c1 a2 c2 a3 c3 a4 c4 a5 c5 a6 c6)]::[Sg b 0 (J3 t a_0 c_0 a_1 c_1 a_9 c_9)]::r_9::Lr)) 40 hT ((ZN G6 ((JG ((JL (((Jt t.setup t.deeds).1).clerk) x2 ((Kb x1).1)).1)).2.2)).frame) (fun v G7 L1 hl7 hp=>?_) (fun v G7 L1 hl7 hp=>?_)))))))
 obtain ⟨hne4,rfl,rfl⟩:=hp
 refine J8 ?_
 have hp7:(ZG t w).2=(JG ((JL (((Jt t.setup t.deeds).1).clerk) x2 ((Kb x1).1)).1)).2.2:=by
  exact Jqa ‹_› ‹_› ‹_› ‹_› ‹_› ‹_›
 refine Wt (QO (Lr:=Lr) [[Sg b 0 (J3 t a_0 c_0 a_1 c_1 a_9 c_9)],r_9] (Ja (Ja (Ja (Ja (Ja hl1 hl2) hle1) hl5) hl6) hl7) ?_)
 rw [hp7];exact ⟨hne4,rfl,rfl⟩
 obtain ⟨_,rfl,rfl⟩:=hp
 refine Je (Jc (Jf (Jg [0,0] [(42,Bo (!((JG ((JL (((Jt t.setup t.deeds).1).clerk) x2 ((Kb x1).1)).1)).2.1)))] (Jl (!((JG ((JL (((Jt t.setup t.deeds).1).clerk) x2 ((Kb x1).1)).1)).2.1)) (fun h1=>?_) (fun h1=>?_)))))
 refine Jf (Jd (Km 43 1 #[Sr ([45])] 9 (fun b5=>Jb [0] [(4,Sl (At b5 0) 1 1)] (Je (Jc (Jn (Jj (JdO (b:=b5) (o:=0) (cs:=[Sr ([45])]) 0 (fun G8 hl8 hz1=>?_)))))))))
 have hs12:RS ES G8 (At b5 0) 1 [[45]]:=RS.lit [[Sr ([45])]] [[45]] ⟨⟨rfl,(He rfl)⟩,trivial⟩ hz1 (He rfl) (He rfl)
 refine Jk 4 (Jk 4 ?_)
 have hf1:(ZG t w).2=0∧(ZG t w).1=[[45]]:=by
  (have q_:=Jqb (t:=t) (w:=w) ‹_› ‹_› ‹_› ‹_› ‹_› ‹_› ‹_›;rw [q_];exact ⟨rfl,rfl⟩)
 refine Jo [0] [Sl (At b5 0) 1 1] (V5 (KB (Lr:=Lr) [[Sg b 0 (J3 t a_0 c_0 a_1 c_1 a_9 c_9)],r_9] (Ja (Ja (Ja (Ja (Ja (Ja hl1 hl2) hle1) hl5) hl6) hl7) hl8) ?_))
 rw [hf1.2]
 try dsimp only
 exact ⟨hf1.1,(At b5 0),1,rfl,hs12,rfl⟩
 refine Jq (Jc (Jf (Jd (Jb [0] [(44,Sr ((JG ((JL (((Jt t.setup t.deeds).1).clerk) x2 ((Kb x1).1)).1)).1))] (Km 45 2 #[Sr ([43]),Sr ((JG ((JL (((Jt t.setup t.deeds).1).clerk) x2 ((Kb x1).1)).1)).1)] 9 (fun b6=>Jb [0] [(4,Sl (At b6 0) 2 2)] (Je (Jc (Jn (JdO (b:=b6) (o:=0) (cs:=[Sr ([43]),Sr ((JG ((JL (((Jt t.setup t.deeds).1).clerk) x2 ((Kb x1).1)).1)).1)]) 0 (fun G9 hl9 hz2=>?_)))))))))))
 have hs13:RS ES G9 (At b6 0) 2 [[43],(JG ((JL (((Jt t.setup t.deeds).1).clerk) x2 ((Kb x1).1)).1)).1]:=RS.lit [[Sr ([43])],[Sr ((JG ((JL (((Jt t.setup t.deeds).1).clerk) x2 ((Kb x1).1)).1)).1)]] [[43],(JG ((JL (((Jt t.setup t.deeds).1).clerk) x2 ((Kb x1).1)).1)).1] ⟨⟨rfl,(He rfl)⟩,⟨⟨rfl,w18⟩,trivial⟩⟩ hz2 (He rfl) (He rfl)
 refine Jk 4 (Jk 4 ?_)
 have hf2:(ZG t w).2=0∧(ZG t w).1=[[43],(JG ((JL (((Jt t.setup t.deeds).1).clerk) x2 ((Kb x1).1)).1)).1]:=by
  (have q_:=Jqc (t:=t) (w:=w) ‹_› ‹_› ‹_› ‹_› ‹_› ‹_› ‹_›;rw [q_];exact ⟨rfl,rfl⟩)
 refine Jo [0] [Sl (At b6 0) 2 2] (V5 (KB (Lr:=Lr) [[Sg b 0 (J3 t a_0 c_0 a_1 c_1 a_9 c_9)],r_9] (Ja (Ja (Ja (Ja (Ja (Ja hl1 hl2) hle1) hl5) hl6) hl7) hl9) ?_))
 rw [hf2.2]
 try dsimp only
 exact ⟨hf2.1,(At b6 0),2,rfl,hs13,rfl⟩
theorem Jnn (G:J5) (b:Nat) (t:KD) (a_0:Ba) (c_0:Nat) (a_1:Ba) (c_1:Nat) (a_9:Ba) (c_9:Nat) (r_9:Bg) (h_0:RS ES G a_0 c_0 t.setup.names) (h_1:RS EU G a_1 c_1 t.setup.keys) (h_2:rI t.setup.most) (h_3:rI t.setup.batch) (h_4:rI t.setup.every) (h_5:rI t.setup.least) (h_6:rI t.setup.top) (h_7:rI t.setup.lost) (h_8:rI t.setup.reach) (h_9:JR Wh G a_9 c_9 t.deeds r_9) (a_w:Ba) (c_w:Nat) (w:Bs) (h_w:RS ES G a_w c_w w) (hw:w.length=1) (hs:∀ s∈w,s.length≤1048576) (ht:t.deeds.length≤200):Zg Tryz.prog 88 #[Pt b 0,Sl a_w w.length c_w] G [[Sg b 0 [Sl a_0 t.setup.names.length c_0,Sl a_1 t.setup.keys.length c_1,I t.setup.most,I t.setup.batch,I t.setup.every,I t.setup.least,I t.setup.top,I t.setup.lost,I t.setup.reach,Sl a_9 t.deeds.length c_9]],r_9] (fun u G' L'=>((Y6 t w).2=0)∧∃ (az1:Ba) (cz2:Nat),u=Sl az1 (((Y6 t w).1).length) cz2∧(RS ES G' az1 cz2 ((Y6 t w).1))∧L'=[[Sg b 0 [Sl a_0 t.setup.names.length c_0,Sl a_1 t.setup.keys.length c_1,I t.setup.most,I t.setup.batch,I t.setup.every,I t.setup.least,I t.setup.top,I t.setup.lost,I t.setup.reach,Sl a_9 t.deeds.length c_9]],r_9]) (fun u _ L'=>(¬ (Y6 t w).2=0)∧u=Y5 ((Y6 t w).2)∧L'=[[Sg b 0 [Sl a_0 t.setup.names.length c_0,Sl a_1 t.setup.keys.length c_1,I t.setup.most,I t.setup.batch,I t.setup.every,I t.setup.least,I t.setup.top,I t.setup.lost,I t.setup.reach,Sl a_9 t.deeds.length c_9]],r_9]):=by
 intro Lr
 refine W0 Tryz.func88 38 [(0,Pt b 0),(1,Sl a_w w.length c_w)] rfl (fun w0 G0 hT=>?_)
 show TC _ _ _ _ _ ([Sg b 0 (J3 t a_0 c_0 a_1 c_1 a_9 c_9)]::r_9::Lr)
 refine Jg [0] [] (Jf (Jd (Jb [0] [(8,Sl a_w w.length c_w)] ?_)))
 obtain ⟨b1,o1,rfl⟩:=RS.addr h_w (k:=0) (by omega)
 obtain ⟨x1,hx1⟩:=QS (l:=w) (k:=0) (by omega)
 obtain ⟨_,⟨rfl,_⟩,hc1⟩:=RS.get h_w hx1
 refine JV (b:=b1) (off:=o1) (len:=w.length) (cap:=c_w) (ik:=.i64) 9 9 1 0 J4 (JO 10 9 (cs:=[Sr x1]) 0 (Sr x1) hc1 (KG (Ls:=[]) (Lr:=([Sg b 0 (J3 t a_0 c_0 a_1 c_1 a_9 c_9)]::r_9::Lr)) 11 hT ((Yt G x1 (by have q_:=hs _ (Hc hx1);omega)).frame) (fun v G1 L1 hl1 hp=>?_) (fun v G1 L1 hl1 hp=>?_)))
 obtain ⟨hne1,rfl,rfl⟩:=hp
 refine J8 ?_
 have hp1:(Y6 t w).2=(Kb x1).2:=by
  exact Jqg ‹_› ‹_›
 refine Wt (QO (Lr:=Lr) [[Sg b 0 (J3 t a_0 c_0 a_1 c_1 a_9 c_9)],r_9] hl1 ?_)
 rw [hp1];exact ⟨hne1,rfl,rfl⟩
 obtain ⟨_,rfl,rfl⟩:=hp
 refine Jb [0] [(5,I ((Kb x1).1))] (Je (Jc (Jf (Jd (Jb [0] [(13,Pt b 0)] (Jw 1 (Jw 1 (KG (Ls:=[[Sg b 0 (J3 t a_0 c_0 a_1 c_1 a_9 c_9)],r_9]) (Lr:=Lr) 14 hT (Jbu G1 b t a_0 c_0 a_1 c_1 a_9 c_9 r_9 (h_0.mono hl1) (h_1.mono hl1) h_2 h_3 h_4 h_5 h_6 h_7 h_8 (h_9.mono hl1) ‹_›) (fun v G2 L1 hl2 hp=>?_) (fun v G2 L1 hl2 hp=>?_)))))))))
 obtain ⟨hne2,rfl,rfl⟩:=hp
 refine J8 ?_
 have hp3:(Y6 t w).2=(Jt t.setup t.deeds).2.2:=by
  exact Jqh ‹_› ‹_› ‹_›
 refine Wt (QO (Lr:=Lr) [[Sg b 0 (J3 t a_0 c_0 a_1 c_1 a_9 c_9)],r_9] (Ja hl1 hl2) ?_)
 rw [hp3];exact ⟨hne2,rfl,rfl⟩
 obtain ⟨_,a1,c1,a2,c2,a3,c3,a4,c4,a5,c5,a6,c6,a7,c7,rfl,_,_,_,_,_,_,_,hs4,_,_,_,_,rfl⟩:=hp
 refine Jb [0,0,0] [(15,(VT (Jt t.setup t.deeds).1 a1 c1 a2 c2 a3 c3 a4 c4 a5 c5 a6 c6)),(16,Sl a7 (((Jt t.setup t.deeds).2.1).length) c7)] (Jv 6 #[I 0,Sl none 0 0,I 0,I 0,I 0,Sl none 0 0,Sl none 0 0,Sl none 0 0,Sl none 0 0,I 0,Sl none 0 0] 67 (fun b2=>JW [3,0] [] ([Sg b2 0 (ZU (Jt t.setup t.deeds).1 a1 c1 a2 c2 a3 c3 a4 c4 a5 c5 a6 c6)]::[Sg b 0 (J3 t a_0 c_0 a_1 c_1 a_9 c_9)]::r_9::Lr) (Je (Jc (Jf (Jg [0,0,2,0,0] [(21,Bo (decide ((Kb x1).1 ≥ ((((Jt t.setup t.deeds).1).owners).length:Int))))] (Jl (decide ((Kb x1).1 ≥ ((((Jt t.setup t.deeds).1).owners).length:Int))) (fun h1=>?_) (fun h1=>?_))))))))
 refine Jd (KG (Ls:=[]) (Lr:=([Sg b2 0 (ZU (Jt t.setup t.deeds).1 a1 c1 a2 c2 a3 c3 a4 c4 a5 c5 a6 c6)]::[Sg b 0 (J3 t a_0 c_0 a_1 c_1 a_9 c_9)]::r_9::Lr)) 22 hT ((ZN G2 5).frame) (fun v G3 L1 hl3 hp=>?_) (fun v G3 L1 hl3 hp=>?_))
 obtain ⟨hne3,rfl,rfl⟩:=hp
 refine J8 ?_
 have hp5:(Y6 t w).2=5:=by
  exact Jqi ‹_› ‹_› ‹_› (by omega)
 refine Wt (QO (Lr:=Lr) [[Sg b 0 (J3 t a_0 c_0 a_1 c_1 a_9 c_9)],r_9] (Ja (Ja hl1 hl2) hl3) ?_)
 rw [hp5];exact ⟨hne3,rfl,rfl⟩
 obtain ⟨he3,rfl,rfl⟩:=hp
 exact absurd he3 (by decide)
 refine Jq (Jc ?_)
 obtain ⟨kn1,hkn1⟩:∃ k_:Nat,(Kb x1).1=(k_:Int):=⟨((Kb x1).1).toNat,by (have q_:=YF x1;omega)⟩
 have e1:(Kb x1).1=(kn1:Int):=hkn1
 refine QU 5 (I (kn1:Int)) (congrArg I e1) (Jf ?_)
 obtain ⟨b3,o2,rfl⟩:=RS.addr hs4 (k:=kn1) (by omega)
 obtain ⟨x2,hx2⟩:=QS (l:=((Jt t.setup t.deeds).1).owners) (k:=kn1) (by omega)
 obtain ⟨_,⟨a8,c8,rfl,_,_,w9,_,_,_,_,w13⟩,hc2⟩:=RS.get hs4 hx2
 refine Kt [13,14] (Wm [(0,Pt b2 7),(1,Sl (At b3 o2) ((((Jt t.setup t.deeds).1).owners).length) c4),(2,I (kn1:Int)),(3,Pt b3 (o2+kn1*8)),(4,Pt b3 (o2+kn1*8+2)),(5,Pt b3 (o2+kn1*8+2)),(6,I x2.head.epoch),(7,Pt b2 7),(8,Sl (At b3 o2) ((((Jt t.setup t.deeds).1).owners).length) c4),(9,I (kn1:Int)),(10,Pt b3 (o2+kn1*8)),(11,Pt b3 (o2+kn1*8+7)),(12,I x2.had)] (JF [] [(0,0),(1,2),(2,0),(4,0),(5,0),(7,0),(8,2),(9,0),(11,0)] [3,6,10,12] [13] (Kf ?_ (Kf ?_ (Kf ?_ (Kf ?_ KY)))) (Kf ?_ KY)))
 refine Jr 3 26 (Pt b3 (o2+kn1*8)) [(24,Sl (At b3 o2) ((((Jt t.setup t.deeds).1).owners).length) c4),(25,I (kn1:Int))] (fun X=>?_)
 exact JV (b:=b3) (off:=o2) (len:=(((Jt t.setup t.deeds).1).owners).length) (cap:=c4) (ik:=.i64) 26 76 8 kn1 J4 Jp
 refine Jr 6 29 (I x2.head.epoch) [(28,Pt b3 (o2+kn1*8+2))] (fun X=>?_)
 exact JO 29 2 (cs:=(KU x2 a8 c8)) 2 (I x2.head.epoch) hc2 Jp
 refine Jr 10 33 (Pt b3 (o2+kn1*8)) [(31,Sl (At b3 o2) ((((Jt t.setup t.deeds).1).owners).length) c4),(32,I (kn1:Int))] (fun X=>?_)
 exact JV (b:=b3) (off:=o2) (len:=(((Jt t.setup t.deeds).1).owners).length) (cap:=c4) (ik:=.i64) 33 76 8 kn1 J4 Jp
 refine Jr 12 35 (I x2.had) [(34,Pt b3 (o2+kn1*8+7))] (fun X=>?_)
 exact JO 35 3 (cs:=(KU x2 a8 c8)) 7 (I x2.had) hc2 Jp
 refine Jz 13 [(29,I x2.head.epoch),(35,I x2.had)] (fun X=>?_)
 refine Km 36 2 #[I x2.head.epoch,I x2.had] 3 (fun b4=>JA [(13,Sl (At b4 0) 2 2)] (JF [0,1,2,3,4,5,6,7,8,9,10,11,12] [] [] [14] (Hb _) (Kf ?_ KY)))
 refine Jz 14 [(36,Sl (At b4 0) 2 2)] (fun X=>?_)
 refine QI (b:=b4) (o:=0) (cs:=[I x2.head.epoch,I x2.had]) 0 (fun G4 hl4 hz1=>?_)
 have hs9:RS EI G4 (At b4 0) 2 [x2.head.epoch,x2.had]:=RS.lit [[I x2.head.epoch],[I x2.had]] [x2.head.epoch,x2.had] ⟨⟨rfl,w9⟩,⟨⟨rfl,w13⟩,trivial⟩⟩ hz1 (He rfl) (He rfl)
 refine ZQ (Ls:=[]) (Lr:=([]::[Sg b2 0 (ZU (Jt t.setup t.deeds).1 a1 c1 a2 c2 a3 c3 (At b3 o2) c4 a5 c5 a6 c6)]::[Sg b 0 (J3 t a_0 c_0 a_1 c_1 a_9 c_9)]::r_9::Lr)) 37 hT ((Jgr G4 (At b4 0) 2 ([x2.head.epoch,x2.had]) hs9 (by simp)).frame) (fun v G5 L1 hl5 hp=>?_)
 obtain ⟨_,a9,c9,_,rfl,hr1,rfl⟩:=hp
 refine JA [(14,Sl a9 ((([x2.head.epoch,x2.had]).map Lib.itoa).length) c9),(15,Sl a9 ((([x2.head.epoch,x2.had]).map Lib.itoa).length) c9)] (Kl [0,1,2,3,4,5,6,7,8,9,10,11,12] [(15,0)] [] [(4,Sl a9 ((([x2.head.epoch,x2.had]).map Lib.itoa).length) c9)] (Hb _) (Jc (Jn (Wy (E:=ES) 0 hr1 (by (try simp only [ES,EI,Hx,Hd,Hf]);omega) (fun G6 hl6 hs10=>Jk 4 (Jk 4 ?_))))))
 have hf1:(Y6 t w).2=0∧(Y6 t w).1=([x2.head.epoch,x2.had]).map Lib.itoa:=by
  (have q_:=Jqj (t:=t) (w:=w) ‹_› ‹_› ‹_› ‹_› ‹_›;rw [q_];exact ⟨rfl,rfl⟩)
 refine Jo [0] [Sl a9 ((([x2.head.epoch,x2.had]).map Lib.itoa).length) c9] (V5 (KB (Lr:=Lr) [[Sg b 0 (J3 t a_0 c_0 a_1 c_1 a_9 c_9)],r_9] (Ja (Ja (Ja (Ja hl1 hl2) hl4) hl5) hl6) ?_))
 rw [hf1.2]
 try dsimp only
 exact ⟨hf1.1,a9,c9,rfl,hs10,rfl⟩
theorem Jno (G:J5) (b:Nat) (t:KD) (a_0:Ba) (c_0:Nat) (a_1:Ba) (c_1:Nat) (a_9:Ba) (c_9:Nat) (r_9:Bg) (h_0:RS ES G a_0 c_0 t.setup.names) (h_1:RS EU G a_1 c_1 t.setup.keys) (h_2:rI t.setup.most) (h_3:rI t.setup.batch) (h_4:rI t.setup.every) (h_5:rI t.setup.least) (h_6:rI t.setup.top) (h_7:rI t.setup.lost) (h_8:rI t.setup.reach) (h_9:JR Wh G a_9 c_9 t.deeds r_9) (a_w:Ba) (c_w:Nat) (w:Bs) (h_w:RS ES G a_w c_w w) (ht:t.deeds.length≤200):Zg Tryz.prog 89 #[Pt b 0,Sl a_w w.length c_w] G [[Sg b 0 [Sl a_0 t.setup.names.length c_0,Sl a_1 t.setup.keys.length c_1,I t.setup.most,I t.setup.batch,I t.setup.every,I t.setup.least,I t.setup.top,I t.setup.lost,I t.setup.reach,Sl a_9 t.deeds.length c_9]],r_9] (fun u G' L'=>((Vz t w).2=0)∧∃ (az1:Ba) (cz2:Nat),u=Sl az1 (((Vz t w).1).length) cz2∧(RS ES G' az1 cz2 ((Vz t w).1))∧L'=[[Sg b 0 [Sl a_0 t.setup.names.length c_0,Sl a_1 t.setup.keys.length c_1,I t.setup.most,I t.setup.batch,I t.setup.every,I t.setup.least,I t.setup.top,I t.setup.lost,I t.setup.reach,Sl a_9 t.deeds.length c_9]],r_9]) (fun u _ L'=>(¬ (Vz t w).2=0)∧u=Y5 ((Vz t w).2)∧L'=[[Sg b 0 [Sl a_0 t.setup.names.length c_0,Sl a_1 t.setup.keys.length c_1,I t.setup.most,I t.setup.batch,I t.setup.every,I t.setup.least,I t.setup.top,I t.setup.lost,I t.setup.reach,Sl a_9 t.deeds.length c_9]],r_9]):=by
 intro Lr
 refine W0 Tryz.func89 33 [(0,Pt b 0),(1,Sl a_w w.length c_w)] rfl (fun w0 G0 hT=>?_)
 show TC _ _ _ _ _ ([Sg b 0 (J3 t a_0 c_0 a_1 c_1 a_9 c_9)]::r_9::Lr)
 refine Jg [0] [] (Jf (Jd (Jb [0] [(10,Pt b 0)] (Jw 1 (Jw 1 (KG (Ls:=[[Sg b 0 (J3 t a_0 c_0 a_1 c_1 a_9 c_9)],r_9]) (Lr:=Lr) 11 hT (Jbu G b t a_0 c_0 a_1 c_1 a_9 c_9 r_9 h_0 h_1 h_2 h_3 h_4 h_5 h_6 h_7 h_8 h_9 ‹_›) (fun v G1 L1 hl1 hp=>?_) (fun v G1 L1 hl1 hp=>?_)))))))
 obtain ⟨hne1,rfl,rfl⟩:=hp
 refine J8 ?_
 have hp1:(Vz t w).2=(Jt t.setup t.deeds).2.2:=by
  exact Jqd ‹_›
 refine Wt (QO (Lr:=Lr) [[Sg b 0 (J3 t a_0 c_0 a_1 c_1 a_9 c_9)],r_9] hl1 ?_)
 rw [hp1];exact ⟨hne1,rfl,rfl⟩
 obtain ⟨_,a1,c1,a2,c2,a3,c3,a4,c4,a5,c5,a6,c6,a7,c7,rfl,_,_,_,_,_,hs2,_,_,_,_,_,_,rfl⟩:=hp
 refine Jb [0,0,0] [(12,(VT (Jt t.setup t.deeds).1 a1 c1 a2 c2 a3 c3 a4 c4 a5 c5 a6 c6)),(13,Sl a7 (((Jt t.setup t.deeds).2.1).length) c7)] (Jv 5 #[I 0,Sl none 0 0,I 0,I 0,I 0,Sl none 0 0,Sl none 0 0,Sl none 0 0,Sl none 0 0,I 0,Sl none 0 0] 67 (fun b1=>JW [3,0] [] ([Sg b1 0 (ZU (Jt t.setup t.deeds).1 a1 c1 a2 c2 a3 c3 a4 c4 a5 c5 a6 c6)]::[Sg b 0 (J3 t a_0 c_0 a_1 c_1 a_9 c_9)]::r_9::Lr) (Je (Jc (Jf (Jd (Jb [0,0,2,0,0,2,0,0] [(17,Sl a2 ((((Jt t.setup t.deeds).1).clerk.heads).length) c2),(22,I (Hg.wrap (((((Jt t.setup t.deeds).1).clerk.heads).length:Int)-1)))] ?_)))))))
 have e1:Hg.wrap (((((Jt t.setup t.deeds).1).clerk.heads).length:Int)-1)=(((((Jt t.setup t.deeds).1).clerk.heads).length-1:Nat):Int):=(Hn _ (by (have q_:=ZF (Vb ‹_›).1;omega))).trans (show ((((Jt t.setup t.deeds).1).clerk.heads).length:Int)-1=(((((Jt t.setup t.deeds).1).clerk.heads).length-1:Nat):Int) by (have q_:=ZF (Vb ‹_›).1;omega))
 refine Kv 22 (I (((((Jt t.setup t.deeds).1).clerk.heads).length-1:Nat):Int)) (congrArg I e1) ?_
 clear e1
 obtain ⟨b2,o1,rfl⟩:=RS.addr hs2 (k:=(((Jt t.setup t.deeds).1).clerk.heads).length-1) (by (have q_:=ZF (Vb ‹_›).1;omega))
 obtain ⟨x1,hx1⟩:=QS (l:=((Jt t.setup t.deeds).1).clerk.heads) (k:=(((Jt t.setup t.deeds).1).clerk.heads).length-1) (by (have q_:=ZF (Vb ‹_›).1;omega))
 obtain ⟨_,⟨rfl,w6,w7,w8,w9⟩,hc1⟩:=RS.get hs2 hx1
 refine JV (b:=b2) (off:=o1) (len:=(((Jt t.setup t.deeds).1).clerk.heads).length) (cap:=c2) (ik:=.i64) 23 43 4 ((((Jt t.setup t.deeds).1).clerk.heads).length-1) (by (have q_:=ZF (Vb ‹_›).1;omega)) (JO 24 43 (cs:=[I x1.epoch,U x1.root,U x1.prev,I x1.at_]) 0 (.agg #[I x1.epoch,U x1.root,U x1.prev,I x1.at_]) hc1 (Jm 25 (.tuple #[U ((Kw x1).1),I ((Kw x1).2)]) (Jdx G1 [I x1.epoch,U x1.root,U x1.prev,I x1.at_] x1 (⟨rfl,w6,w7,w8,w9⟩)) (Jb [0,0,0,0,0] [(7,U ((Kw x1).1)),(8,I ((Kw x1).2))] (Je (Jc (Jf (Jd (Jb [0] [(28,I ((Kw x1).2))] (KG (Ls:=[]) (Lr:=([Sg b1 0 (ZU (Jt t.setup t.deeds).1 a1 c1 (At b2 o1) c2 a3 c3 a4 c4 a5 c5 a6 c6)]::[Sg b 0 (J3 t a_0 c_0 a_1 c_1 a_9 c_9)]::r_9::Lr)) 29 hT ((ZN G1 ((Kw x1).2)).frame) (fun v G2 L1 hl2 hp=>?_) (fun v G2 L1 hl2 hp=>?_))))))))))
 obtain ⟨hne2,rfl,rfl⟩:=hp
 refine J8 ?_
 have hp3:(Vz t w).2=(Kw x1).2:=by
  exact Jqe ‹_› ‹_› rfl ‹_›
 refine Wt (QO (Lr:=Lr) [[Sg b 0 (J3 t a_0 c_0 a_1 c_1 a_9 c_9)],r_9] (Ja hl1 hl2) ?_)
 rw [hp3];exact ⟨hne2,rfl,rfl⟩
 obtain ⟨_,rfl,rfl⟩:=hp
 refine Je (Jc (Jf (Jd (Jb [0] [(30,U ((Kw x1).1))] (ZQ (Ls:=[]) (Lr:=([Sg b1 0 (ZU (Jt t.setup t.deeds).1 a1 c1 (At b2 o1) c2 a3 c3 a4 c4 a5 c5 a6 c6)]::[Sg b 0 (J3 t a_0 c_0 a_1 c_1 a_9 c_9)]::r_9::Lr)) 31 hT ((JiU G2 ((Kw x1).1) (by have q_:=JaZ x1;omega)).frame) (fun v G3 L1 hl3 hp=>?_))))))
 obtain ⟨_,rfl,rfl⟩:=hp
 refine Km 32 1 #[Sr (Lib.itoa ((Kw x1).1))] 9 (fun b3=>Jb [0] [(4,Sl (At b3 0) 1 1)] (Je (Jc (Jn (JdO (b:=b3) (o:=0) (cs:=[Sr (Lib.itoa ((Kw x1).1))]) 0 (fun G4 hl4 hz1=>?_))))))
 have hs8:RS ES G4 (At b3 0) 1 [Lib.itoa ((Kw x1).1)]:=RS.lit [[Sr (Lib.itoa ((Kw x1).1))]] [Lib.itoa ((Kw x1).1)] ⟨⟨rfl,(by have q1_:=JaZ x1;have q_:=Jcw (Kw x1).1;omega)⟩,trivial⟩ hz1 (He rfl) (He rfl)
 refine Jk 3 (Jk 3 ?_)
 have hf1:(Vz t w).2=0∧(Vz t w).1=[Lib.itoa ((Kw x1).1)]:=by
  have q_:=Jqf (t:=t) (w:=w) ‹_› ‹_› rfl ‹_›;rw [q_];exact ⟨rfl,rfl⟩
 refine Jo [0] [Sl (At b3 0) 1 1] (V5 (KB (Lr:=Lr) [[Sg b 0 (J3 t a_0 c_0 a_1 c_1 a_9 c_9)],r_9] (Ja (Ja (Ja hl1 hl2) hl3) hl4) ?_))
 rw [hf1.2]
 try dsimp only
 exact ⟨hf1.1,(At b3 0),1,rfl,hs8,rfl⟩
def JbX (x:Yj):Prop:=1≤x.kind∧x.kind≤3∧(x.kind=2→0≤x.n∧x.n≤6)
abbrev Jdd (t:JI):Prop:=∀ x∈t.events,JbX x
theorem see_06 (o:Qp) (l:List JX) (r:Q5):0≤(JC o l r).2.1∧(JC o l r).2.1≤6:=by
 have hv:0≤(JZ o l r).1∧(JZ o l r).1≤6:=by
  unfold JZ K2
  (repeat' split) <;> simp_all <;> omega
 unfold JC
 (repeat' split) <;> simp only <;> omega
theorem Jk7 {t:JI} {es:List Yj} {y:Yj} (h:Jdd t) (e:es=t.events++[y]) (hy:JbX y):∀ x∈es,JbX x:=by
 intro x hx
 rw [e] at hx
 rcases List.mem_append.1 hx with hx | hx
 · exact h x hx
 · rw [Hz.1 hx];exact hy
theorem ev_see {t:JI} (h:Jdd t) (l:JU):Jdd (Yd t l):=Jk7 (y:=⟨2,l.to_,(JC (Js t l.to_) l.heads l.reply).2.1,_⟩) h rfl ⟨by simp only;omega,by simp only;omega,fun _=>see_06 _ _ _⟩
theorem Jnp {t:JI} (h:Jdd t) (l:JU):Jdd (Yg t l):=by
 unfold Yg
 split
 ·
  unfold Qn;split
  · exact h
  · exact h
 · exact ev_see h l
theorem Jgv:∀ (ls:List JU) {t:JI},Jdd t→Jdd (Zh t ls)
 | [],_,h=>h
 | l::ls,_,h=>Jgv ls (Jnp h l)
theorem ev_ask {t:JI} (h:Jdd t) (k:Int):Jdd (Zx t k):=by
 unfold Zx
 split
 · exact h
 ·
  split
  · exact Jk7 (t:=Ja4 t k) h rfl ⟨by simp only;omega,by simp only;omega,fun hc=>by simp at hc⟩
  · exact h
theorem Jl1:∀ (ks:List Nat) {t:JI},Jdd t→Jdd (ks.foldl (fun t (k:Nat)=>Zx t (k:Int)) t)
 | [],_,h=>h
 | k::ks,_,h=>Jl1 ks (ev_ask h k)
theorem ev_do {t:JI} (h:Jdd t) (d:K6):Jdd (Va t d):=by
 unfold Va
 split
 ·
  unfold Wk
  split
  · exact h
  ·
   split
   · exact h
   ·
    split
    · exact h
    · exact Jk7 h rfl ⟨by simp only;omega,by simp only;omega,fun hc=>by simp at hc⟩
 ·
  split
  · exact h
  ·
   split
   ·
    unfold Jgj;split
    · exact h
    · exact h
   ·
    split
    ·
     unfold WJ
     split
     · exact h
     · exact Jl1 _ (Jgv _ h)
    · exact h
theorem Jph:∀ (l:List K6) {t:JI},Jdd t→Jdd (Jbt t l)
 | [],_,h=>h
 | d::l,_,h=>Jph l (ev_do h d)
theorem YQ (s:Kx) (l:List K6):∀ x∈(Jt s l).2.1,JbX x:=by
 unfold Jt
 split
 · intro x hx;simp at hx
 · exact Jph l (t:=QH s) (by intro x hx;simp [QH] at hx)
def bump (m:List Int) (k:Nat):List Int:=m.set k (m[k]?.getD 0+1)
def VO (m:List Int) (x:Yj):List Int:=if x.kind=2 then bump (bump m (x.kind-1).toNat) (3+x.n).toNat else bump m (x.kind-1).toNat
def Jpi (l:List Yj):List Int:=l.foldl VO (Hl 10 0)
def EvI (n:Nat) (m:List Int):Prop:=m.length=10∧∀ c∈m,0≤c∧c≤n
theorem EvI.bump {n:Nat} {m:List Int} (h:EvI n m) (k:Nat):EvI (n+1) (bump m k):=by
 refine ⟨by simp [Go.Proofs.YteaampgpgokjmaaGreatDoor.bump,h.1],fun c hc=>?_⟩
 unfold Go.Proofs.YteaampgpgokjmaaGreatDoor.bump at hc
 rcases List.mem_or_eq_of_mem_set hc with hc | hc
 · have:=h.2 c hc;omega
 ·
  rw [hc]
  cases hk:m[k]? with
  | none=>simp;omega
  | some v=>have:=h.2 v (Hc hk);simp;omega
theorem JdV {n:Nat} {m:List Int} {k:Nat} {v:Int} (h:EvI n m) (hk:m[k]? = some v):EvI (n+1) (m.set k (v+1)):=by
 have:=h.bump k
 unfold Go.Proofs.YteaampgpgokjmaaGreatDoor.bump at this
 rw [hk] at this;exact this
theorem JdW {n n':Nat} {m:List Int} (h:EvI n m) (hn:n≤n'):EvI n' m:=⟨h.1,fun c hc=>by have:=h.2 c hc;omega⟩
theorem JjX {l:List Yj} {i:Nat} {x:Yj} (hx:l[i]? = some x):(l.take (i+1)).foldl VO (Hl 10 0)=VO ((l.take i).foldl VO (Hl 10 0)) x:=by
 rw [HA,hx];simp [List.foldl_append]
theorem Jpj {l:List Yj} {i:Nat} {x:Yj} {m:List Int} {k:Nat} {v:Int} (hx:l[i]? = some x) (hm:m=(l.take i).foldl VO (Hl 10 0)∧EvI (2*i) m) (hk:x.kind-1=(k:Int)) (hv:m[k]? = some v) (h2:¬ x.kind=2) :
  m.set k (v+1)=(l.take (i+1)).foldl VO (Hl 10 0)∧EvI (2*(i+1)) (m.set k (v+1)):=by
 refine ⟨?_,JdW (JdV hm.2 hv) (by omega)⟩
 rw [JjX hx,← hm.1]
 unfold VO bump
 rw [if_neg h2,hk,Hu,hv];rfl
theorem Jpk {l:List Yj} {i:Nat} {x:Yj} {m:List Int} {k k2:Nat} {v v2:Int} (hx:l[i]? = some x) (hm:m=(l.take i).foldl VO (Hl 10 0)∧EvI (2*i) m) (hk:x.kind-1=(k:Int)) (hv:m[k]? = some v) (h2:x.kind=2) (hk2:3+x.n=(k2:Int)) (hv2:(m.set k (v+1))[k2]? = some v2) :
  (m.set k (v+1)).set k2 (v2+1)=(l.take (i+1)).foldl VO (Hl 10 0)∧EvI (2*(i+1)) ((m.set k (v+1)).set k2 (v2+1)):=by
 refine ⟨?_,JdW (JdV (JdV hm.2 hv) hv2) (by omega)⟩
 rw [JjX hx,← hm.1]
 unfold VO bump
 rw [if_pos h2,hk,hk2,Hu,Hu,hv]
 simp only [Hm]
 rw [hv2];rfl
theorem EvI.start:EvI 0 (Hl 10 0):=⟨by simp,fun c hc=>by have:=List.eq_of_mem_replicate hc;omega⟩
def Yz (t:KD) (w:Bs):Bs×Int:=if ¬ (Jt t.setup t.deeds).2.2=0 then ([],(Jt t.setup t.deeds).2.2) else ((Jpi (Jt t.setup t.deeds).2.1).map Lib.itoa,0)
theorem JjY (G:J5) (b:Nat) (t:KD) (a_0:Ba) (c_0:Nat) (a_1:Ba) (c_1:Nat) (a_9:Ba) (c_9:Nat) (r_9:Bg) (h_0:RS ES G a_0 c_0 t.setup.names) (h_1:RS EU G a_1 c_1 t.setup.keys) (h_2:rI t.setup.most) (h_3:rI t.setup.batch) (h_4:rI t.setup.every) (h_5:rI t.setup.least) (h_6:rI t.setup.top) (h_7:rI t.setup.lost) (h_8:rI t.setup.reach) (h_9:JR Wh G a_9 c_9 t.deeds r_9) (a_w:Ba) (c_w:Nat) (w:Bs) (h_w:RS ES G a_w c_w w) (ht:t.deeds.length≤200):Zg Tryz.prog 87 #[Pt b 0,Sl a_w w.length c_w] G [[Sg b 0 [Sl a_0 t.setup.names.length c_0,Sl a_1 t.setup.keys.length c_1,I t.setup.most,I t.setup.batch,I t.setup.every,I t.setup.least,I t.setup.top,I t.setup.lost,I t.setup.reach,Sl a_9 t.deeds.length c_9]],r_9] (fun u G' L'=>((Yz t w).2=0)∧∃ (az1:Ba) (cz2:Nat),u=Sl az1 (((Yz t w).1).length) cz2∧(RS ES G' az1 cz2 ((Yz t w).1))∧L'=[[Sg b 0 [Sl a_0 t.setup.names.length c_0,Sl a_1 t.setup.keys.length c_1,I t.setup.most,I t.setup.batch,I t.setup.every,I t.setup.least,I t.setup.top,I t.setup.lost,I t.setup.reach,Sl a_9 t.deeds.length c_9]],r_9]) (fun u _ L'=>(¬ (Yz t w).2=0)∧u=Y5 ((Yz t w).2)∧L'=[[Sg b 0 [Sl a_0 t.setup.names.length c_0,Sl a_1 t.setup.keys.length c_1,I t.setup.most,I t.setup.batch,I t.setup.every,I t.setup.least,I t.setup.top,I t.setup.lost,I t.setup.reach,Sl a_9 t.deeds.length c_9]],r_9]):=by
 intro Lr
 refine W0 Tryz.func87 44 [(0,Pt b 0),(1,Sl a_w w.length c_w)] rfl (fun w0 G0 hT=>?_)
 show TC _ _ _ _ _ ([Sg b 0 (J3 t a_0 c_0 a_1 c_1 a_9 c_9)]::r_9::Lr)
 refine Jg [0] [] (Jf (Jd (Jb [0] [(11,Pt b 0)] (Jw 1 (Jw 1 (KG (Ls:=[[Sg b 0 (J3 t a_0 c_0 a_1 c_1 a_9 c_9)],r_9]) (Lr:=Lr) 12 hT (Jbu G b t a_0 c_0 a_1 c_1 a_9 c_9 r_9 h_0 h_1 h_2 h_3 h_4 h_5 h_6 h_7 h_8 h_9 ‹_›) (fun v G1 L1 hl1 hp=>?_) (fun v G1 L1 hl1 hp=>?_)))))))
 obtain ⟨hne1,rfl,rfl⟩:=hp
 refine J8 ?_
 have hp1:(Yz t w).2=(Jt t.setup t.deeds).2.2:=by
  unfold Yz;rw [if_pos ‹_›]
 refine Wt (QO (Lr:=Lr) [[Sg b 0 (J3 t a_0 c_0 a_1 c_1 a_9 c_9)],r_9] hl1 ?_)
 rw [hp1];exact ⟨hne1,rfl,rfl⟩
 obtain ⟨_,a1,c1,a2,c2,a3,c3,a4,c4,a5,c5,a6,c6,a7,c7,rfl,_,_,_,_,_,_,_,_,_,_,_,hs7,rfl⟩:=hp
 refine Jb [0,0,0] [(13,(VT (Jt t.setup t.deeds).1 a1 c1 a2 c2 a3 c3 a4 c4 a5 c5 a6 c6)),(14,Sl a7 (((Jt t.setup t.deeds).2.1).length) c7)] (Jv 5 #[I 0,Sl none 0 0,I 0,I 0,I 0,Sl none 0 0,Sl none 0 0,Sl none 0 0,Sl none 0 0,I 0,Sl none 0 0] 67 (fun b1=>JW [3,0] [(6,Sl a7 (((Jt t.setup t.deeds).2.1).length) c7)] ([Sg b1 0 (ZU (Jt t.setup t.deeds).1 a1 c1 a2 c2 a3 c3 a4 c4 a5 c5 a6 c6)]::[Sg b 0 (J3 t a_0 c_0 a_1 c_1 a_9 c_9)]::r_9::Lr) (Je (Jc (Jf (Jd (Jf9 (E:=EI) (bytes:=8) 15 39 3 10 (0:Int) ⟨rfl,rfl,fun G=>⟨rfl,by omega⟩⟩ J4 J4 (by kernel_rfl) (fun a8 r1 hr1=>Jb [0] [(7,Sl a8 ((Hl 10 (0:Int)).length) 10)] (Je (Jc (Jf (Jg [0,0,0] [(16,Sl a7 (((Jt t.setup t.deeds).2.1).length) c7),(17,I (((Jt t.setup t.deeds).2.1).length:Int)),(18,I 0)] (Jy ?_)))))))))))))
 have hlm_hs7:((Jt t.setup t.deeds).2.1).length≤9223372036854775807:=Ht (hs7).le (hs7).max
 refine Qc (σ:=Nat×Ba×Nat×Bg×List Int×J5) (fun q_=>(J5.le G1 q_.2.2.2.2.2)∧(q_.1≤((Jt t.setup t.deeds).2.1).length)∧(JR EI q_.2.2.2.2.2 q_.2.1 q_.2.2.1 q_.2.2.2.2.1 q_.2.2.2.1)∧(q_.2.2.2.2.1=((Jt t.setup t.deeds).2.1.take q_.1).foldl VO (Hl 10 0)∧EvI (2*q_.1) q_.2.2.2.2.1)∧((Jt t.setup t.deeds).2.1.length≤1000000000000000)) (fun q_=>[(7,Sl q_.2.1 q_.2.2.2.2.1.length q_.2.2.1),(16,Sl a7 (((Jt t.setup t.deeds).2.1).length) c7),(17,I (((Jt t.setup t.deeds).2.1).length:Int)),(18,I (q_.1:Int))]) (fun q_=>q_.2.2.2.2.2) (fun q_=>(q_.2.2.2.1::[Sg b1 0 (ZU (Jt t.setup t.deeds).1 a1 c1 a2 c2 a3 c3 a4 c4 a5 c5 a6 c6)]::[Sg b 0 (J3 t a_0 c_0 a_1 c_1 a_9 c_9)]::r_9::Lr)) (fun q_=>((Jt t.setup t.deeds).2.1).length-q_.1) (0,a8,10,r1,(Hl 10 (0:Int)),G1) ⟨(Jh _),(by (try dsimp only);exact HC _),hr1,⟨rfl,EvI.start⟩,(by (try dsimp only);have q_:=(by assumption:RS Wn _ _ _ (Jt t.setup t.deeds).2.1).fit;simp only [Wn] at q_;omega)⟩ (fun q_ hs=>?_)
 obtain ⟨i,ax,cx,rx,xx,g⟩:=q_
 obtain ⟨hle,hi,hrx,hxx,hfi⟩:=hs
 dsimp only at hle hi hrx hxx hfi
 dsimp only
 refine Jg [0] [(19,Bo (decide ((i:Int)<(((Jt t.setup t.deeds).2.1).length:Int))))] (Jf (Jl (decide ((i:Int)<(((Jt t.setup t.deeds).2.1).length:Int))) (fun h1=>?_) (fun h1=>?_)))
 refine Jq (Jc (Jf (Jy (Jf (Jd ?_)))))
 obtain ⟨b2,o1,rfl⟩:=RS.addr (hs7.mono hle) (k:=i) (by omega)
 obtain ⟨x1,hx1⟩:=QS (l:=(Jt t.setup t.deeds).2.1) (k:=i) (by omega)
 obtain ⟨_,⟨rfl,_,_,_,_⟩,hc1⟩:=RS.get (hs7.mono hle) hx1
 refine JV (b:=b2) (off:=o1) (len:=((Jt t.setup t.deeds).2.1).length) (cap:=c7) (ik:=.i64) 20 74 4 i J4 (JO 21 74 (cs:=[I x1.kind,I x1.who,I x1.n,I x1.at_]) 0 (.agg #[I x1.kind,I x1.who,I x1.n,I x1.at_]) hc1 (Jv 9 #[I 0,I 0,I 0,I 0] 74 (fun b3=>JW [3] [] ([Sg b3 0 [I x1.kind,I x1.who,I x1.n,I x1.at_]]::rx::[Sg b1 0 (ZU (Jt t.setup t.deeds).1 a1 c1 a2 c2 a3 c3 a4 c4 a5 c5 a6 c6)]::[Sg b 0 (J3 t a_0 c_0 a_1 c_1 a_9 c_9)]::r_9::Lr) (Je (Jc (Jf (Jd (Jb [0,0,2,0] [(22,Sl ax xx.length cx),(25,I (Hg.wrap (x1.kind-1)))] (Kp 25 (x1.kind-1) (by (have q_:=YQ _ _ _ (Hc hx1);unfold JbX at q_;have q2_:=hxx.2.1;omega)) ?_)))))))))
 obtain ⟨kn1,hkn1⟩:∃ k_:Nat,x1.kind-1=(k_:Int):=⟨(x1.kind-1).toNat,by (have q_:=YQ _ _ _ (Hc hx1);unfold JbX at q_;have q2_:=hxx.2.1;omega)⟩
 have e1:x1.kind-1=(kn1:Int):=hkn1
 refine Kv 25 (I (kn1:Int)) (congrArg I e1) ?_
 obtain ⟨x2,hx2⟩:=QS (l:=xx) (k:=kn1) (by (have q_:=YQ _ _ _ (Hc hx1);unfold JbX at q_;have q2_:=hxx.2.1;omega))
 obtain ⟨b4,o2,_,_,⟨rfl,_⟩,ha1,hre1,hc2⟩:=JR.ix hrx hx2
 refine Qs (b:=b4) (off:=o2) (len:=xx.length) (cap:=cx) (ik:=.i64) 26 3 1 kn1 ha1 (by (have q_:=YQ _ _ _ (Hc hx1);unfold JbX at q_;have q2_:=hxx.2.1;omega)) (W4 (off:=o2) (p:=kn1*1) (cs:=[I x2]) 27 3 1 0 (I x2) hre1 hc2 (Jb [0] [(28,I (Hg.wrap (x2+1)))] (Kp 28 (x2+1) (by (have q_:=hxx.2.2 _ (Hc hx2);omega)) ?_)))
 obtain ⟨_,hx3⟩:=QS (l:=xx) (k:=kn1) (by (have q_:=YQ _ _ _ (Hc hx1);unfold JbX at q_;have q2_:=hxx.2.1;omega))
 obtain ⟨b5,o3,_,_,⟨rfl,_⟩,ha2,_,_⟩:=JR.ix hrx hx3
 refine Qs (b:=b5) (off:=o3) (len:=xx.length) (cap:=cx) (ik:=.i64) 29 3 1 kn1 ha2 (by (have q_:=YQ _ _ _ (Hc hx1);unfold JbX at q_;have q2_:=hxx.2.1;omega)) (YC (b:=b5) (off:=o3) 1 hrx kn1 (x2+1) ha2 (by (have q_:=YQ _ _ _ (Hc hx1);unfold JbX at q_;have q2_:=hxx.2.1;omega)) (I (x2+1)) [I (x2+1)] ⟨rfl,(by (have q_:=hxx.2.2 _ (Hc hx2);omega))⟩ (fun r2 hr2=>?_))
 have e2:xx.length=(xx.set kn1 (x2+1)).length:=(List.length_set ..).symm
 refine Kv 7 (Sl ax ((xx.set kn1 (x2+1)).length) cx) (congrArg (Sl ax · cx) e2) (Kv 22 (Sl ax ((xx.set kn1 (x2+1)).length) cx) (congrArg (Sl ax · cx) e2) (Je (Jc (Jg [0,2,0] [(32,Bo (decide (x1.kind=2)))] (Jl (decide (x1.kind=2)) (fun h2=>?_) (fun h2=>?_))))))
 refine Jd (Jb [0,0,2,0] [(33,Sl ax ((xx.set kn1 (x2+1)).length) cx),(36,I (Hg.wrap (3+x1.n)))] (Kp 36 (3+x1.n) (by (have q_:=YQ _ _ _ (Hc hx1);unfold JbX at q_;have q2_:=hxx.2.1;omega)) ?_))
 obtain ⟨kn2,hkn2⟩:∃ k_:Nat,3+x1.n=(k_:Int):=⟨(3+x1.n).toNat,by (have q_:=YQ _ _ _ (Hc hx1);unfold JbX at q_;have q2_:=hxx.2.1;omega)⟩
 have e3:3+x1.n=(kn2:Int):=hkn2
 refine Kv 36 (I (kn2:Int)) (congrArg I e3) ?_
 obtain ⟨x4,hx4⟩:=QS (l:=xx.set kn1 (x2+1)) (k:=kn2) (by (have q_:=YQ _ _ _ (Hc hx1);unfold JbX at q_;have q2_:=hxx.2.1;omega))
 obtain ⟨b6,o4,_,_,⟨rfl,_⟩,ha3,hre3,hc4⟩:=JR.ix hr2 hx4
 refine Qs (b:=b6) (off:=o4) (len:=(xx.set kn1 (x2+1)).length) (cap:=cx) (ik:=.i64) 37 3 1 kn2 ha3 (by (have q_:=YQ _ _ _ (Hc hx1);unfold JbX at q_;have q2_:=hxx.2.1;omega)) (W4 (off:=o4) (p:=kn2*1) (cs:=[I x4]) 38 3 1 0 (I x4) hre3 hc4 (Jb [0] [(39,I (Hg.wrap (x4+1)))] (Kp 39 (x4+1) (by (have q_:=(JdV hxx.2 hx2).2 _ (Hc hx4);omega)) ?_)))
 obtain ⟨_,hx5⟩:=QS (l:=xx.set kn1 (x2+1)) (k:=kn2) (by (have q_:=YQ _ _ _ (Hc hx1);unfold JbX at q_;have q2_:=hxx.2.1;omega))
 obtain ⟨b7,o5,_,_,⟨rfl,_⟩,ha4,_,_⟩:=JR.ix hr2 hx5
 refine Qs (b:=b7) (off:=o5) (len:=(xx.set kn1 (x2+1)).length) (cap:=cx) (ik:=.i64) 40 3 1 kn2 ha4 (by (have q_:=YQ _ _ _ (Hc hx1);unfold JbX at q_;have q2_:=hxx.2.1;omega)) (YC (b:=b7) (off:=o5) 1 hr2 kn2 (x4+1) ha4 (by (have q_:=YQ _ _ _ (Hc hx1);unfold JbX at q_;have q2_:=hxx.2.1;omega)) (I (x4+1)) [I (x4+1)] ⟨rfl,(by (have q_:=(JdV hxx.2 hx2).2 _ (Hc hx4);omega))⟩ (fun r3 hr3=>?_))
 have e4:(xx.set kn1 (x2+1)).length=((xx.set kn1 (x2+1)).set kn2 (x4+1)).length:=(List.length_set ..).symm
 exact Kv 7 (Sl ax (((xx.set kn1 (x2+1)).set kn2 (x4+1)).length) cx) (congrArg (Sl ax · cx) e4) (Kv 33 (Sl ax (((xx.set kn1 (x2+1)).set kn2 (x4+1)).length) cx) (congrArg (Sl ax · cx) e4) (Je (JM (Jc (Jd (Jb [0,0] [(18,I (Hg.wrap ((i:Int)+1)))] (Kp 18 ((i:Int)+1) J4 (Je (Qy (r3::[Sg b1 0 (ZU (Jt t.setup t.deeds).1 a1 c1 a2 c2 a3 c3 a4 c4 a5 c5 a6 c6)]::[Sg b 0 (J3 t a_0 c_0 a_1 c_1 a_9 c_9)]::r_9::Lr) (Qh (i+1,ax,cx,r3,(xx.set kn1 (x2+1)).set kn2 (x4+1),g) ⟨(Ja hle (Jh _)),J4,hr3,(by (try dsimp only);exact Jpk hx1 hxx ‹_› ‹_› ‹_› ‹_› ‹_›),hfi⟩ (by (try dsimp only);omega)))))))))))
 exact Jq (JM (Jc (Jd (Jb [0,0] [(18,I (Hg.wrap ((i:Int)+1)))] (Kp 18 ((i:Int)+1) J4 (Je (Qy (r2::[Sg b1 0 (ZU (Jt t.setup t.deeds).1 a1 c1 a2 c2 a3 c3 a4 c4 a5 c5 a6 c6)]::[Sg b 0 (J3 t a_0 c_0 a_1 c_1 a_9 c_9)]::r_9::Lr) (Qh (i+1,ax,cx,r2,xx.set kn1 (x2+1),g) ⟨(Ja hle (Jh _)),J4,hr2,(by (try dsimp only);exact Jpj hx1 hxx ‹_› ‹_› ‹_›),hfi⟩ (by (try dsimp only);omega)))))))))
 refine KX (J1 (Kd (JS (Jc (Jf (Jd (Jb [0] [(42,Sl ax xx.length cx)] (Wg (E:=EI) 0 hrx (by have q_:=hxx.2.1;(try simp only [ES,EI,Hx]);omega) (fun G2 hl2 hs8=>ZQ (Ls:=[]) (Lr:=([]::[Sg b1 0 (ZU (Jt t.setup t.deeds).1 a1 c1 a2 c2 a3 c3 a4 c4 a5 c5 a6 c6)]::[Sg b 0 (J3 t a_0 c_0 a_1 c_1 a_9 c_9)]::r_9::Lr)) 43 hT ((Jgr G2 ax cx xx hs8 (by (have q_:=hxx.2.1;omega))).frame) (fun v G3 L1 hl3 hp=>?_))))))))))
 obtain ⟨_,a9,c8,_,rfl,hr4,rfl⟩:=hp
 refine Jb [0] [(4,Sl a9 ((xx.map Lib.itoa).length) c8)] (Je (Jc (Jn (Wy (E:=ES) 0 hr4 (by have q_:=hxx.2.1;(try simp only [ES,EI,Hx]);omega) (fun G4 hl4 hs9=>Jk 4 (Jk 4 ?_))))))
 have hf1:(Yz t w).2=0∧(Yz t w).1=xx.map Lib.itoa:=by
  have q_:=Ho (i:=i) (l:=(Jt t.setup t.deeds).2.1) (by omega);rw [q_] at hxx;unfold Yz;rw [if_neg (by omega)];exact ⟨rfl,by rw [Jpi,← hxx.1]⟩
 refine Jo [0] [Sl a9 ((xx.map Lib.itoa).length) c8] (V5 (KB (Lr:=Lr) [[Sg b 0 (J3 t a_0 c_0 a_1 c_1 a_9 c_9)],r_9] (Ja (Ja (Ja (Ja hl1 hle) hl2) hl3) hl4) ?_))
 rw [hf1.2]
 try dsimp only
 exact ⟨hf1.1,a9,c8,rfl,hs9,rfl⟩
theorem Zg.mono {P:Program} {f:FuncId} {args:Array Value} {G:J5} {Ls:Bl} {Post PP Post' PP':Value→J5→Bl→Prop} (h:Zg P f args G Ls Post PP) (h1:∀ v G' L',J5.le G G'→Post v G' L'→Post' v G' L') (h2:∀ v G' L',PP v G' L'→PP' v G' L'):Zg P f args G Ls Post' PP':=fun Lr w0 G0 w hT hw =>
 (h Lr w0 G0 w hT hw).mono fun _ _ ⟨v,G',L',a,b,c⟩=>⟨v,G',L',a,b,c.imp (fun ⟨q,L1,e,p⟩=>⟨q,L1,e,h1 _ _ _ b p⟩) (fun ⟨q,L1,e,p⟩=>⟨q,L1,e,h2 _ _ _ p⟩)⟩
def QN (c:Nat) (t:KD) (w:Bs):KD×Bs×Int:=match c with
 | 0=>((WY t w).1,[],(WY t w).2)
 | 1=>((WZ t w).1,[],(WZ t w).2)
 | 2=>((WQ t w).1,[],(WQ t w).2)
 | 3=>((Wx t w).1,[],(Wx t w).2)
 | 4=>((Zu t w).1,[],(Zu t w).2)
 | 5=>((Zv t w).1,[],(Zv t w).2)
 | 6=>((Zw t w).1,[],(Zw t w).2)
 | 7=>(t,(Jdc t w).1,(Jdc t w).2)
 | 8=>(t,(ZG t w).1,(ZG t w).2)
 | 9=>(t,(Yz t w).1,(Yz t w).2)
 | 10=>(t,(Y6 t w).1,(Y6 t w).2)
 | 11=>(t,(Vz t w).1,(Vz t w).2)
 | _=>(t,[],0)
def dS (_:Nat):Bool:=true
def Jk8 (t:KD) (G:J5) (b:Nat) (L:Bl):Prop:=∃ (a_0:Ba) (c_0:Nat) (a_1:Ba) (c_1:Nat) (a_9:Ba) (c_9:Nat) (r_9:Bg),(RS ES G a_0 c_0 t.setup.names)∧(RS EU G a_1 c_1 t.setup.keys)∧(-9223372036854775808≤t.setup.most∧t.setup.most<9223372036854775808)∧(-9223372036854775808≤t.setup.batch∧t.setup.batch<9223372036854775808)∧(-9223372036854775808≤t.setup.every∧t.setup.every<9223372036854775808)∧(-9223372036854775808≤t.setup.least∧t.setup.least<9223372036854775808)∧(-9223372036854775808≤t.setup.top∧t.setup.top<9223372036854775808)∧(-9223372036854775808≤t.setup.lost∧t.setup.lost<9223372036854775808)∧(-9223372036854775808≤t.setup.reach∧t.setup.reach<9223372036854775808)∧(JR Wh G a_9 c_9 t.deeds r_9)∧L=[[Sg b 0 [Sl a_0 t.setup.names.length c_0,Sl a_1 t.setup.keys.length c_1,I t.setup.most,I t.setup.batch,I t.setup.every,I t.setup.least,I t.setup.top,I t.setup.lost,I t.setup.reach,Sl a_9 t.deeds.length c_9]],r_9]
theorem Jfz (c:Nat) (hc:c<12) (hS:dS c=true) (G:J5) (b:Nat) (t:KD) (L:Bl) (hB:Jk8 t G b L) (ht:t.deeds.length≤200) (hn:t.setup.names.length≤1000) (hk:t.setup.keys.length≤1000) (a_w:Ba) (c_w:Nat) (w:Bs) (h_w:RS ES G a_w c_w w) (hw:0≤Yp c→(w.length:Int)=Yp c) (hw2:w.length≤1048577) (hs:∀ s∈w,s.length≤1048576) :
  Zg Tryz.prog (Jad c) #[Pt b 0,Sl a_w w.length c_w] G L (fun u G' L'=>(QN c t w).2.2=0∧∃ a1 c2,u=Sl a1 (QN c t w).2.1.length c2∧RS ES G' a1 c2 (QN c t w).2.1∧Jk8 (QN c t w).1 G' b L') (fun u _ L'=>¬ (QN c t w).2.2=0∧u=Y5 (QN c t w).2.2∧L'=L):=by
 obtain ⟨a_0,c_0,a_1,c_1,a_9,c_9,r_9,h_0,h_1,h_2,h_3,h_4,h_5,h_6,h_7,h_8,h_9,rfl⟩:=hB
 match c,hc with
 | 0,_=>exact Zg.mono (Jk2 G b t a_0 c_0 a_1 c_1 a_9 c_9 r_9 h_0 h_1 h_2 h_3 h_4 h_5 h_6 h_7 h_8 h_9 a_w c_w w h_w (by have q_:=hw (by decide);simp only [Yp,Hj,Hk,Hm] at q_;omega) hs ht hn hk) (fun u G' L' hle ⟨he,a1,c2,a3,c4,a5,c6,a7,c8,r9,hu,ho,hB⟩=>⟨he,a1,c2,hu,ho,a3,c4,a5,c6,a7,c8,r9,hB⟩) (fun _ _ _ h=>h)
 | 1,_=>exact Zg.mono (Jk3 G b t a_0 c_0 a_1 c_1 a_9 c_9 r_9 h_0 h_1 h_2 h_3 h_4 h_5 h_6 h_7 h_8 h_9 a_w c_w w h_w (by have q_:=hw (by decide);simp only [Yp,Hj,Hk,Hm] at q_;omega) hs ht hn hk) (fun u G' L' hle ⟨he,a1,c2,a3,c4,a5,c6,a7,c8,r9,hu,ho,hB⟩=>⟨he,a1,c2,hu,ho,a3,c4,a5,c6,a7,c8,r9,hB⟩) (fun _ _ _ h=>h)
 | 2,_=>exact Zg.mono (Jk4 G b t a_0 c_0 a_1 c_1 a_9 c_9 r_9 h_0 h_1 h_2 h_3 h_4 h_5 h_6 h_7 h_8 h_9 a_w c_w w h_w (by have q_:=hw (by decide);simp only [Yp,Hj,Hk,Hm] at q_;omega) hs ht hn hk) (fun u G' L' hle ⟨he,a1,c2,a3,c4,a5,c6,a7,c8,r9,hu,ho,hB⟩=>⟨he,a1,c2,hu,ho,a3,c4,a5,c6,a7,c8,r9,hB⟩) (fun _ _ _ h=>h)
 | 3,_=>exact Zg.mono (Jk5 G b t a_0 c_0 a_1 c_1 a_9 c_9 r_9 h_0 h_1 h_2 h_3 h_4 h_5 h_6 h_7 h_8 h_9 a_w c_w w h_w (by have q_:=hw (by decide);simp only [Yp,Hj,Hk,Hm] at q_;omega) hs ht hn hk) (fun u G' L' hle ⟨he,a1,c2,a3,c4,a5,c6,a7,c8,r9,hu,ho,hB⟩=>⟨he,a1,c2,hu,ho,a3,c4,a5,c6,a7,c8,r9,hB⟩) (fun _ _ _ h=>h)
 | 4,_=>exact Zg.mono (Jnj G b t a_0 c_0 a_1 c_1 a_9 c_9 r_9 h_0 h_1 h_2 h_3 h_4 h_5 h_6 h_7 h_8 h_9 a_w c_w w h_w (by have q_:=hw (by decide);simp only [Yp,Hj,Hk,Hm] at q_;omega) hs ht hn hk) (fun u G' L' hle ⟨he,a1,c2,a3,c4,a5,c6,a7,c8,r9,hu,ho,hB⟩=>⟨he,a1,c2,hu,ho,a3,c4,a5,c6,a7,c8,r9,hB⟩) (fun _ _ _ h=>h)
 | 5,_=>exact Zg.mono (Jnk G b t a_0 c_0 a_1 c_1 a_9 c_9 r_9 h_0 h_1 h_2 h_3 h_4 h_5 h_6 h_7 h_8 h_9 a_w c_w w h_w hw2 hs ht hn hk) (fun u G' L' hle ⟨he,a1,c2,a3,c4,a5,c6,a7,c8,r9,hu,ho,hB⟩=>⟨he,a1,c2,hu,ho,a3,c4,a5,c6,a7,c8,r9,hB⟩) (fun _ _ _ h=>h)
 | 6,_=>exact Zg.mono (Jnl G b t a_0 c_0 a_1 c_1 a_9 c_9 r_9 h_0 h_1 h_2 h_3 h_4 h_5 h_6 h_7 h_8 h_9 a_w c_w w h_w (by have q_:=hw (by decide);simp only [Yp,Hj,Hk,Hm] at q_;omega) hs ht hn hk) (fun u G' L' hle ⟨he,a1,c2,a3,c4,a5,c6,a7,c8,r9,hu,ho,hB⟩=>⟨he,a1,c2,hu,ho,a3,c4,a5,c6,a7,c8,r9,hB⟩) (fun _ _ _ h=>h)
 | 7,_=>exact Zg.mono (Jpg G b t a_0 c_0 a_1 c_1 a_9 c_9 r_9 h_0 h_1 h_2 h_3 h_4 h_5 h_6 h_7 h_8 h_9 a_w c_w w h_w ht) (fun u G' L' hle ⟨he,a1,c2,hu,ho,hB⟩=>⟨he,a1,c2,hu,ho,a_0,c_0,a_1,c_1,a_9,c_9,r_9,h_0.mono hle,h_1.mono hle,h_2,h_3,h_4,h_5,h_6,h_7,h_8,h_9.mono hle,hB⟩) (fun _ _ _ h=>h)
 | 8,_=>exact Zg.mono (Jnm G b t a_0 c_0 a_1 c_1 a_9 c_9 r_9 h_0 h_1 h_2 h_3 h_4 h_5 h_6 h_7 h_8 h_9 a_w c_w w h_w (by have q_:=hw (by decide);simp only [Yp,Hj,Hk,Hm] at q_;omega) hs ht) (fun u G' L' hle ⟨he,a1,c2,hu,ho,hB⟩=>⟨he,a1,c2,hu,ho,a_0,c_0,a_1,c_1,a_9,c_9,r_9,h_0.mono hle,h_1.mono hle,h_2,h_3,h_4,h_5,h_6,h_7,h_8,h_9.mono hle,hB⟩) (fun _ _ _ h=>h)
 | 9,_=>exact Zg.mono (JjY G b t a_0 c_0 a_1 c_1 a_9 c_9 r_9 h_0 h_1 h_2 h_3 h_4 h_5 h_6 h_7 h_8 h_9 a_w c_w w h_w ht) (fun u G' L' hle ⟨he,a1,c2,hu,ho,hB⟩=>⟨he,a1,c2,hu,ho,a_0,c_0,a_1,c_1,a_9,c_9,r_9,h_0.mono hle,h_1.mono hle,h_2,h_3,h_4,h_5,h_6,h_7,h_8,h_9.mono hle,hB⟩) (fun _ _ _ h=>h)
 | 10,_=>exact Zg.mono (Jnn G b t a_0 c_0 a_1 c_1 a_9 c_9 r_9 h_0 h_1 h_2 h_3 h_4 h_5 h_6 h_7 h_8 h_9 a_w c_w w h_w (by have q_:=hw (by decide);simp only [Yp,Hj,Hk,Hm] at q_;omega) hs ht) (fun u G' L' hle ⟨he,a1,c2,hu,ho,hB⟩=>⟨he,a1,c2,hu,ho,a_0,c_0,a_1,c_1,a_9,c_9,r_9,h_0.mono hle,h_1.mono hle,h_2,h_3,h_4,h_5,h_6,h_7,h_8,h_9.mono hle,hB⟩) (fun _ _ _ h=>h)
 | 11,_=>exact Zg.mono (Jno G b t a_0 c_0 a_1 c_1 a_9 c_9 r_9 h_0 h_1 h_2 h_3 h_4 h_5 h_6 h_7 h_8 h_9 a_w c_w w h_w ht) (fun u G' L' hle ⟨he,a1,c2,hu,ho,hB⟩=>⟨he,a1,c2,hu,ho,a_0,c_0,a_1,c_1,a_9,c_9,r_9,h_0.mono hle,h_1.mono hle,h_2,h_3,h_4,h_5,h_6,h_7,h_8,h_9.mono hle,hB⟩) (fun _ _ _ h=>h)
theorem Jqk {P:Program} {n:Nat} {w0:World} {G0 G:J5} {fn:Func} {c₀:Frame} {cs:List Frame} {u:FrameMode} {R:Ending→FrameMode→World→Prop} {fr:Bf} {L:Bl} (hr:fn.results=#[]) (hR:∀ w,St w0 G0 w G L→R (.returned (.tuple #[])) u w) :
  TQ ⟨P,n,[],w0,G0⟩ (fun e a w=>bodyPostS P fn c₀ cs R e a ({ c₀ with mode:=u }::cs) w) .normal fr G L:=fun a w ha hw=>⟨ha.defers,u,rfl,_,results_none hr _ _ _,hR w hw⟩
theorem Jl2 {P:Program} {n:Nat} {w0:World} {G0 G:J5} {fn:Func} {R:Ending→World→Prop} {fr:Bf} {L:Bl} {fv:Fn} {cap dargs:Array Value} {f:FuncId} {args:Array Value} (is:List Nat) (vs:Bv)
  (hi:∀ w,(invoke (.fn fv cap) dargs).run P w=.ok (.enter f args) w)
  (hD:∀ w,St w0 G0 w G L→CallsD P f args .returning w fun e u' w'=>e=.returned (.tuple #[])∧u'=.returning∧St w0 G0 w' G L)
  (hR:∀ w,St w0 G0 w G L→R (.returned (QC vs)) w)
  (h:(fn.results.toList.length,fn.results.toList.length,(fn.results.toList.zip is).map (Jiy P fr L))=(is.length,vs.length,((fn.results.toList.zip is).zip vs).map (Jiz L)):=by as_aux_lemma=>kernel_rfl) :
  TQ ⟨P,n,[{ target:=.fn fv cap,args:=dargs }],w0,G0⟩ (bodyPostD P fn R) .ret fr G L:=fun a w ha hw=>by
 show Leaves P fn a.tmps R a.defers .returning w
 rw [ha.defers]
 refine leaves_cons (f:=f) (args:=args) (by simp) (hi w) ((hD w hw).mono ?_)
 rintro e u' w' ⟨rfl,rfl,hw'⟩
 exact ⟨QC vs,Jal (a:=a) ⟨ha.size,ha.defers,ha.slot⟩ hw' fn is vs h,hR w' hw'⟩
theorem JcA {P:Program} {n:Nat} {w0:World} {G0 G:J5} {fn:Func} {R:Ending→World→Prop} {fr:Bf} {L:Bl} (L':Bl) {fv:Fn} {cap dargs:Array Value} {f:FuncId} {args:Array Value} {v:Value} (is:List Nat) (vs:Bv)
  (hi:∀ w,(invoke (.fn fv cap) dargs).run P w=.ok (.enter f args) w)
  (hD:∀ w,St w0 G0 w G L→CallsD P f args (.panicking (JfK v)) w fun e u' w'=>e=.returned (.tuple #[])∧u'=.panicking [{ v:=v,recovered:=true }]∧St w0 G0 w' G L')
  (hR:∀ w,St w0 G0 w G L'→R (.returned (QC vs)) w)
  (h:(fn.results.toList.length,fn.results.toList.length,(fn.results.toList.zip is).map (Jiy P fr L'))=(is.length,vs.length,((fn.results.toList.zip is).zip vs).map (Jiz L')):=by as_aux_lemma=>kernel_rfl) :
  TQ ⟨P,n,[{ target:=.fn fv cap,args:=dargs }],w0,G0⟩ (bodyPostD P fn R) (.panic (JfK v)) fr G L:=fun a w ha hw=>by
 show Leaves P fn a.tmps R a.defers (.panicking (JfK v)) w
 rw [ha.defers]
 refine leaves_cons (f:=f) (args:=args) (by simp) (hi w) ((hD w hw).mono ?_)
 rintro e u' w' ⟨rfl,rfl,hw'⟩
 exact ⟨QC vs,Jal (a:=a) ⟨ha.size,ha.defers,ha.slot⟩ hw' fn is vs h,hR w' hw'⟩
theorem Jql {P:Program} {f:FuncId} {args:Array Value} {G:J5} {L:Bl} {Post PP:Value→J5→Bl→Prop} {fn:Func} {c:Code}
  (hf:P.funcs[f]? = some fn) (n:Nat) (fr:Bf) (hb:fn.body=some c)
  (h:∀ w0 G0,TW P w0→TC ⟨P,n,[],w0,G0⟩ c (bodyPostD P fn (BPX w0 G0 G Post PP)) fr G L)
  (hn:fn.ntmps=n:=by rfl) (ha:Nat.ble args.size n=true:=by rfl)
  (hfr:(fr.map fun p=>args[p.1]?)=fr.map fun p=>some p.2:=by as_aux_lemma=>kernel_rfl):V4 P f args G L Post PP:=fun w0 G0 w hT hw =>
 calls_of_wp_defers hf hb (h w0 G0 hT _ w (by rw [hn];exact JfC fr hfr (He ha)) hw)
theorem JcB (G:J5) (b:Nat) (e:Int) (x:Bb) (he:-9223372036854775808≤e∧e<9223372036854775808) (Lr:Bl) (w0:World) (G0:J5) (w:World) (hT:TW Tryz.prog w0) (hw:St w0 G0 w G ([Sg b 0 [Sr x]]::Lr)) :
  CallsD Tryz.prog 45 #[Pt b 0] (.panicking (JfK (Y5 e))) w (fun en u' w'=>en=.returned (.tuple #[])∧u'=.panicking [{ v:=Y5 e,recovered:=true }]∧St w0 G0 w' G ([Sg b 0 [Sr ([101,114,114,32]++Lib.itoa e)]]::Lr)):=by
 have hq_:=Jcw e he
 refine callsD_of_wpS Tryz.func45 rfl (fun c₀ cs hu=>?_)
 apply wpS_seq
 apply wpS_region
 rw [show List.range (Array.size _)=[0,1] from rfl]
 simp [wpOpsS,go_sem,recoverD,hu,Exit.thenS]
 refine wpS_of_wp ?_
 refine (show TC ⟨Tryz.prog,19,[],w0,G0⟩ _ _ [(0,Pt b 0),(1,Y5 e)] G ([Sg b 0 [Sr x]]::Lr) from ?_) _ w ⟨by simp,rfl,fun t v h=>?_⟩ hw
 rotate_left
 ·
  obtain ⟨p,hp,rfl,rfl⟩:=Jb0 h
  simp only [Hr,Hq,or_false] at hp
  rcases hp with rfl | rfl <;> simp
 refine Jg [0,0] [(6,Bo true)] ?_
 refine J0 ?_
 refine Jf ?_
 refine Jd ?_
 refine Jb [0,0,0,0,0] [(10,.agg #[I e]),(11,Bo true)] ?_
 refine Jv 2 #[I 0] 122 (fun b1=>?_)
 refine JW [3,0] [(3,Bo true)] ([Sg b1 0 [I e]]::[Sg b 0 [Sr x]]::Lr) ?_
 refine Je ?_
 refine Jc ?_
 refine Jf ?_
 refine Jg [0,0] [(13,Bo false)] ?_
 refine Qr ?_
 refine Jq ?_
 refine Jc ?_
 refine Jd ?_
 refine Jb [0,2] [(16,I e)] ?_
 refine JaY 17 (Sr (Lib.itoa e)) hT (JfT G e he) ?_
 refine Z1 18 ([101,114,114,32]) (Lib.itoa e) (by simp;omega) ?_
 refine JW [5] [] ([Sg b1 0 [I e]]::[Sg b 0 [Sr (([101,114,114,32])++(Lib.itoa e))]]::Lr) ?_
 refine Je ?_
 refine Qy ([Sg b 0 [Sr (([101,114,114,32])++(Lib.itoa e))]]::Lr) ?_
 exact Jqk rfl (fun w hw=>⟨rfl,rfl,hw⟩)
theorem Jl3 (G:J5) (b:Nat) (L:Bl) (w0:World) (G0:J5) (w:World) (hw:St w0 G0 w G L) :
  CallsD Tryz.prog 45 #[Pt b 0] .returning w (fun en u' w'=>en=.returned (.tuple #[])∧u'=.returning∧St w0 G0 w' G L):=by
 refine callsD_of_wpS Tryz.func45 rfl (fun c₀ cs hu=>?_)
 apply wpS_seq
 apply wpS_region
 rw [show List.range (Array.size _)=[0,1] from rfl]
 simp [wpOpsS,go_sem,recoverD,hu,Exit.thenS]
 refine wpS_of_wp ?_
 refine (show TC ⟨Tryz.prog,19,[],w0,G0⟩ _ _ [(0,Pt b 0),(1,.nilIface)] G L from ?_) _ w ⟨by simp,rfl,fun t v h=>?_⟩ hw
 rotate_left
 ·
  obtain ⟨p,hp,rfl,rfl⟩:=Jb0 h
  simp only [Hr,Hq,or_false] at hp
  rcases hp with rfl | rfl <;> simp
 refine Jg [0,0] [(6,Bo false)] ?_
 refine Qr ?_
 refine Jq ?_
 exact fun a w ha hw=>⟨ha.defers,.returning,by rw [← hu],_,results_none rfl _ _ _,rfl,rfl,hw⟩
theorem Ja5 {C:Cx} {Q:Bq} {fr:Bf} {G:J5} {L:Bl} {ops:Bp} {rest:List Oper} {o:Oper} (d:Nat) {k:FuncId} {args:Array Value} {Ls Lr:Bl} {Post PP:Value→J5→Bl→Prop} (hk:JaV C.P k) (hT:TW C.P C.w0) (hc:Zg C.P k args G Ls Post PP)
  (hp:∀ v G' L1,J5.le G G'→PP v G' L1→TQ C Q (.panic (JfK v)) fr G' (L1++Lr))
  (h:∀ v G' L1,J5.le G G'→Post v G' L1→KA C ops Q rest ((d,v)::fr) G' (L1++Lr)) (hL:L=Ls++Lr:=by rfl)
  (hx:Jdm fr o=some (k,args,#[]):=by as_aux_lemma=>kernel_rfl)
  (hw:Qu ops fr o=some true:=by rfl) (hd:o.dst=some d:=by rfl) (hn:Nat.blt d C.n=true:=by rfl) (hsel:Zj o.op=false:=by rfl)
  (hcov:o.op.operands.toList.all (cov fr)=true:=by as_aux_lemma=>kernel_rfl):KA C ops Q (o::rest) fr G L:=by
 refine KG (f:=k) (args:=args) d hT hc hp h hL hw hd hn hsel hcov ?_
 intro w
 unfold Jdm at hx
 split at hx
 case h_2=>cases hx
 rename_i t as_ ty hop
 split at hx
 case h_2=>cases hx
 rename_i k' caps' hv
 cases hx
 simp [execOp,hop,resolve,hv,Deferred.ofValue,invoke]
 exact hk _ _
theorem Ze (s:Bb):(JJ s).length≤s.length+1:=by
 have h1:=Lib.splitB_all ⟨#[32]⟩ (by decide) 0 _ (B s) rfl
 have h2:=Lib.countB_le ⟨#[32]⟩ (by decide) (B s).size (B s) (Nat.le_refl _)
 have h3:=congrArg Hs (Jb1 s)
 rw [Hx,h1] at h3
 rw [JhJ] at h2
 omega
theorem Jir:∀ c,c<12→JaV Tryz.prog (Jad c)
 | 0,_=>fun _ _=>by kernel_rfl
 | 1,_=>fun _ _=>by kernel_rfl
 | 2,_=>fun _ _=>by kernel_rfl
 | 3,_=>fun _ _=>by kernel_rfl
 | 4,_=>fun _ _=>by kernel_rfl
 | 5,_=>fun _ _=>by kernel_rfl
 | 6,_=>fun _ _=>by kernel_rfl
 | 7,_=>fun _ _=>by kernel_rfl
 | 8,_=>fun _ _=>by kernel_rfl
 | 9,_=>fun _ _=>by kernel_rfl
 | 10,_=>fun _ _=>by kernel_rfl
 | 11,_=>fun _ _=>by kernel_rfl
 | n+12,h=>by omega
theorem ev_len (s:Kx) (l:List K6):(Jt s l).2.1.length≤64*200:=by
 by_cases h:(Jt s l).2.2=0
 ·
  obtain ⟨h1,h2,h3⟩:=Jik h
  have hb:=Jaz h1
  obtain ⟨_,b2,b3,b4⟩:=Jcg h1
  obtain ⟨m,e,hm⟩:=(JoT l (t:=QH s) (by rw [b3];exact hb.1)).ev
  rw [h3]
  simp only
  rw [e]
  simp [QH] at hm ⊢
  omega
 · rw [JoU h];simp
theorem Jl4:∀ (l:List Yj) (n:Nat) (m:List Int),EvI n m→EvI (n+2*l.length) (l.foldl VO m)
 | [],n,m,h=>h
 | x::l,n,m,h=>by
  have h1:EvI (n+2) (VO m x):=by
   unfold VO
   split
   · exact (h.bump _).bump _
   · exact JdW (h.bump _) (by omega)
  have:=Jl4 l (n+2) _ h1
  rw [Hd]
  exact JdW this (by omega)
def Jbe (l:Bs):Prop:=l.length≤10∧∀ x∈l,x.length≤21
theorem WM:Jbe []:=⟨by simp,by simp⟩
theorem Jde {l:List Int} (h:l.length≤10) (h2:∀ n∈l,-9223372036854775808≤n∧n<9223372036854775808):Jbe (l.map Lib.itoa):=⟨by simpa using h,fun x hx=>by obtain ⟨n,hn,rfl⟩:=List.mem_map.1 hx;exact Jcw n (h2 n hn)⟩
theorem Jgw (t:KD) (w:Bs):Jbe (Jdc t w).1:=by
 unfold Jdc
 split
 · exact WM
 ·
  rename_i h
  have q:=ZF (Vb (Hv.1 h)).1
  refine Jde (by simp) ?_
  intro n hn
  simp only [Hr,Hq,or_false] at hn
  rcases hn with rfl | rfl | rfl <;> omega
theorem JcT (t:KD) (w:Bs):Jbe (Yz t w).1:=by
 unfold Yz
 split
 · exact WM
 ·
  have q:=Jl4 (Jt t.setup t.deeds).2.1 0 _ EvI.start
  have q2:=ev_len t.setup t.deeds
  refine Jde (by rw [Jpi,q.1];omega) fun n hn=>?_
  have:=q.2 n hn
  omega
theorem Je7 (t:KD) (w:Bs):Jbe (Y6 t w).1:=by
 unfold Y6
 split
 · exact WM
 ·
  split
  · exact WM
  ·
   rename_i h
   split
   ·
    rename_i o ho
    have q:=Qb.1 ((Vb (Hv.1 h)).2.2.2.2.2.2.1 _ _ ho).1
    have q2:=Zl q.2.1
    refine Jde (by simp) ?_
    intro n hn
    simp only [Hr,Hq,or_false] at hn
    rcases hn with rfl | rfl <;> omega
   · exact WM
theorem Je8 (t:KD) (w:Bs):Jbe (Vz t w).1:=by
 unfold Vz
 split
 · exact WM
 ·
  split
  · exact WM
  ·
   refine ⟨by simp,fun x hx=>?_⟩
   rw [Hz.1 hx]
   have:=JaZ (W9 (Jt t.setup t.deeds).1.clerk.heads)
   exact Jcw _ (by omega)
theorem JjZ (t:KD) (w:Bs):Jbe (ZG t w).1∨∃ v,(ZG t w).1=[[43],v]:=by
 unfold ZG
 split
 · exact .inl WM
 split
 · exact .inl WM
 split
 · exact .inl WM
 split
 · exact .inl WM
 split
 · exact .inl ⟨by simp,by simp⟩
 · exact .inr ⟨_,rfl⟩
theorem Jgx (t:KD) (w:Bs):∀ c,Jbe (QN c t w).2.1∨∃ v,(QN c t w).2.1=[[43],v]
 | 0 | 1 | 2 | 3 | 4 | 5 | 6=>.inl WM
 | 7=>.inl (Jgw t w)
 | 8=>JjZ t w
 | 9=>.inl (JcT t w)
 | 10=>.inl (Je7 t w)
 | 11=>.inl (Je8 t w)
 | _+12=>.inl WM
theorem Jis:∀ (l:Bs),(∀ x∈l,x.length≤21)→Lib.lens l≤21*l.length
 | [],_=>by simp [Lib.lens]
 | x::l,h=>by
  have h1:=h x (List.mem_cons_self ..)
  have h2:=Jis l fun y hy=>h y (List.mem_cons_of_mem _ hy)
  simp [Lib.lens] at h2 ⊢;omega
theorem Jit (c:Nat) (t:KD) (w:Bs):(QN c t w).2.1.length≤10:=by
 rcases Jgx t w c with h | ⟨v,h⟩
 · exact h.1
 · rw [h];simp
theorem JcC (c:Nat) (t:KD) (w:Bs) (h:∀ x∈(QN c t w).2.1,x.length≤140737488351232):(Lib.join (([[111,107]]:Bs)++(QN c t w).2.1) [32]).length≤140737488355328:=by
 rw [List.singleton_append,Lib.join_length]
 rcases Jgx t w c with hs | ⟨v,hv⟩
 ·
  have:=Jis _ hs.2
  have h10:=hs.1
  simp [Lib.lens] at this ⊢
  omega
 ·
  have:=h v (by rw [hv];simp)
  rw [hv]
  simp [Lib.lens]
  omega
theorem JdX {G:J5} {a:Ba} {c:Nat} {l:Bs} (h:RS ES G a c l):∀ x∈l,x.length≤140737488351232:=fun x hx=>by
 obtain ⟨k,hk,rfl⟩:=List.mem_iff_getElem.1 hx
 obtain ⟨b,o,rfl⟩:=h.addr hk
 obtain ⟨cs,hc,_⟩:=h.get (List.getElem?_eq_getElem hk)
 exact hc.2
def okW:Bb:=[111,107]
def Jbf (t:KD) (s:Bb):Int:=if KN (V3 (JJ s) 0)=12 then 1 else if 0≤Yp (KN (V3 (JJ s) 0))∧¬ ((JJ s).length:Int)-1=Yp (KN (V3 (JJ s) 0)) then 3 else (QN (KN (V3 (JJ s) 0)) t ((JJ s).drop 1)).2.2
theorem dErr12 {t:KD} {s x:Bb} (hx:(JJ s)[0]? = some x) (h:KN x=12):Jbf t s=1:=by
 unfold Jbf;rw [← Q2 hx,if_pos h]
theorem dErr3 {t:KD} {s x:Bb} (hx:(JJ s)[0]? = some x) (h:KN x<12) (h1:0≤Yp (KN x)) (h2:¬ ((JJ s).length:Int)-1=Yp (KN x)):Jbf t s=3:=by
 unfold Jbf;rw [← Q2 hx,if_neg (by omega),if_pos ⟨h1,h2⟩]
theorem JhB {t:KD} {s x:Bb} (hx:(JJ s)[0]? = some x) (h:KN x<12) (h1:¬ (0≤Yp (KN x)∧¬ ((JJ s).length:Int)-1=Yp (KN x))):Jbf t s=(QN (KN x) t ((JJ s).drop 1)).2.2:=by
 unfold Jbf;rw [← Q2 hx,if_neg (by omega),if_neg h1]
abbrev sm (e:Int):Prop:=0≤e∧e≤99
theorem sm_if {p:Prop} [Decidable p] {a b:Int} (ha:sm a) (hb:sm b):sm (if p then a else b):=by split <;> assumption
theorem Jdf {α:Type} {p:Prop} [Decidable p] {a b:α×Int} (ha:sm a.2) (hb:sm b.2):sm (if p then a else b).2:=by split <;> assumption
theorem sm_ifq {α β:Type} {p:Prop} [Decidable p] {a b:α×β×Int} (ha:sm a.2.2) (hb:sm b.2.2):sm (if p then a else b).2.2:=by split <;> assumption
theorem sm_ifr {α:Type} {p:Prop} [Decidable p] {a b:Int×α} (ha:sm a.1) (hb:sm b.1):sm (if p then a else b).1:=by split <;> assumption
theorem smG {e:Int} (h:sm e:=by repeat' first | assumption | refine sm_if ?_ ?_ | refine Jdf ?_ ?_ | refine sm_ifq ?_ ?_ | refine sm_ifr ?_ ?_ | (dsimp only [sm];omega)):sm e:=h
theorem sm_tr (n v:Bb):sm (KJ n v):=by unfold KJ;exact smG
theorem Jpl (l:List Kc):∀ (r:List Kc) (i:Nat),sm (JaJ l i r)
 | [],_=>(by decide:sm 0)
 | x::r,i=>by have:=sm_tr x.name x.value;have:=Jpl l r (i+1);unfold JaJ;exact smG
theorem Jl5 (l:List Kc):sm (Kq l):=by have:=Jpl l l 0;unfold Kq;exact smG
theorem sm_po (n:Bb):sm (KM n).2:=by unfold KM;exact smG
theorem Jpm (h:JX):sm (JK h):=by unfold JK;exact smG
theorem sm_ta (l:List Kc) (q:Bb):sm (JY l q).2:=by have:=Jl5 l;unfold JY;exact smG
theorem sm_pr (p:Q4):sm (QP p):=by have:=Jl5 p.entries;unfold QP;exact smG
theorem sm_ps (p:Q4):sm (K8 p).2:=by have:=sm_pr p;unfold K8;exact smG
theorem sm_prt (p:Q4):sm (Wj p).2:=by have:=sm_ps p;unfold Wj;exact smG
theorem sm_ph (r:Int) (p:Q4):sm (Zd r p):=by have:=sm_prt p;unfold Zd;exact smG
theorem sm_tf (l:List Kc) (n:Bb):sm (JH l n).2.2:=by have:=Jl5 l;unfold JH;exact smG
theorem sm_tg (l:List Kc) (n:Bb):sm (YP l n).2.2:=by have:=sm_tf l n;unfold YP;exact smG
theorem sm_pt (r:Int) (p:Q4):sm (ZM r p).2.2:=by have:=sm_ph r p;have:=sm_tg p.entries p.name;unfold ZM;exact smG
theorem sm_st (r:Q5):sm (JG r).2.2:=by have:=Jpm r.head;have:=sm_pt r.head.root r.proof;unfold JG;exact smG
theorem sm_pm (l:List Kc) (n:Bb):sm (Qe l n).2:=by have:=Jl5 l;have:=sm_po n;unfold Qe;exact smG
theorem sm_qr (a:ZD):sm (KI a):=by unfold KI Wc;exact smG
theorem sm_ar:∀ l:List ZD,sm (Z0 l)
 | []=>(by decide:sm 0)
 | a::l=>by have:=sm_qr a;have:=sm_ar l;unfold Z0;exact smG
theorem sm_qc (q:Q3):sm (Ko q):=by have:=sm_ar q.wait;unfold Ko;exact smG
theorem sm_he:∀ (l:List JX) (i:Nat),sm (Vr l i).1
 | [],_=>(by decide:sm 0)
 | h::l,i=>by have:=Jpm h;have:=sm_he l (i+1);unfold Vr;exact smG
theorem sm_cc (l:List JX):sm (Ki l).1:=by have:=sm_he l 0;unfold Ki;exact smG
theorem sm_be:∀ (bs:List (List Kc)) (hs:List JX),sm (YM hs bs)
 | [],hs=>by unfold YM;exact (by decide:sm 0)
 | l::bs,hs=>by have:=sm_ta l [];have:=sm_be bs (hs.drop 1);unfold YM;exact smG
theorem sm_cb (c:KT):sm (Kh c):=by
 have:=sm_qc c.queue;have:=sm_cc c.heads;have:sm (QM c):=by
  have:=sm_be c.books c.heads;unfold QM;exact smG
 unfold Kh;exact smG
theorem sm_sl (c:KT) (n:Bb) (e:Int):sm (JL c n e).2:=by
 have:sm (KH c e).2:=by have:=sm_cb c;unfold KH;exact smG
 have:=sm_pm (KH c e).1 n;unfold JL;exact smG
theorem sm_nm:∀ l p:Bs,sm (nmE p l)
 | [],p=>by unfold nmE;exact (by decide:sm 0)
 | n::l,p=>by have:=sm_nm l (p++[n]);unfold nmE;exact smG
theorem Jl6 (s:Kx) (l:List K6):sm (Jt s l).2.2:=by
 have:sm (JbW s l):=by
  have:sm (QQ s):=by
   have:sm (J7 s.most s.batch s.every).2:=by unfold J7;exact smG
   have:sm (KR s.least s.top s.lost).2:=by unfold KR;exact smG
   have:=sm_nm s.names []
   unfold QQ;exact smG
  unfold JbW;exact smG
 unfold Jt;exact smG
theorem Jpn (s:Bb):sm (Kb s).2:=by rcases JjR s with h | h <;> rw [h] <;> decide
theorem Jl7 (l:Bs):sm (KK l).2:=by unfold KK;exact smG
theorem Jk9 (t:KD) (s:Kx):sm (W8 t s).2:=by have:=Jl6 s [];unfold W8;exact smG
theorem Jla (t:KD) (l:List K6):sm (ZO t l).2:=by unfold ZO;exact smG
theorem Jj0 (t:KD) (w:Bs) (f:List Int→Kx):sm (Je6 t w f).2:=by have:=Jl7 w;have:=Jk9 t (f (KK w).1);unfold Je6;exact smG
theorem sm_run (c:Nat) (t:KD) (w:Bs):sm (QN c t w).2.2:=by
 have hp:=Jl6 t.setup t.deeds;have n0:=Jpn (V3 w 0);have n1:=Jpn (V3 w 1);have nn:=Jl7 w
 unfold QN
 split <;> dsimp only
 · exact Jj0 ..
 · exact Jj0 ..
 · unfold WQ;have:=Jk9 t (Jpf t.setup (Kb (V3 w 0)).1);exact smG
 · unfold Wx;refine Jdf n1 (Jk9 ..)
 · unfold Zu;exact Jdf n0 (Jla ..)
 · unfold Zv;exact Jdf nn (Jla ..)
 · unfold Zw;exact Jdf n0 (Jla ..)
 · unfold Jdc;exact smG
 · unfold ZG;have:=sm_sl (Jt t.setup t.deeds).1.clerk (V3 w 0) (Kb (V3 w 1)).1;have:=sm_st (JL (Jt t.setup t.deeds).1.clerk (V3 w 0) (Kb (V3 w 1)).1).1;exact smG
 · unfold Yz;exact smG
 · unfold Y6;refine Jdf n0 (Jdf hp ?_);split <;> (dsimp only [sm];omega)
 ·
  unfold Vz;have:sm (Kw (W9 (Jt t.setup t.deeds).1.clerk.heads)).2:=by rw [Yv];exact Jpm _
  exact smG
 · decide
theorem JbQ (t:KD) (s:Bb):-9223372036854775808≤Jbf t s∧Jbf t s<9223372036854775808:=by
 have:sm (Jbf t s):=by have:=sm_run (KN (V3 (JJ s) 0)) t ((JJ s).drop 1);unfold Jbf;exact smG
 omega
def ZH (t:KD) (s:Bb):KD:=if ¬ Jbf t s=0 then t else (QN (KN (V3 (JJ s) 0)) t ((JJ s).drop 1)).1
def VB (t:KD) (s:Bb):Bb:=if ¬ Jbf t s=0 then [101,114,114,32]++Lib.itoa (Jbf t s) else Lib.join (okW::(QN (KN (V3 (JJ s) 0)) t ((JJ s).drop 1)).2.1) [32]
set_option maxRecDepth 20000 in
theorem do_con (G:J5) (b:Nat) (t:KD) (a_0:Ba) (c_0:Nat) (a_1:Ba) (c_1:Nat) (a_9:Ba) (c_9:Nat) (r_9:Bg) (h_0:RS ES G a_0 c_0 t.setup.names) (h_1:RS EU G a_1 c_1 t.setup.keys) (h_2:rI t.setup.most) (h_3:rI t.setup.batch) (h_4:rI t.setup.every) (h_5:rI t.setup.least) (h_6:rI t.setup.top) (h_7:rI t.setup.lost) (h_8:rI t.setup.reach) (h_9:JR Wh G a_9 c_9 t.deeds r_9) (ht:t.deeds.length≤200) (hn:t.setup.names.length≤1000) (hk:t.setup.keys.length≤1000) (s:Bb) (hls:s.length≤1048576) (hS:dS (KN (V3 (JJ s) 0))=true) (hsp:∀ x∈JJ s,x.length≤1048576):Zg Tryz.prog 27 #[Pt b 0,Sr s] G [[Sg b 0 [Sl a_0 t.setup.names.length c_0,Sl a_1 t.setup.keys.length c_1,I t.setup.most,I t.setup.batch,I t.setup.every,I t.setup.least,I t.setup.top,I t.setup.lost,I t.setup.reach,Sl a_9 t.deeds.length c_9]],r_9] (fun u G' L'=>u=Sr (VB t s)∧Jk8 (ZH t s) G' b L') (fun _ _ _=>False):=by
 intro Lr
 refine Jql Tryz.func27 35 [(0,Pt b 0),(1,Sr s)] rfl (fun w0 G0 hT=>?_)
 show TC _ _ _ _ _ ([Sg b 0 (J3 t a_0 c_0 a_1 c_1 a_9 c_9)]::r_9::Lr)
 refine Jf (Jd (Jv 4 #[Sr ([])] 9 (fun b1=>Je (Jc (Jf (Jd (Jb [0] [(7,Fv 45 #[Pt b1 0])] (Jkg { target:=.fn (.func 45) #[Pt b1 0],args:=#[] } (Je (Jc (Jf (Jd (Jb [0] [(8,Sr s)] (JN 9 (Jmo G s J4) (fun v G1 L1 hl1 hp=>?_)))))))))))))))
 obtain ⟨a1,c1,_,rfl,hr1,rfl⟩:=hp
 refine Jb [0] [(5,Sl a1 ((JJ s).length) c1)] (Je (Jc (Jf (Jd (Jb [0] [(10,Sl a1 ((JJ s).length) c1)] (Wg (E:=ES) 0 hr1 (by have q_:=Ze s;(try simp only [ES,Ha,Hd,Hf]);omega) (fun G2 hl2 hs1=>?_)))))))
 obtain ⟨b2,o1,rfl⟩:=RS.addr hs1 (k:=0) (by (have q_:=Vp s;have q2_:=Ze s;omega))
 obtain ⟨x1,hx1⟩:=QS (l:=JJ s) (k:=0) (by (have q_:=Vp s;have q2_:=Ze s;omega))
 obtain ⟨_,⟨rfl,_⟩,hc1⟩:=RS.get hs1 hx1
 refine JV (b:=b2) (off:=o1) (len:=(JJ s).length) (cap:=c1) (ik:=.i64) 11 9 1 0 (by (have q_:=Vp s;have q2_:=Ze s;omega)) (JO 12 9 (cs:=[Sr x1]) 0 (Sr x1) hc1 (KG (Ls:=[]) (Lr:=([]::[Sg b1 0 [Sr ([])]]::[Sg b 0 (J3 t a_0 c_0 a_1 c_1 a_9 c_9)]::r_9::Lr)) 13 hT ((Jpc G2 x1).frame) (fun v G3 L1 hl3 hp=>?_) (fun v G3 L1 hl3 hp=>?_)))
 obtain ⟨hc2,rfl,rfl⟩:=hp
 refine J8 (Jk 1 ?_)
 have hq1:Jbf t s=1:=by
  exact dErr12 hx1 hc2
 refine JcA ([Sg b1 0 [Sr ([101,114,114,32]++Lib.itoa 1)]]::([]::[Sg b 0 (J3 t a_0 c_0 a_1 c_1 a_9 c_9)]::r_9::Lr)) [0] [Sr ([101,114,114,32]++Lib.itoa 1)] (fun _=>by kernel_rfl) (fun w hw=>JcB _ _ _ _ (by rw [← hq1];exact JbQ t s) _ _ _ w hT hw) (V5 (KB (Lr:=Lr) [[Sg b 0 (J3 t a_0 c_0 a_1 c_1 a_9 c_9)],r_9] (Ja (Ja hl1 hl2) hl3) ⟨?_,?_⟩))
 rw [VB,hq1,if_pos (by decide)];rfl
 rw [ZH,hq1,if_pos (by decide)];exact ⟨a_0,c_0,a_1,c_1,a_9,c_9,r_9,h_0.mono (Ja (Ja hl1 hl2) hl3),h_1.mono (Ja (Ja hl1 hl2) hl3),h_2,h_3,h_4,h_5,h_6,h_7,h_8,h_9.mono (Ja (Ja hl1 hl2) hl3),rfl⟩
 obtain ⟨_,rfl,rfl⟩:=hp
 refine Jv 6 #[I 0,.nilFunc] 127 (fun b3=>JW [3] [] ([Sg b3 0 [I (Yp (KN x1)),Fv (Jad (KN x1)) #[]]]::[]::[Sg b1 0 [Sr ([])]]::[Sg b 0 (J3 t a_0 c_0 a_1 c_1 a_9 c_9)]::r_9::Lr) (Je (Jc (Jf (Jf (Jd (Jb [0,2,0,0] [(17,Bo (decide (Yp (KN x1) ≥ 0)))] (QR [17] (decide (Yp (KN x1) ≥ 0)) (fun h1=>?_) (fun h1=>?_)))))))))
 refine Jb [0,0,0,0,2,0,0] [(24,Bo (!decide (Hg.wrap (((JJ s).length:Int)-1)=Yp (KN x1))))] ?_
 have e1:Hg.wrap (((JJ s).length:Int)-1)=((JJ s).length:Int)-1:=Hn _ (by (have q_:=Vp s;have q2_:=Ze s;omega))
 refine Kv 24 (Bo (!decide (((JJ s).length:Int)-1=Yp (KN x1)))) (show (Bo (!decide (Hg.wrap (((JJ s).length:Int)-1)=Yp (KN x1))):Value)=Bo (!decide (((JJ s).length:Int)-1=Yp (KN x1))) by simp only [e1]) ?_
 clear e1
 refine Je (Jc (Jl (!decide (((JJ s).length:Int)-1=Yp (KN x1))) (fun h2=>?_) (fun h2=>?_)))
 refine Jd (KG (Ls:=[]) (Lr:=([Sg b3 0 [I (Yp (KN x1)),Fv (Jad (KN x1)) #[]]]::[]::[Sg b1 0 [Sr ([])]]::[Sg b 0 (J3 t a_0 c_0 a_1 c_1 a_9 c_9)]::r_9::Lr)) 25 hT ((ZN G3 3).frame) (fun v G4 L1 hl4 hp=>?_) (fun v G4 L1 hl4 hp=>?_))
 obtain ⟨_,rfl,rfl⟩:=hp
 refine J8 (Jk 2 ?_)
 have hq2:Jbf t s=3:=by
  exact dErr3 hx1 J4 J4 (by omega)
 refine JcA ([Sg b1 0 [Sr ([101,114,114,32]++Lib.itoa 3)]]::([Sg b3 0 [I (Yp (KN x1)),Fv (Jad (KN x1)) #[]]]::[]::[Sg b 0 (J3 t a_0 c_0 a_1 c_1 a_9 c_9)]::r_9::Lr)) [0] [Sr ([101,114,114,32]++Lib.itoa 3)] (fun _=>by kernel_rfl) (fun w hw=>JcB _ _ _ _ (by rw [← hq2];exact JbQ t s) _ _ _ w hT hw) (V5 (KB (Lr:=Lr) [[Sg b 0 (J3 t a_0 c_0 a_1 c_1 a_9 c_9)],r_9] (Ja (Ja (Ja hl1 hl2) hl3) hl4) ⟨?_,?_⟩))
 rw [VB,hq2,if_pos (by decide)];rfl
 rw [ZH,hq2,if_pos (by decide)];exact ⟨a_0,c_0,a_1,c_1,a_9,c_9,r_9,h_0.mono (Ja (Ja (Ja hl1 hl2) hl3) hl4),h_1.mono (Ja (Ja (Ja hl1 hl2) hl3) hl4),h_2,h_3,h_4,h_5,h_6,h_7,h_8,h_9.mono (Ja (Ja (Ja hl1 hl2) hl3) hl4),rfl⟩
 obtain ⟨he1,rfl,rfl⟩:=hp
 exact absurd he1 (by decide)
 refine Jq (Jc ?_)
 refine Ye (σ:=Ba×Nat×Ba×Nat×Ba×Nat×Bg×J5) (fun q_=>(J5.le G3 q_.2.2.2.2.2.2.2)∧(RS ES q_.2.2.2.2.2.2.2 q_.1 q_.2.1 (((QN (KN x1) t ((JJ s).drop 1)).1).setup.names))∧(RS EU q_.2.2.2.2.2.2.2 q_.2.2.1 q_.2.2.2.1 (((QN (KN x1) t ((JJ s).drop 1)).1).setup.keys))∧(rI (((QN (KN x1) t ((JJ s).drop 1)).1).setup.most))∧(rI (((QN (KN x1) t ((JJ s).drop 1)).1).setup.batch))∧(rI (((QN (KN x1) t ((JJ s).drop 1)).1).setup.every))∧(rI (((QN (KN x1) t ((JJ s).drop 1)).1).setup.least))∧(rI (((QN (KN x1) t ((JJ s).drop 1)).1).setup.top))∧(rI (((QN (KN x1) t ((JJ s).drop 1)).1).setup.lost))∧(rI (((QN (KN x1) t ((JJ s).drop 1)).1).setup.reach))∧(JR Wh q_.2.2.2.2.2.2.2 q_.2.2.2.2.1 q_.2.2.2.2.2.1 (((QN (KN x1) t ((JJ s).drop 1)).1).deeds) q_.2.2.2.2.2.2.1)∧((QN (KN x1) t ((JJ s).drop 1)).2.2=0)) (fun q_=>[(4,Pt b1 0)]) (fun q_=>q_.2.2.2.2.2.2.2) (fun q_=>([Sg b 0 (J3 (QN (KN x1) t ((JJ s).drop 1)).1 q_.1 q_.2.1 q_.2.2.1 q_.2.2.2.1 q_.2.2.2.2.1 q_.2.2.2.2.2.1)]::q_.2.2.2.2.2.2.1::[]::[Sg b3 0 [I (Yp (KN x1)),Fv (Jad (KN x1)) #[]]]::[]::[Sg b1 0 [Sr (Lib.join (([[111,107]]:Bs)++((QN (KN x1) t ((JJ s).drop 1)).2.1)) [32])]]::Lr)) ?_ (fun q_ hs=>?_)
 obtain ⟨a2,c2,ea1,ec1,en1,eh1,hs2⟩:=RS.reslXD (hs1.mono hl3) 1 (by omega)
 refine Kt [0,6,7,8,9] (Wm [(1,Pt b3 1),(2,Fv (Jad (KN x1)) #[]),(3,Pt b 0),(4,Sl (At b2 o1) ((JJ s).length) c1),(5,Sl a2 (((JJ s).drop 1).length) c2)] (JF [] [(1,0),(2,2),(3,0),(4,0)] [5] [0,6] (Kf ?_ KY) (Kf ?_ (Kf ?_ KY))))
 refine Jr 5 31 (Sl a2 (((JJ s).drop 1).length) c2) [(30,Sl (At b2 o1) ((JJ s).length) c1)] (fun X=>?_)
 exact Ws (a:=At b2 o1) (len:=(JJ s).length) (cap:=c1) 31 1 (some (I 1)) none 1 ((JJ s).length) (.inr ⟨_,rfl⟩) (.inl ⟨rfl,rfl⟩) J4 ea1 ec1 en1 eh1 Jp
 refine Jz 0 [] (fun X=>?_)
 refine Km 26 1 #[Sr ([111,107])] 9 (fun b4=>JA [(0,Sl (At b4 0) 1 1)] (JF [] [(1,0),(2,4),(3,0),(4,0)] [5] [6] (Kf ?_ KY) (Kf ?_ KY)))
 refine Jr 5 31 (Sl a2 (((JJ s).drop 1).length) c2) [(30,Sl (At b2 o1) ((JJ s).length) c1)] (fun X=>?_)
 exact Ws (a:=At b2 o1) (len:=(JJ s).length) (cap:=c1) 31 1 (some (I 1)) none 1 ((JJ s).length) (.inr ⟨_,rfl⟩) (.inl ⟨rfl,rfl⟩) J4 ea1 ec1 en1 eh1 Jp
 refine Jz 6 [(4,Pt b1 0),(28,Fv (Jad (KN x1)) #[]),(29,Pt b 0),(31,Sl a2 (((JJ s).drop 1).length) c2)] (fun X=>?_)
 refine Jw 5 (Jw 5 ?_)
 have hB_:Jk8 t G3 b [[Sg b 0 (J3 t a_0 c_0 a_1 c_1 a_9 c_9)],r_9]:=⟨a_0,c_0,a_1,c_1,a_9,c_9,r_9,h_0.mono (Ja (Ja hl1 hl2) hl3),h_1.mono (Ja (Ja hl1 hl2) hl3),h_2,h_3,h_4,h_5,h_6,h_7,h_8,h_9.mono (Ja (Ja hl1 hl2) hl3),rfl⟩
 refine Ja5 (Ls:=[[Sg b 0 (J3 t a_0 c_0 a_1 c_1 a_9 c_9)],r_9]) (Lr:=([Sg b4 0 [Sr ([111,107])]]::[Sg b3 0 [I (Yp (KN x1)),Fv (Jad (KN x1)) #[]]]::[]::[Sg b1 0 [Sr ([])]]::Lr)) 32 (Jir _ J4) hT (Jfz (KN x1) J4 (by rw [Q2 hx1];exact hS) G3 b t _ hB_ ht hn hk a2 c2 ((JJ s).drop 1) hs2 (by intro hq_;rw [Hh];simp_all;omega) (by rw [Hh];have q2_:=Ze s;omega) (fun z_ hz_=>hsp z_ (Hp hz_))) (fun v G5 L1 hl5 hp=>?_) (fun v G5 L1 hl5 hp=>?_)
 obtain ⟨hne2,rfl,rfl⟩:=hp
 refine J8 (J8 (Jk 5 ?_))
 have hq3:Jbf t s=(QN (KN x1) t ((JJ s).drop 1)).2.2:=by
  exact JhB hx1 J4 (by omega)
 refine JcA ([Sg b1 0 [Sr ([101,114,114,32]++Lib.itoa ((QN (KN x1) t ((JJ s).drop 1)).2.2))]]::([Sg b 0 (J3 t a_0 c_0 a_1 c_1 a_9 c_9)]::r_9::[Sg b4 0 [Sr ([111,107])]]::[Sg b3 0 [I (Yp (KN x1)),Fv (Jad (KN x1)) #[]]]::[]::Lr)) [0] [Sr ([101,114,114,32]++Lib.itoa ((QN (KN x1) t ((JJ s).drop 1)).2.2))] (fun _=>by kernel_rfl) (fun w hw=>JcB _ _ _ _ (by rw [← hq3];exact JbQ t s) _ _ _ w hT hw) (V5 (KB (Lr:=Lr) [[Sg b 0 (J3 t a_0 c_0 a_1 c_1 a_9 c_9)],r_9] (Ja (Ja (Ja hl1 hl2) hl3) hl5) ⟨?_,?_⟩))
 rw [VB,hq3,if_pos hne2];rfl
 rw [ZH,hq3,if_pos hne2];exact ⟨a_0,c_0,a_1,c_1,a_9,c_9,r_9,h_0.mono (Ja (Ja (Ja hl1 hl2) hl3) hl5),h_1.mono (Ja (Ja (Ja hl1 hl2) hl3) hl5),h_2,h_3,h_4,h_5,h_6,h_7,h_8,h_9.mono (Ja (Ja (Ja hl1 hl2) hl3) hl5),rfl⟩
 obtain ⟨he3,a4,c4,rfl,hs4,hB1⟩:=hp
 have dn_:=Jit (KN x1) t ((JJ s).drop 1)
 obtain ⟨a5,c5,a6,c6,a7,c7,r2,hs5,hs6,w2,w3,w4,w5,w6,w7,w8,hr2,rfl⟩:=hB1
 refine JA [(6,Sl a4 ((QN (KN x1) t ((JJ s).drop 1)).2.1.length) c4)] (JF [1,2,3,4,5] [] [] [7] (Hb _) (Kf ?_ KY))
 refine Jz 7 [(26,Sl (At b4 0) 1 1),(32,Sl a4 ((QN (KN x1) t ((JJ s).drop 1)).2.1.length) c4)] (fun X=>?_)
 refine Jbm 33 9 2 (E:=ES) (JR.of_lit (E:=ES) (G:=G5) (b:=b4) [[Sr ([111,107])]] [[111,107]] ⟨⟨rfl,(He rfl)⟩,trivial⟩ (by simp)) hs4 (by have:=hs4.fit;simp only [ES] at this;(try simp only [Ha,Hd,Hf]);omega) (by have:=hs4.fit;simp only [ES] at this;(try simp only [ES,Ha,Hd,Hf]);omega) (fun a8 c8 r3 hr3=>JA [(7,Sl a8 ((([[111,107]]:Bs)++((QN (KN x1) t ((JJ s).drop 1)).2.1)).length) c8)] (JF [1,2,3,4,5] [] [] [8] (Hb _) (Kf ?_ KY)))
 refine Jz 8 [(33,Sl a8 ((([[111,107]]:Bs)++((QN (KN x1) t ((JJ s).drop 1)).2.1)).length) c8)] (fun X=>?_)
 refine Wg (E:=ES) 2 hr3 (by have q_:=Ze s;(try simp only [ES,Ha,Hd,Hf]);omega) (fun G6 hl6 hs7=>?_)
 obtain ⟨b5,o2,rfl⟩:=RS.addr hs7 (k:=0) (by simp)
 refine Jm 34 (Sr (Lib.join (([[111,107]]:Bs)++((QN (KN x1) t ((JJ s).drop 1)).2.1)) [32])) (Jdu G6 b5 o2 c8 (([[111,107]]:Bs)++((QN (KN x1) t ((JJ s).drop 1)).2.1)) [32] hs7 (by simp) (by simp only [Ha,Hd,Hf];omega) (JcC _ _ _ (JdX hs4))) (JA [(8,Sr (Lib.join (([[111,107]]:Bs)++((QN (KN x1) t ((JJ s).drop 1)).2.1)) [32]))] (JF [1,2,3,4,5] [] [] [9] (Hb _) (Kf ?_ KY)))
 refine Jz 9 [(4,Pt b1 0),(34,Sr (Lib.join (([[111,107]]:Bs)++((QN (KN x1) t ((JJ s).drop 1)).2.1)) [32]))] (fun X=>?_)
 exact KC 5 ([Sg b 0 (J3 (QN (KN x1) t ((JJ s).drop 1)).1 a5 c5 a6 c6 a7 c7)]::r2::[]::[Sg b3 0 [I (Yp (KN x1)),Fv (Jad (KN x1)) #[]]]::[]::[Sg b1 0 [Sr (Lib.join (([[111,107]]:Bs)++((QN (KN x1) t ((JJ s).drop 1)).2.1)) [32])]]::Lr) (J6 [] (Kl [1,2,3,4,5] [] [] [(4,Pt b1 0)] (Hb _) (QW (a5,c5,a6,c6,a7,c7,r2,G6) ⟨(Ja hl5 hl6),(hs5.mono hl6),(hs6.mono hl6),w2,w3,w4,w5,w6,w7,w8,(hr2.mono hl6),he3⟩)))
 refine Jz 6 [(4,Pt b1 0),(28,Fv (Jad (KN x1)) #[]),(29,Pt b 0),(31,Sl a2 (((JJ s).drop 1).length) c2)] (fun X=>?_)
 refine Jw 4 (Jw 4 ?_)
 have hB_:Jk8 t G3 b [[Sg b 0 (J3 t a_0 c_0 a_1 c_1 a_9 c_9)],r_9]:=⟨a_0,c_0,a_1,c_1,a_9,c_9,r_9,h_0.mono (Ja (Ja hl1 hl2) hl3),h_1.mono (Ja (Ja hl1 hl2) hl3),h_2,h_3,h_4,h_5,h_6,h_7,h_8,h_9.mono (Ja (Ja hl1 hl2) hl3),rfl⟩
 refine Ja5 (Ls:=[[Sg b 0 (J3 t a_0 c_0 a_1 c_1 a_9 c_9)],r_9]) (Lr:=([Sg b3 0 [I (Yp (KN x1)),Fv (Jad (KN x1)) #[]]]::[]::[Sg b1 0 [Sr ([])]]::Lr)) 32 (Jir _ J4) hT (Jfz (KN x1) J4 (by rw [Q2 hx1];exact hS) G3 b t _ hB_ ht hn hk a2 c2 ((JJ s).drop 1) hs2 (by intro hq_;rw [Hh];simp_all;omega) (by rw [Hh];have q2_:=Ze s;omega) (fun z_ hz_=>hsp z_ (Hp hz_))) (fun v G7 L1 hl7 hp=>?_) (fun v G7 L1 hl7 hp=>?_)
 obtain ⟨hne3,rfl,rfl⟩:=hp
 refine J8 (J8 (Jk 4 ?_))
 have hq4:Jbf t s=(QN (KN x1) t ((JJ s).drop 1)).2.2:=by
  exact JhB hx1 J4 (by omega)
 refine JcA ([Sg b1 0 [Sr ([101,114,114,32]++Lib.itoa ((QN (KN x1) t ((JJ s).drop 1)).2.2))]]::([Sg b 0 (J3 t a_0 c_0 a_1 c_1 a_9 c_9)]::r_9::[Sg b3 0 [I (Yp (KN x1)),Fv (Jad (KN x1)) #[]]]::[]::Lr)) [0] [Sr ([101,114,114,32]++Lib.itoa ((QN (KN x1) t ((JJ s).drop 1)).2.2))] (fun _=>by kernel_rfl) (fun w hw=>JcB _ _ _ _ (by rw [← hq4];exact JbQ t s) _ _ _ w hT hw) (V5 (KB (Lr:=Lr) [[Sg b 0 (J3 t a_0 c_0 a_1 c_1 a_9 c_9)],r_9] (Ja (Ja (Ja hl1 hl2) hl3) hl7) ⟨?_,?_⟩))
 rw [VB,hq4,if_pos hne3];rfl
 rw [ZH,hq4,if_pos hne3];exact ⟨a_0,c_0,a_1,c_1,a_9,c_9,r_9,h_0.mono (Ja (Ja (Ja hl1 hl2) hl3) hl7),h_1.mono (Ja (Ja (Ja hl1 hl2) hl3) hl7),h_2,h_3,h_4,h_5,h_6,h_7,h_8,h_9.mono (Ja (Ja (Ja hl1 hl2) hl3) hl7),rfl⟩
 obtain ⟨he4,a9,c9,rfl,hs8,hB2⟩:=hp
 have dn_:=Jit (KN x1) t ((JJ s).drop 1)
 obtain ⟨a10,c10,a11,c11,a12,c12,r4,hs9,hs10,w9,w10,w11,w12,w13,w14,w15,hr4,rfl⟩:=hB2
 refine JA [(6,Sl a9 ((QN (KN x1) t ((JJ s).drop 1)).2.1.length) c9)] (JF [1,2,3,4,5] [] [] [0] (Hb _) (Kf ?_ KY))
 refine Jz 0 [] (fun X=>?_)
 refine Km 26 1 #[Sr ([111,107])] 9 (fun b6=>JA [(0,Sl (At b6 0) 1 1)] (JF [1,2,3,4,5] [] [] [7] (Hb _) (Kf ?_ KY)))
 refine Jz 7 [(26,Sl (At b6 0) 1 1),(32,Sl a9 ((QN (KN x1) t ((JJ s).drop 1)).2.1.length) c9)] (fun X=>?_)
 refine Jbm 33 9 0 (E:=ES) (JR.of_lit (E:=ES) (G:=G7) (b:=b6) [[Sr ([111,107])]] [[111,107]] ⟨⟨rfl,(He rfl)⟩,trivial⟩ (by simp)) hs8 (by have:=hs8.fit;simp only [ES] at this;(try simp only [Ha,Hd,Hf]);omega) (by have:=hs8.fit;simp only [ES] at this;(try simp only [ES,Ha,Hd,Hf]);omega) (fun a13 c13 r5 hr5=>JA [(7,Sl a13 ((([[111,107]]:Bs)++((QN (KN x1) t ((JJ s).drop 1)).2.1)).length) c13)] (JF [1,2,3,4,5] [] [] [8] (Hb _) (Kf ?_ KY)))
 refine Jz 8 [(33,Sl a13 ((([[111,107]]:Bs)++((QN (KN x1) t ((JJ s).drop 1)).2.1)).length) c13)] (fun X=>?_)
 refine Wg (E:=ES) 0 hr5 (by have q_:=Ze s;(try simp only [ES,Ha,Hd,Hf]);omega) (fun G8 hl8 hs11=>?_)
 obtain ⟨b7,o3,rfl⟩:=RS.addr hs11 (k:=0) (by simp)
 refine Jm 34 (Sr (Lib.join (([[111,107]]:Bs)++((QN (KN x1) t ((JJ s).drop 1)).2.1)) [32])) (Jdu G8 b7 o3 c13 (([[111,107]]:Bs)++((QN (KN x1) t ((JJ s).drop 1)).2.1)) [32] hs11 (by simp) (by simp only [Ha,Hd,Hf];omega) (JcC _ _ _ (JdX hs8))) (JA [(8,Sr (Lib.join (([[111,107]]:Bs)++((QN (KN x1) t ((JJ s).drop 1)).2.1)) [32]))] (JF [1,2,3,4,5] [] [] [9] (Hb _) (Kf ?_ KY)))
 refine Jz 9 [(4,Pt b1 0),(34,Sr (Lib.join (([[111,107]]:Bs)++((QN (KN x1) t ((JJ s).drop 1)).2.1)) [32]))] (fun X=>?_)
 exact KC 5 ([]::[Sg b 0 (J3 (QN (KN x1) t ((JJ s).drop 1)).1 a10 c10 a11 c11 a12 c12)]::r4::[Sg b3 0 [I (Yp (KN x1)),Fv (Jad (KN x1)) #[]]]::[]::[Sg b1 0 [Sr (Lib.join (([[111,107]]:Bs)++((QN (KN x1) t ((JJ s).drop 1)).2.1)) [32])]]::Lr) (J6 [] (Kl [1,2,3,4,5] [] [] [(4,Pt b1 0)] (Hb _) (Jk 5 (Jk 5 (Jk 5 (Jk 3 (Jk 5 (Jk 5 (QW (a10,c10,a11,c11,a12,c12,r4,G8) ⟨(Ja hl7 hl8),(hs9.mono hl8),(hs10.mono hl8),w9,w10,w11,w12,w13,w14,w15,(hr4.mono hl8),he4⟩)))))))))
 obtain ⟨a5,c5,a6,c6,a7,c7,r2,G6⟩:=q_
 obtain ⟨hle1,hj1,hj2,hj3,hj4,hj5,hj6,hj7,hj8,hj9,hj10,he2⟩:=hs
 dsimp only at hle1 hj1 hj2 hj3 hj4 hj5 hj6 hj7 hj8 hj9 hj10 he2
 dsimp only
 refine Jn (Jk 1 (Jk 1 (Jk 5 ?_)))
 have hq5:Jbf t s=0:=(JhB hx1 (by omega) (by omega)).trans he2
 refine Jl2 [0] [Sr (Lib.join (([[111,107]]:Bs)++((QN (KN x1) t ((JJ s).drop 1)).2.1)) [32])] (fun _=>by kernel_rfl) (fun w hw=>Jl3 _ b1 _ _ _ w hw) (V5 (KB (Lr:=Lr) [[Sg b 0 (J3 (QN (KN x1) t ((JJ s).drop 1)).1 a5 c5 a6 c6 a7 c7)],r2] (Ja (Ja (Ja hl1 hl2) hl3) hle1) ⟨?_,?_⟩))
 rw [VB,hq5,if_neg (by simp),Q2 hx1];rfl
 rw [ZH,hq5,if_neg (by simp),← Q2 hx1];exact ⟨a5,c5,a6,c6,a7,c7,r2,hj1,hj2,hj3,hj4,hj5,hj6,hj7,hj8,hj9,hj10,rfl⟩
 refine Jb [1,1,1,1,1,1,0] [(24,Bo false)] (Je (Jc (Qr (Jq (Jc ?_)))))
 refine Ye (σ:=Ba×Nat×Ba×Nat×Ba×Nat×Bg×J5) (fun q_=>(J5.le G3 q_.2.2.2.2.2.2.2)∧(RS ES q_.2.2.2.2.2.2.2 q_.1 q_.2.1 (((QN (KN x1) t ((JJ s).drop 1)).1).setup.names))∧(RS EU q_.2.2.2.2.2.2.2 q_.2.2.1 q_.2.2.2.1 (((QN (KN x1) t ((JJ s).drop 1)).1).setup.keys))∧(rI (((QN (KN x1) t ((JJ s).drop 1)).1).setup.most))∧(rI (((QN (KN x1) t ((JJ s).drop 1)).1).setup.batch))∧(rI (((QN (KN x1) t ((JJ s).drop 1)).1).setup.every))∧(rI (((QN (KN x1) t ((JJ s).drop 1)).1).setup.least))∧(rI (((QN (KN x1) t ((JJ s).drop 1)).1).setup.top))∧(rI (((QN (KN x1) t ((JJ s).drop 1)).1).setup.lost))∧(rI (((QN (KN x1) t ((JJ s).drop 1)).1).setup.reach))∧(JR Wh q_.2.2.2.2.2.2.2 q_.2.2.2.2.1 q_.2.2.2.2.2.1 (((QN (KN x1) t ((JJ s).drop 1)).1).deeds) q_.2.2.2.2.2.2.1)∧((QN (KN x1) t ((JJ s).drop 1)).2.2=0)) (fun q_=>[(4,Pt b1 0)]) (fun q_=>q_.2.2.2.2.2.2.2) (fun q_=>([Sg b 0 (J3 (QN (KN x1) t ((JJ s).drop 1)).1 q_.1 q_.2.1 q_.2.2.1 q_.2.2.2.1 q_.2.2.2.2.1 q_.2.2.2.2.2.1)]::q_.2.2.2.2.2.2.1::[]::[Sg b3 0 [I (Yp (KN x1)),Fv (Jad (KN x1)) #[]]]::[]::[Sg b1 0 [Sr (Lib.join (([[111,107]]:Bs)++((QN (KN x1) t ((JJ s).drop 1)).2.1)) [32])]]::Lr)) ?_ (fun q_ hs=>?_)
 obtain ⟨a14,c14,ea3,ec3,en3,eh3,hs12⟩:=RS.reslXD (hs1.mono hl3) 1 (by (have q_:=Vp s;have q2_:=Ze s;omega))
 refine Kt [0,6,7,8,9] (Wm [(1,Pt b3 1),(2,Fv (Jad (KN x1)) #[]),(3,Pt b 0),(4,Sl (At b2 o1) ((JJ s).length) c1),(5,Sl a14 (((JJ s).drop 1).length) c14)] (JF [] [(1,0),(2,2),(3,0),(4,0)] [5] [0,6] (Kf ?_ KY) (Kf ?_ (Kf ?_ KY))))
 refine Jr 5 31 (Sl a14 (((JJ s).drop 1).length) c14) [(30,Sl (At b2 o1) ((JJ s).length) c1)] (fun X=>?_)
 exact Ws (a:=At b2 o1) (len:=(JJ s).length) (cap:=c1) 31 1 (some (I 1)) none 1 ((JJ s).length) (.inr ⟨_,rfl⟩) (.inl ⟨rfl,rfl⟩) (by (have q_:=Vp s;have q2_:=Ze s;omega)) ea3 ec3 en3 eh3 Jp
 refine Jz 0 [] (fun X=>?_)
 refine Km 26 1 #[Sr ([111,107])] 9 (fun b8=>JA [(0,Sl (At b8 0) 1 1)] (JF [] [(1,0),(2,4),(3,0),(4,0)] [5] [6] (Kf ?_ KY) (Kf ?_ KY)))
 refine Jr 5 31 (Sl a14 (((JJ s).drop 1).length) c14) [(30,Sl (At b2 o1) ((JJ s).length) c1)] (fun X=>?_)
 exact Ws (a:=At b2 o1) (len:=(JJ s).length) (cap:=c1) 31 1 (some (I 1)) none 1 ((JJ s).length) (.inr ⟨_,rfl⟩) (.inl ⟨rfl,rfl⟩) (by (have q_:=Vp s;have q2_:=Ze s;omega)) ea3 ec3 en3 eh3 Jp
 refine Jz 6 [(4,Pt b1 0),(28,Fv (Jad (KN x1)) #[]),(29,Pt b 0),(31,Sl a14 (((JJ s).drop 1).length) c14)] (fun X=>?_)
 refine Jw 5 (Jw 5 ?_)
 have hB_:Jk8 t G3 b [[Sg b 0 (J3 t a_0 c_0 a_1 c_1 a_9 c_9)],r_9]:=⟨a_0,c_0,a_1,c_1,a_9,c_9,r_9,h_0.mono (Ja (Ja hl1 hl2) hl3),h_1.mono (Ja (Ja hl1 hl2) hl3),h_2,h_3,h_4,h_5,h_6,h_7,h_8,h_9.mono (Ja (Ja hl1 hl2) hl3),rfl⟩
 refine Ja5 (Ls:=[[Sg b 0 (J3 t a_0 c_0 a_1 c_1 a_9 c_9)],r_9]) (Lr:=([Sg b8 0 [Sr ([111,107])]]::[Sg b3 0 [I (Yp (KN x1)),Fv (Jad (KN x1)) #[]]]::[]::[Sg b1 0 [Sr ([])]]::Lr)) 32 (Jir _ J4) hT (Jfz (KN x1) J4 (by rw [Q2 hx1];exact hS) G3 b t _ hB_ ht hn hk a14 c14 ((JJ s).drop 1) hs12 (by intro hq_;rw [Hh];simp_all;omega) (by rw [Hh];have q2_:=Ze s;omega) (fun z_ hz_=>hsp z_ (Hp hz_))) (fun v G9 L1 hl9 hp=>?_) (fun v G9 L1 hl9 hp=>?_)
 obtain ⟨hne4,rfl,rfl⟩:=hp
 refine J8 (J8 (Jk 5 ?_))
 have hq6:Jbf t s=(QN (KN x1) t ((JJ s).drop 1)).2.2:=by
  exact JhB hx1 J4 (by omega)
 refine JcA ([Sg b1 0 [Sr ([101,114,114,32]++Lib.itoa ((QN (KN x1) t ((JJ s).drop 1)).2.2))]]::([Sg b 0 (J3 t a_0 c_0 a_1 c_1 a_9 c_9)]::r_9::[Sg b8 0 [Sr ([111,107])]]::[Sg b3 0 [I (Yp (KN x1)),Fv (Jad (KN x1)) #[]]]::[]::Lr)) [0] [Sr ([101,114,114,32]++Lib.itoa ((QN (KN x1) t ((JJ s).drop 1)).2.2))] (fun _=>by kernel_rfl) (fun w hw=>JcB _ _ _ _ (by rw [← hq6];exact JbQ t s) _ _ _ w hT hw) (V5 (KB (Lr:=Lr) [[Sg b 0 (J3 t a_0 c_0 a_1 c_1 a_9 c_9)],r_9] (Ja (Ja (Ja hl1 hl2) hl3) hl9) ⟨?_,?_⟩))
 rw [VB,hq6,if_pos hne4];rfl
 rw [ZH,hq6,if_pos hne4];exact ⟨a_0,c_0,a_1,c_1,a_9,c_9,r_9,h_0.mono (Ja (Ja (Ja hl1 hl2) hl3) hl9),h_1.mono (Ja (Ja (Ja hl1 hl2) hl3) hl9),h_2,h_3,h_4,h_5,h_6,h_7,h_8,h_9.mono (Ja (Ja (Ja hl1 hl2) hl3) hl9),rfl⟩
 obtain ⟨he6,a16,c16,rfl,hs14,hB3⟩:=hp
 have dn_:=Jit (KN x1) t ((JJ s).drop 1)
 obtain ⟨a17,c17,a18,c18,a19,c19,r6,hs15,hs16,w16,w17,w18,w19,w20,w21,w22,hr6,rfl⟩:=hB3
 refine JA [(6,Sl a16 ((QN (KN x1) t ((JJ s).drop 1)).2.1.length) c16)] (JF [1,2,3,4,5] [] [] [7] (Hb _) (Kf ?_ KY))
 refine Jz 7 [(26,Sl (At b8 0) 1 1),(32,Sl a16 ((QN (KN x1) t ((JJ s).drop 1)).2.1.length) c16)] (fun X=>?_)
 refine Jbm 33 9 2 (E:=ES) (JR.of_lit (E:=ES) (G:=G9) (b:=b8) [[Sr ([111,107])]] [[111,107]] ⟨⟨rfl,(He rfl)⟩,trivial⟩ (by simp)) hs14 (by have:=hs14.fit;simp only [ES] at this;(try simp only [Ha,Hd,Hf]);omega) (by have:=hs14.fit;simp only [ES] at this;(try simp only [ES,Ha,Hd,Hf]);omega) (fun a20 c20 r7 hr7=>JA [(7,Sl a20 ((([[111,107]]:Bs)++((QN (KN x1) t ((JJ s).drop 1)).2.1)).length) c20)] (JF [1,2,3,4,5] [] [] [8] (Hb _) (Kf ?_ KY)))
 refine Jz 8 [(33,Sl a20 ((([[111,107]]:Bs)++((QN (KN x1) t ((JJ s).drop 1)).2.1)).length) c20)] (fun X=>?_)
 refine Wg (E:=ES) 2 hr7 (by have q_:=Ze s;(try simp only [ES,Ha,Hd,Hf]);omega) (fun G10 hl10 hs17=>?_)
 obtain ⟨b9,o4,rfl⟩:=RS.addr hs17 (k:=0) (by simp)
 refine Jm 34 (Sr (Lib.join (([[111,107]]:Bs)++((QN (KN x1) t ((JJ s).drop 1)).2.1)) [32])) (Jdu G10 b9 o4 c20 (([[111,107]]:Bs)++((QN (KN x1) t ((JJ s).drop 1)).2.1)) [32] hs17 (by simp) (by simp only [Ha,Hd,Hf];omega) (JcC _ _ _ (JdX hs14))) (JA [(8,Sr (Lib.join (([[111,107]]:Bs)++((QN (KN x1) t ((JJ s).drop 1)).2.1)) [32]))] (JF [1,2,3,4,5] [] [] [9] (Hb _) (Kf ?_ KY)))
 refine Jz 9 [(4,Pt b1 0),(34,Sr (Lib.join (([[111,107]]:Bs)++((QN (KN x1) t ((JJ s).drop 1)).2.1)) [32]))] (fun X=>?_)
 exact KC 5 ([Sg b 0 (J3 (QN (KN x1) t ((JJ s).drop 1)).1 a17 c17 a18 c18 a19 c19)]::r6::[]::[Sg b3 0 [I (Yp (KN x1)),Fv (Jad (KN x1)) #[]]]::[]::[Sg b1 0 [Sr (Lib.join (([[111,107]]:Bs)++((QN (KN x1) t ((JJ s).drop 1)).2.1)) [32])]]::Lr) (J6 [] (Kl [1,2,3,4,5] [] [] [(4,Pt b1 0)] (Hb _) (QW (a17,c17,a18,c18,a19,c19,r6,G10) ⟨(Ja hl9 hl10),(hs15.mono hl10),(hs16.mono hl10),w16,w17,w18,w19,w20,w21,w22,(hr6.mono hl10),he6⟩)))
 refine Jz 6 [(4,Pt b1 0),(28,Fv (Jad (KN x1)) #[]),(29,Pt b 0),(31,Sl a14 (((JJ s).drop 1).length) c14)] (fun X=>?_)
 refine Jw 4 (Jw 4 ?_)
 have hB_:Jk8 t G3 b [[Sg b 0 (J3 t a_0 c_0 a_1 c_1 a_9 c_9)],r_9]:=⟨a_0,c_0,a_1,c_1,a_9,c_9,r_9,h_0.mono (Ja (Ja hl1 hl2) hl3),h_1.mono (Ja (Ja hl1 hl2) hl3),h_2,h_3,h_4,h_5,h_6,h_7,h_8,h_9.mono (Ja (Ja hl1 hl2) hl3),rfl⟩
 refine Ja5 (Ls:=[[Sg b 0 (J3 t a_0 c_0 a_1 c_1 a_9 c_9)],r_9]) (Lr:=([Sg b3 0 [I (Yp (KN x1)),Fv (Jad (KN x1)) #[]]]::[]::[Sg b1 0 [Sr ([])]]::Lr)) 32 (Jir _ J4) hT (Jfz (KN x1) J4 (by rw [Q2 hx1];exact hS) G3 b t _ hB_ ht hn hk a14 c14 ((JJ s).drop 1) hs12 (by intro hq_;rw [Hh];simp_all;omega) (by rw [Hh];have q2_:=Ze s;omega) (fun z_ hz_=>hsp z_ (Hp hz_))) (fun v G11 L1 hl11 hp=>?_) (fun v G11 L1 hl11 hp=>?_)
 obtain ⟨hne5,rfl,rfl⟩:=hp
 refine J8 (J8 (Jk 4 ?_))
 have hq7:Jbf t s=(QN (KN x1) t ((JJ s).drop 1)).2.2:=by
  exact JhB hx1 J4 (by omega)
 refine JcA ([Sg b1 0 [Sr ([101,114,114,32]++Lib.itoa ((QN (KN x1) t ((JJ s).drop 1)).2.2))]]::([Sg b 0 (J3 t a_0 c_0 a_1 c_1 a_9 c_9)]::r_9::[Sg b3 0 [I (Yp (KN x1)),Fv (Jad (KN x1)) #[]]]::[]::Lr)) [0] [Sr ([101,114,114,32]++Lib.itoa ((QN (KN x1) t ((JJ s).drop 1)).2.2))] (fun _=>by kernel_rfl) (fun w hw=>JcB _ _ _ _ (by rw [← hq7];exact JbQ t s) _ _ _ w hT hw) (V5 (KB (Lr:=Lr) [[Sg b 0 (J3 t a_0 c_0 a_1 c_1 a_9 c_9)],r_9] (Ja (Ja (Ja hl1 hl2) hl3) hl11) ⟨?_,?_⟩))
 rw [VB,hq7,if_pos hne5];rfl
 rw [ZH,hq7,if_pos hne5];exact ⟨a_0,c_0,a_1,c_1,a_9,c_9,r_9,h_0.mono (Ja (Ja (Ja hl1 hl2) hl3) hl11),h_1.mono (Ja (Ja (Ja hl1 hl2) hl3) hl11),h_2,h_3,h_4,h_5,h_6,h_7,h_8,h_9.mono (Ja (Ja (Ja hl1 hl2) hl3) hl11),rfl⟩
 obtain ⟨he7,a21,c21,rfl,hs18,hB4⟩:=hp
 have dn_:=Jit (KN x1) t ((JJ s).drop 1)
 obtain ⟨a22,c22,a23,c23,a24,c24,r8,hs19,hs20,w23,w24,w25,w26,w27,w28,w29,hr8,rfl⟩:=hB4
 refine JA [(6,Sl a21 ((QN (KN x1) t ((JJ s).drop 1)).2.1.length) c21)] (JF [1,2,3,4,5] [] [] [0] (Hb _) (Kf ?_ KY))
 refine Jz 0 [] (fun X=>?_)
 refine Km 26 1 #[Sr ([111,107])] 9 (fun b10=>JA [(0,Sl (At b10 0) 1 1)] (JF [1,2,3,4,5] [] [] [7] (Hb _) (Kf ?_ KY)))
 refine Jz 7 [(26,Sl (At b10 0) 1 1),(32,Sl a21 ((QN (KN x1) t ((JJ s).drop 1)).2.1.length) c21)] (fun X=>?_)
 refine Jbm 33 9 0 (E:=ES) (JR.of_lit (E:=ES) (G:=G11) (b:=b10) [[Sr ([111,107])]] [[111,107]] ⟨⟨rfl,(He rfl)⟩,trivial⟩ (by simp)) hs18 (by have:=hs18.fit;simp only [ES] at this;(try simp only [Ha,Hd,Hf]);omega) (by have:=hs18.fit;simp only [ES] at this;(try simp only [ES,Ha,Hd,Hf]);omega) (fun a25 c25 r9 hr9=>JA [(7,Sl a25 ((([[111,107]]:Bs)++((QN (KN x1) t ((JJ s).drop 1)).2.1)).length) c25)] (JF [1,2,3,4,5] [] [] [8] (Hb _) (Kf ?_ KY)))
 refine Jz 8 [(33,Sl a25 ((([[111,107]]:Bs)++((QN (KN x1) t ((JJ s).drop 1)).2.1)).length) c25)] (fun X=>?_)
 refine Wg (E:=ES) 0 hr9 (by have q_:=Ze s;(try simp only [ES,Ha,Hd,Hf]);omega) (fun G12 hl12 hs21=>?_)
 obtain ⟨b11,o5,rfl⟩:=RS.addr hs21 (k:=0) (by simp)
 refine Jm 34 (Sr (Lib.join (([[111,107]]:Bs)++((QN (KN x1) t ((JJ s).drop 1)).2.1)) [32])) (Jdu G12 b11 o5 c25 (([[111,107]]:Bs)++((QN (KN x1) t ((JJ s).drop 1)).2.1)) [32] hs21 (by simp) (by simp only [Ha,Hd,Hf];omega) (JcC _ _ _ (JdX hs18))) (JA [(8,Sr (Lib.join (([[111,107]]:Bs)++((QN (KN x1) t ((JJ s).drop 1)).2.1)) [32]))] (JF [1,2,3,4,5] [] [] [9] (Hb _) (Kf ?_ KY)))
 refine Jz 9 [(4,Pt b1 0),(34,Sr (Lib.join (([[111,107]]:Bs)++((QN (KN x1) t ((JJ s).drop 1)).2.1)) [32]))] (fun X=>?_)
 exact KC 5 ([]::[Sg b 0 (J3 (QN (KN x1) t ((JJ s).drop 1)).1 a22 c22 a23 c23 a24 c24)]::r8::[Sg b3 0 [I (Yp (KN x1)),Fv (Jad (KN x1)) #[]]]::[]::[Sg b1 0 [Sr (Lib.join (([[111,107]]:Bs)++((QN (KN x1) t ((JJ s).drop 1)).2.1)) [32])]]::Lr) (J6 [] (Kl [1,2,3,4,5] [] [] [(4,Pt b1 0)] (Hb _) (Jk 5 (Jk 5 (Jk 5 (Jk 3 (Jk 5 (Jk 5 (QW (a22,c22,a23,c23,a24,c24,r8,G12) ⟨(Ja hl11 hl12),(hs19.mono hl12),(hs20.mono hl12),w23,w24,w25,w26,w27,w28,w29,(hr8.mono hl12),he7⟩)))))))))
 obtain ⟨a17,c17,a18,c18,a19,c19,r6,G10⟩:=q_
 obtain ⟨hle2,hj11,hj12,hj13,hj14,hj15,hj16,hj17,hj18,hj19,hj20,he5⟩:=hs
 dsimp only at hle2 hj11 hj12 hj13 hj14 hj15 hj16 hj17 hj18 hj19 hj20 he5
 dsimp only
 refine Jn (Jk 1 (Jk 1 (Jk 5 ?_)))
 have hq8:Jbf t s=0:=(JhB hx1 (by omega) (by omega)).trans he5
 refine Jl2 [0] [Sr (Lib.join (([[111,107]]:Bs)++((QN (KN x1) t ((JJ s).drop 1)).2.1)) [32])] (fun _=>by kernel_rfl) (fun w hw=>Jl3 _ b1 _ _ _ w hw) (V5 (KB (Lr:=Lr) [[Sg b 0 (J3 (QN (KN x1) t ((JJ s).drop 1)).1 a17 c17 a18 c18 a19 c19)],r6] (Ja (Ja (Ja hl1 hl2) hl3) hle2) ⟨?_,?_⟩))
 rw [VB,hq8,if_neg (by simp),Q2 hx1];rfl
 rw [ZH,hq8,if_neg (by simp),← Q2 hx1];exact ⟨a17,c17,a18,c18,a19,c19,r6,hj11,hj12,hj13,hj14,hj15,hj16,hj17,hj18,hj19,hj20,rfl⟩
theorem Jj1 (l:List Kc) (n:Bb):(YP l n).1.length≤20:=by
 unfold YP
 split
 · simp
 ·
  rename_i h
  have hc:Kq l=0:=by
   unfold JH at h
   split at h
   · exact absurd rfl h
   · rename_i h1;exact Hv.1 h1
  have ho:=Qg.1 hc
  cases e:l[(JH l n).1.toNat]? with
  | none=>simp
  | some x =>
   have h3:=ho.ok x (Hc e)
   have h4:x.value.length≤20:=by
    unfold KJ at h3
    split at h3
    · cases h3
    ·
     split at h3
     · cases h3
     · omega
   simpa using h4
theorem Jg2 (r:Q5):(JG r).1.length≤20:=by
 unfold JG ZM
 split
 · simp
 split
 · simp
 · exact Jj1 _ _
theorem Jlb (c:Nat) (t:KD) (w:Bs):Jbe (QN c t w).2.1:=by
 by_cases hc:c=8
 ·
  subst hc
  show Jbe (ZG t w).1
  unfold ZG
  split
  · exact WM
  split
  · exact WM
  split
  · exact WM
  split
  · exact WM
  split
  · exact ⟨by simp,by simp⟩
  ·
   refine ⟨by simp,fun x hx=>?_⟩
   simp only [Hr,Hq,or_false] at hx
   rcases hx with rfl | rfl
   · simp
   · exact Ht (Jg2 _) (by decide)
 ·
  match c,hc with
  | 0,_ | 1,_ | 2,_ | 3,_ | 4,_ | 5,_ | 6,_=>exact WM
  | 7,_=>exact Jgw t w
  | 8,h=>exact absurd rfl h
  | 9,_=>exact JcT t w
  | 10,_=>exact Je7 t w
  | 11,_=>exact Je8 t w
  | _+12,_=>exact WM
theorem Jpo (t:KD) (s:Bb):(VB t s).length≤1000:=by
 unfold VB
 split
 · have:=Jcw _ (JbQ t s);simp;omega
 ·
  rw [Lib.join_length]
  have h:=Jlb (KN (V3 (JJ s) 0)) t ((JJ s).drop 1)
  have:=Jis _ h.2
  have:=h.1
  simp [Lib.lens,okW] at *
  omega
theorem Jnq (t:KD) (s:Bb):(VB t s).length≤140737488351232:=Ht (Jpo t s) (by decide)
theorem Jj2 (s:Bb) (h:s.length≤1048576):∀ x∈JJ s,x.length≤1048576:=fun _ hx=>Ht (JfS hx) h
def Jdg (t:KD):Prop:=t.deeds.length≤200∧t.setup.names.length≤1000∧t.setup.keys.length≤1000
theorem JdY {t:KD} (s:Kx) (h:Jdg t):Jdg (W8 t s).1:=by
 unfold W8
 split
 · exact h
 split
 · exact h
 ·
  rename_i h2
  have:=Jaz (Jik (Hv.1 h2)).1
  exact ⟨h.1,by simp only;omega,by simp only;omega⟩
theorem Jgy {t:KD} (l:List K6) (h:Jdg t):Jdg (ZO t l).1:=by
 unfold ZO
 split
 · exact h
 · exact ⟨by simp only [Ha];omega,h.2⟩
theorem Jdh {α:Type} {p:Prop} [Decidable p] {a b:KD×α} (ha:Jdg a.1) (hb:Jdg b.1):Jdg (if p then a else b).1:=by split <;> assumption
theorem Jpp (c:Nat) {t:KD} (w:Bs) (h:Jdg t):Jdg (QN c t w).1:=by
 unfold QN
 split <;> dsimp only
 · exact Jdh h (JdY _ h)
 · exact Jdh h (JdY _ h)
 · exact Jdh h (JdY _ h)
 · exact Jdh h (JdY _ h)
 · exact Jdh h (Jgy _ h)
 · exact Jdh h (Jgy _ h)
 · exact Jdh h (Jgy _ h)
 all_goals exact h
theorem Jpq {t:KD} (s:Bb) (h:Jdg t):Jdg (ZH t s):=by
 unfold ZH
 split
 · exact h
 · exact Jpp _ _ h
def JeB (t:KD) (l:Bs):KD:=l.foldl ZH t
def Jae:KD→Bs→Bs
 | _,[]=>[]
 | t,s::l=>VB t s::Jae (ZH t s) l
theorem Jgz:∀ (l:Bs) {t:KD},Jdg t→Jdg (JeB t l)
 | [],_,h=>h
 | s::l,_,h=>Jgz l (Jpq s h)
theorem JcD:∀ (l m:Bs) (t:KD),Jae t (l++m)=Jae t l++Jae (JeB t l) m
 | [],_,_=>rfl
 | s::l,m,t=>congrArg (VB t s::·) (JcD l m (ZH t s))
theorem YJ:∀ (l:Bs) (t:KD),(Jae t l).length=l.length
 | [],_=>rfl
 | s::l,t=>congrArg (·+1) (YJ l (ZH t s))
theorem JhC {t:KD} {l:Bs} {i:Nat} {x:Bb} (hx:l[i]? = some x):ZH (JeB t (l.take i)) x=JeB t (l.take (i+1)):=by
 rw [HA,hx];simp [JeB]
theorem JgA {t:KD} {l:Bs} {i:Nat} {x:Bb} (hx:l[i]? = some x):Jae t (l.take i)++[VB (JeB t (l.take i)) x]=Jae t (l.take (i+1)):=by
 rw [HA,hx,JcD];rfl
def Jaj:KD:=⟨⟨[],[],10,3,5,2,8,3,10⟩,[]⟩
theorem JhD:Jdg Jaj:=⟨by decide,by decide,by decide⟩
def Ka (l:Bs):Bs×Int:=if l.length > 100 then ([],2) else (Jae Jaj l,0)
theorem do_c (G:J5) (b:Nat) (t:KD) (a_0:Ba) (c_0:Nat) (a_1:Ba) (c_1:Nat) (a_9:Ba) (c_9:Nat) (r_9:Bg) (h_0:RS ES G a_0 c_0 t.setup.names) (h_1:RS EU G a_1 c_1 t.setup.keys) (h_2:-9223372036854775808≤t.setup.most∧t.setup.most<9223372036854775808) (h_3:-9223372036854775808≤t.setup.batch∧t.setup.batch<9223372036854775808) (h_4:-9223372036854775808≤t.setup.every∧t.setup.every<9223372036854775808) (h_5:-9223372036854775808≤t.setup.least∧t.setup.least<9223372036854775808) (h_6:-9223372036854775808≤t.setup.top∧t.setup.top<9223372036854775808) (h_7:-9223372036854775808≤t.setup.lost∧t.setup.lost<9223372036854775808) (h_8:-9223372036854775808≤t.setup.reach∧t.setup.reach<9223372036854775808) (h_9:JR Wh G a_9 c_9 t.deeds r_9) (s:Bb) (hI:Jdg t) (hls:s.length≤1048576) (hS:dS (KN (V3 (JJ s) 0))=true):Zg Tryz.prog 27 #[Pt b 0,Sr s] G [[Sg b 0 [Sl a_0 t.setup.names.length c_0,Sl a_1 t.setup.keys.length c_1,I t.setup.most,I t.setup.batch,I t.setup.every,I t.setup.least,I t.setup.top,I t.setup.lost,I t.setup.reach,Sl a_9 t.deeds.length c_9]],r_9] (fun u G' L'=>((0:Int)=0)∧∃ (az1:Ba) (cz2:Nat) (az3:Ba) (cz4:Nat) (az5:Ba) (cz6:Nat) (rz7:Bg),u=Sr (VB t s)∧((VB t s).length≤140737488351232)∧(RS ES G' az1 cz2 ((ZH t s).setup.names))∧(RS EU G' az3 cz4 ((ZH t s).setup.keys))∧(-9223372036854775808≤((ZH t s).setup.most)∧((ZH t s).setup.most)<9223372036854775808)∧(-9223372036854775808≤((ZH t s).setup.batch)∧((ZH t s).setup.batch)<9223372036854775808)∧(-9223372036854775808≤((ZH t s).setup.every)∧((ZH t s).setup.every)<9223372036854775808)∧(-9223372036854775808≤((ZH t s).setup.least)∧((ZH t s).setup.least)<9223372036854775808)∧(-9223372036854775808≤((ZH t s).setup.top)∧((ZH t s).setup.top)<9223372036854775808)∧(-9223372036854775808≤((ZH t s).setup.lost)∧((ZH t s).setup.lost)<9223372036854775808)∧(-9223372036854775808≤((ZH t s).setup.reach)∧((ZH t s).setup.reach)<9223372036854775808)∧(JR Wh G' az5 cz6 ((ZH t s).deeds) rz7)∧L'=[[Sg b 0 [Sl az1 (((ZH t s).setup.names).length) cz2,Sl az3 (((ZH t s).setup.keys).length) cz4,I ((ZH t s).setup.most),I ((ZH t s).setup.batch),I ((ZH t s).setup.every),I ((ZH t s).setup.least),I ((ZH t s).setup.top),I ((ZH t s).setup.lost),I ((ZH t s).setup.reach),Sl az5 (((ZH t s).deeds).length) cz6]],rz7]) (fun _ _ _=>False):=by
 exact Zg.mono (do_con G b t a_0 c_0 a_1 c_1 a_9 c_9 r_9 h_0 h_1 h_2 h_3 h_4 h_5 h_6 h_7 h_8 h_9 hI.1 hI.2.1 hI.2.2 s hls hS (Jj2 s hls)) (fun u G' L' hle ⟨hu,a_0z,c_0z,a_1z,c_1z,a_9z,c_9z,r_9z,q_0,q_1,q_2,q_3,q_4,q_5,q_6,q_7,q_8,q_9,hL⟩=>⟨rfl,a_0z,c_0z,a_1z,c_1z,a_9z,c_9z,r_9z,hu,Jnq t s,q_0,q_1,q_2,q_3,q_4,q_5,q_6,q_7,q_8,q_9,hL⟩) (fun _ _ _ h=>h)
theorem Jpr (G:J5)  (a_l:Ba) (c_l:Nat) (l:Bs) (h_l:RS ES G a_l c_l l) (hs:∀ s∈l,s.length≤1048576) (hS:∀ s∈l,dS (KN (V3 (JJ s) 0))=true):V4 Tryz.prog 9 #[Sl a_l l.length c_l] G [] (fun u G' L'=>((0:Int)=0)∧∃ (az1:Ba) (cz2:Nat),u=.tuple #[Sl az1 (((Ka l).1).length) cz2,I ((Ka l).2)]∧(RS ES G' az1 cz2 ((Ka l).1))∧L'=[]) (fun _ _ _=>False):=by
 refine W0 Tryz.func9 28 [(0,Sl a_l l.length c_l)] rfl (fun w0 G0 hT=>Jg [0,0] [] (Jf (Jg [0,0,0] [(10,Bo (decide ((l.length:Int) > 100)))] (Jl (decide ((l.length:Int) > 100)) (fun h1=>?_) (fun h1=>?_)))))
 refine Jg [0,0] [(2,Sl none 0 0),(3,I 2)] (Jn (Jj ?_))
 have hf1:(0:Int)=0∧Ka l=([],2):=by
  first | (unfold Ka;rw [if_pos (by omega)];exact ⟨rfl,rfl⟩) | (unfold Ka;rw [if_neg (by omega)];have q_:=Ho (i:=i) (l:=l) (by omega);rw [q_] at hxx;exact ⟨rfl,by rw [hxx]⟩)
 refine Jo [0,0] [Sl none 0 0,I 2] (V5 (JD [] (Jh _) ?_))
 rw [hf1.2]
 try dsimp only
 exact ⟨hf1.1,none,0,rfl,(J2 ES G),rfl⟩
 refine Jq (Jc (Jf (Jd (Jb [0,0] [(12,.agg #[Sl none 0 0,Sl none 0 0,I 10,I 3,I 5,I 2,I 8,I 3,I 10,Sl none 0 0])] (Jv 13 #[Sl none 0 0,Sl none 0 0,I 10,I 3,I 5,I 2,I 8,I 3,I 10,Sl none 0 0] 91 (fun b1=>Jb [0] [(4,Pt b1 0)] (Je (Jc (Jg [0] [(5,Sl none 0 0)] (Jf (Jg [0,0,0] [(14,Sl a_l l.length c_l),(15,I (l.length:Int)),(16,I 0)] (Jy (ZA (ZA ?_))))))))))))))
 have hlm_h_l:l.length≤9223372036854775807:=Ht (h_l).le (h_l).max
 refine Qc (σ:=Nat×Ba×Nat×Bg×Bs×KD×Ba×Nat×Ba×Nat×Ba×Nat×Bg×J5) (fun q_=>(J5.le G q_.2.2.2.2.2.2.2.2.2.2.2.2.2)∧(q_.1≤l.length)∧(JR ES q_.2.2.2.2.2.2.2.2.2.2.2.2.2 q_.2.1 q_.2.2.1 q_.2.2.2.2.1 q_.2.2.2.1)∧(q_.2.2.2.2.1=Jae Jaj (l.take q_.1))∧(RS ES q_.2.2.2.2.2.2.2.2.2.2.2.2.2 q_.2.2.2.2.2.2.1 q_.2.2.2.2.2.2.2.1 q_.2.2.2.2.2.1.setup.names)∧(RS EU q_.2.2.2.2.2.2.2.2.2.2.2.2.2 q_.2.2.2.2.2.2.2.2.1 q_.2.2.2.2.2.2.2.2.2.1 q_.2.2.2.2.2.1.setup.keys)∧(JR Wh q_.2.2.2.2.2.2.2.2.2.2.2.2.2 q_.2.2.2.2.2.2.2.2.2.2.1 q_.2.2.2.2.2.2.2.2.2.2.2.1 q_.2.2.2.2.2.1.deeds q_.2.2.2.2.2.2.2.2.2.2.2.2.1)∧(rI q_.2.2.2.2.2.1.setup.most)∧(rI q_.2.2.2.2.2.1.setup.batch)∧(rI q_.2.2.2.2.2.1.setup.every)∧(rI q_.2.2.2.2.2.1.setup.least)∧(rI q_.2.2.2.2.2.1.setup.top)∧(rI q_.2.2.2.2.2.1.setup.lost)∧(rI q_.2.2.2.2.2.1.setup.reach)∧(q_.2.2.2.2.2.1=JeB Jaj (l.take q_.1))) (fun q_=>[(4,Pt b1 0),(5,Sl q_.2.1 q_.2.2.2.2.1.length q_.2.2.1),(14,Sl a_l l.length c_l),(15,I (l.length:Int)),(16,I (q_.1:Int))]) (fun q_=>q_.2.2.2.2.2.2.2.2.2.2.2.2.2) (fun q_=>[q_.2.2.2.2.2.2.2.2.2.2.2.2.1,q_.2.2.2.1,[Sg b1 0 (J3 q_.2.2.2.2.2.1 q_.2.2.2.2.2.2.1 q_.2.2.2.2.2.2.2.1 q_.2.2.2.2.2.2.2.2.1 q_.2.2.2.2.2.2.2.2.2.1 q_.2.2.2.2.2.2.2.2.2.2.1 q_.2.2.2.2.2.2.2.2.2.2.2.1)]]) (fun q_=>l.length-q_.1) (0,none,0,[],[],(⟨(⟨[],[],10,3,5,2,8,3,10⟩:Kx),([]:List K6)⟩:KD),none,0,none,0,none,0,[],G) ⟨(Jh _),(by (try dsimp only);first | exact HC _ | omega | simp),(JR.none ES _),rfl,(J2 ES G),(J2 EU G),(JR.none Wh _),(by (try dsimp only);first | assumption | omega | (simp;done) | (simp;omega)),(by (try dsimp only);first | assumption | omega | (simp;done) | (simp;omega)),(by (try dsimp only);first | assumption | omega | (simp;done) | (simp;omega)),(by (try dsimp only);first | assumption | omega | (simp;done) | (simp;omega)),(by (try dsimp only);first | assumption | omega | (simp;done) | (simp;omega)),(by (try dsimp only);first | assumption | omega | (simp;done) | (simp;omega)),(by (try dsimp only);first | assumption | omega | (simp;done) | (simp;omega)),(by (try dsimp only);first | rfl | simp [JeB,Jaj])⟩ (fun q_ hs=>?_)
 obtain ⟨i,ax,cx,rx,xx,dt,adt0,cdt0,adt1,cdt1,adt2,cdt2,rdt9,g⟩:=q_
 obtain ⟨hle,hi,hrx,hxx,hdt0,hdt1,hdt9,hdt2,hdt3,hdt4,hdt5,hdt6,hdt7,hdt8,hD⟩:=hs
 dsimp only at hle hi hrx hxx hdt0 hdt1 hdt9 hdt2 hdt3 hdt4 hdt5 hdt6 hdt7 hdt8 hD
 dsimp only
 refine Jg [0] [(17,Bo (decide ((i:Int)<(l.length:Int))))] (Jf (Jl (decide ((i:Int)<(l.length:Int))) (fun h2=>?_) (fun h2=>?_)))
 refine Jq (Jc (Jf (Jy (Jf (Jd ?_)))))
 obtain ⟨b2,o1,rfl⟩:=RS.addr (h_l.mono hle) (k:=i) (by omega)
 obtain ⟨x1,hx1⟩:=QS (l:=l) (k:=i) (by omega)
 obtain ⟨_,⟨rfl,_⟩,hc1⟩:=RS.get (h_l.mono hle) hx1
 refine JV (b:=b2) (off:=o1) (len:=l.length) (cap:=c_l) (ik:=.i64) 18 9 1 i J4 (JO 19 9 (cs:=[Sr x1]) 0 (Sr x1) hc1 (Jb [0] [(7,Sr x1)] (Je (Jc (Jd (Jb [0,0,0] [(20,Sl ax xx.length cx),(21,Pt b1 0),(22,Sr x1)] (Jw 0 (Jw 2 (ZQ (Ls:=[[Sg b1 0 (J3 dt adt0 cdt0 adt1 cdt1 adt2 cdt2)],rdt9]) (Lr:=[rx]) 23 hT (do_c g b1 dt adt0 cdt0 adt1 cdt1 adt2 cdt2 rdt9 hdt0 hdt1 hdt2 hdt3 hdt4 hdt5 hdt6 hdt7 hdt8 hdt9 x1 (hD ▸ Jgz (l.take i) JhD) (hs _ (Hc hx1)) (hS _ (Hc hx1))) (fun v G1 L1 hl1 hp=>?_))))))))))
 obtain ⟨_,a1,c1,a2,c2,a3,c3,r1,rfl,w2,hs1,hs2,_,_,_,_,_,_,_,hr1,rfl⟩:=hp
 refine Km 24 1 #[Sr (VB dt x1)] 9 (fun b3=>Qd (b:=b3) (cs:=[Sr (VB dt x1)]) 25 9 3 0 (E:=ES) (VB dt x1) (hrx.mono hl1) ⟨rfl,w2⟩ (by have q_:=congrArg Hs hxx;simp only [YJ,Hi] at q_;(try simp only [ES]);omega) (by have q_:=congrArg Hs hxx;simp only [YJ,Hi] at q_;(try simp only [ES]);omega) (fun a4 c4 r2 hr2=>Jb [0] [(5,Sl a4 ((xx++[VB dt x1]).length) c4)] (Je (JM (Jc (Jd (Jb [0,0] [(16,I (Hg.wrap ((i:Int)+1)))] (Kp 16 ((i:Int)+1) J4 (Je (Jk 1 (Jk 3 (Jk 3 ?_))))))))))))
 exact Qy [r1,r2,[Sg b1 0 (J3 (ZH dt x1) a1 c1 a2 c2 a3 c3)]] (Qh (i+1,a4,c4,r2,xx++[VB dt x1],(ZH dt x1),a1,c1,a2,c2,a3,c3,r1,G1) ⟨(Ja hle hl1),J4,hr2,(by (try dsimp only);rw [hxx,hD,JgA hx1]),hs1,hs2,hr1,(by first | assumption | omega | (simp;done) | (simp;omega)),(by first | assumption | omega | (simp;done) | (simp;omega)),(by first | assumption | omega | (simp;done) | (simp;omega)),(by first | assumption | omega | (simp;done) | (simp;omega)),(by first | assumption | omega | (simp;done) | (simp;omega)),(by first | assumption | omega | (simp;done) | (simp;omega)),(by first | assumption | omega | (simp;done) | (simp;omega)),(by (try dsimp only);rw [hD,JhC hx1])⟩ (by (try dsimp only);omega))
 refine KX (J1 (Kd (JS (Jc (Jg [0,0,0] [(2,Sl ax xx.length cx),(3,I 0)] (Jn (Wy (E:=ES) 1 hrx (by have q_:=congrArg Hs hxx;simp only [YJ,Hi] at q_;(try simp only [ES]);omega) (fun G2 hl2 hs3=>?_))))))))
 have hf2:(0:Int)=0∧Ka l=(xx,0):=by
  first | (unfold Ka;rw [if_pos (by omega)];exact ⟨rfl,rfl⟩) | (unfold Ka;rw [if_neg (by omega)];have q_:=Ho (i:=i) (l:=l) (by omega);rw [q_] at hxx;exact ⟨rfl,by rw [hxx]⟩)
 refine Jo [0,0] [Sl ax xx.length cx,I 0] (V5 (JD [] (Ja hle hl2) ?_))
 rw [hf2.2]
 try dsimp only
 exact ⟨hf2.1,ax,cx,rfl,hs3,rfl⟩
theorem Jj3:Ka [[110,111,119]]=([[111,107,32,48,32,49,32,48]],0):=by decide +kernel
theorem Jnr (G:J5)   :V4 Tryz.prog 8 #[] G [] (fun u G' L'=>((0:Int)=0)∧u=Bo true∧L'=[]) (fun _ _ _=>False):=by
 refine W0 Tryz.func8 21 [] rfl (fun w0 G0 hT=>Jg [0] [] (Jf (Jd (Km 4 1 #[Sr ([110,111,119])] 9 (fun b1=>QI (b:=b1) (o:=0) (cs:=[Sr ([110,111,119])]) 0 (fun G1 hl1 hz1=>?_))))))
 have hs1:RS ES G1 (At b1 0) 1 [[110,111,119]]:=RS.lit [[Sr ([110,111,119])]] [[110,111,119]] ⟨⟨rfl,(He rfl)⟩,trivial⟩ hz1 (He rfl) (He rfl)
 refine ZQ (Ls:=[]) (Lr:=[[]]) 5 hT ((Jpr G1 (At b1 0) 1 ([[110,111,119]]) hs1 (by simp) (by decide +kernel)).frame) (fun v G2 L1 hl2 hp=>?_)
 obtain ⟨_,a1,c1,rfl,hs2,rfl⟩:=hp
 refine Jb [0,0,0,0,0] [(1,Sl a1 (((Ka ([[110,111,119]])).1).length) c1),(2,I ((Ka ([[110,111,119]])).2))] (Je (Jc (Jf (Jd (Jb [0,0,0] [(10,Bo (decide ((Ka ([[110,111,119]])).2=0)))] (Ks (decide ((Ka ([[110,111,119]])).2=0)) [10] [0,0,0,0] [1,1,1,0] (fun bb=>[(14,Bo (bb && (decide ((((Ka ([[110,111,119]])).1).length:Int)=1))))]) (Jb [0] [(15,Bo ((decide ((Ka ([[110,111,119]])).2=0)) && (decide ((((Ka ([[110,111,119]])).1).length:Int)=1))))] (QR [15] ((decide ((Ka ([[110,111,119]])).2=0)) && (decide ((((Ka ([[110,111,119]])).1).length:Int)=1))) (fun h1=>?_) (fun h1=>?_)))))))))
 refine Jb [0] [(16,Sl a1 (((Ka ([[110,111,119]])).1).length) c1)] ?_
 obtain ⟨b2,o1,rfl⟩:=RS.addr hs2 (k:=0) (by omega)
 obtain ⟨x1,hx1⟩:=QS (l:=(Ka ([[110,111,119]])).1) (k:=0) (by omega)
 obtain ⟨_,⟨rfl,_⟩,hc1⟩:=RS.get hs2 hx1
 refine JV (b:=b2) (off:=o1) (len:=((Ka ([[110,111,119]])).1).length) (cap:=c1) (ik:=.i64) 17 9 1 0 J4 (JO 18 9 (cs:=[Sr x1]) 0 (Sr x1) hc1 (Jb [0,0,0] [(0,Bo ((B x1).toList == (B ([111,107,32,48,32,49,32,48])).toList))] (Kv 0 (Bo (x1 == [111,107,32,48,32,49,32,48])) (show (Bo ((B x1).toList == (B ([111,107,32,48,32,49,32,48])).toList):Value)=Bo (x1 == [111,107,32,48,32,49,32,48]) by simp only [Qx]) (Je (Jc (Jn ?_))))))
 have hf1:(0:Int)=0∧(x1 == [111,107,32,48,32,49,32,48])=true:=by
  (have q_:=hx1;rw [Jj3] at q_;cases q_;exact ⟨rfl,rfl⟩)
 refine Jo [0] [Bo (x1 == [111,107,32,48,32,49,32,48])] (V5 (JD [] (Ja hl1 hl2) ?_))
 rw [hf1.2]
 try dsimp only
 exact ⟨hf1.1,rfl,rfl⟩
 refine Jb [1,1,1,1,0,0] [(0,Bo false)] (Je (Jc (Jn ?_)))
 have hf2:(0:Int)=0∧false=true:=by
  (have q_:=h1;rw [Jj3] at q_;exact absurd rfl (q_ rfl))
 refine Jo [0] [Bo false] (V5 (JD [] (Ja hl1 hl2) ?_))
 rw [hf2.2]
 try dsimp only
 exact ⟨hf2.1,rfl,rfl⟩
def JhE:Bs:=[[110,111,119],[101,118,101,110,116,115],[109,97,114,107],[115,101,101,110,32,48],[108,111,111,107,32,97,32,48],[119,104,97,116]]
theorem Jps {c:Nat} (h:7≤c) (t:KD) (w:Bs):(QN c t w).1=t:=by
 match c,h with
 | 7,_ | 8,_ | 9,_ | 10,_ | 11,_ | _+12,_=>rfl
theorem asks_7:∀ s∈JhE,7≤KN (V3 (JJ s) 0):=by decide +kernel
theorem Jns {s:Bb} (h:s∈JhE) (t:KD):ZH t s=t:=by
 unfold ZH
 split
 · rfl
 · exact Jps (asks_7 s h) _ _
theorem Jpt {l:Bs} {s:Bb} {k:Nat} (hs:s∈JhE) (hl:l.length≤60):(Ka l).2=0∧∃ x,Ka (l.take k++s::l.drop k)=((Ka l).1.take k++x::(Ka l).1.drop k,0):=by
 have e1:Ka l=(Jae Jaj l,0):=by unfold Ka;rw [if_neg (by omega)]
 have e2:Ka (l.take k++s::l.drop k)=(Jae Jaj (l.take k++s::l.drop k),0):=by
  unfold Ka;rw [if_neg (by simp only [Ha,Hd,Hi,Hh];omega)]
 rw [e1,e2]
 refine ⟨rfl,VB (JeB Jaj (l.take k)) s,?_⟩
 have e3:=JcD (l.take k) (l.drop k) Jaj
 rw [Hw] at e3
 have e4:(Jae Jaj (l.take k)).length=(l.take k).length:=YJ _ _
 have e5:=JcD (l.take k) (s::l.drop k) Jaj
 have e6:Jae (JeB Jaj (l.take k)) (s::l.drop k)=VB (JeB Jaj (l.take k)) s::Jae (JeB Jaj (l.take k)) (l.drop k):=by
  show VB _ s::Jae (ZH _ s) _=_
  rw [Jns hs]
 rw [e5,e6,e3]
 by_cases hk:k≤l.length
 · rw [List.take_left' (by rw [e4,Hi];omega),List.drop_left' (by rw [e4,Hi];omega)]
 ·
  have hd:l.drop k=[]:=HB (by omega)
  rw [hd,Ho (l:=l) (by omega)]
  simp only [Jae,Hy]
  rw [Ho (by rw [YJ];omega),HB (by rw [YJ];omega)]
def JaU (l:Bs) (i:Nat) (x:Bb):Bs:=l.take i++[x]++l.drop i
theorem Jbv {l:Bs} {i:Nat} {x:Bb} (h:i≤l.length):(JaU l i x).length=l.length+1:=by unfold JaU;simp;omega
theorem Jpu {l:Bs} {i:Nat} {x:Bb} (h:i=l.length):l++[x]=JaU l i x:=by subst h;simp [JaU]
theorem Jpv {l:Bs} {i:Nat} {x:Bb} (h:∀ y∈l,y.length≤1048576) (hx:x.length≤1048576):∀ y∈JaU l i x,y.length≤1048576:=fun y hy=>by
 unfold JaU at hy
 simp only [List.mem_append,Hz] at hy
 rcases hy with (hy | rfl) | hy
 · exact h y (List.mem_of_mem_take hy)
 · exact hx
 · exact h y (Hp hy)
theorem Jpw {s:Bb} (h:(((¬s=[110,111,119]∧¬s=[101,118,101,110,116,115])∧¬s=[109,97,114,107])∧¬s=[115,101,101,110,32,48])∧¬s=[108,111,111,107,32,97,32,48]→s=[119,104,97,116]):s∈JhE:=by
 simp only [JhE,Hr,Hq,or_false]
 by_cases h1:s=[110,111,119]
 · exact .inl h1
 by_cases h2:s=[101,118,101,110,116,115]
 · exact .inr (.inl h2)
 by_cases h3:s=[109,97,114,107]
 · exact .inr (.inr (.inl h3))
 by_cases h4:s=[115,101,101,110,32,48]
 · exact .inr (.inr (.inr (.inl h4)))
 by_cases h5:s=[108,111,111,107,32,97,32,48]
 · exact .inr (.inr (.inr (.inr (.inl h5))))
 · exact .inr (.inr (.inr (.inr (.inr (h ⟨⟨⟨⟨h1,h2⟩,h3⟩,h4⟩,h5⟩)))))
theorem Jpx {l:Bs} {s:Bb} {k:Nat} (hs:s∈JhE) (hl:l.length≤60) (hk:k≤l.length):(Ka l).2=0∧(Ka l).1.length=l.length∧(Ka (JaU l k s)).2=0∧(Ka (JaU l k s)).1.length=l.length+1∧(Ka (JaU l k s)).1.take k++(Ka (JaU l k s)).1.drop (k+1)=(Ka l).1:=by
 have e:JaU l k s=l.take k++s::l.drop k:=by simp [JaU]
 obtain ⟨h1,x,h2⟩:=Jpt (l:=l) (s:=s) (k:=k) hs hl
 have h3:(Ka l).1.length=l.length:=by
  unfold Ka;rw [if_neg (by omega)];exact YJ _ _
 have h4:((Ka l).1.take k).length=k:=by rw [Hi];omega
 rw [e,h2]
 refine ⟨h1,h3,rfl,?_,?_⟩
 · simp only [Ha,Hd,Hi,Hh];omega
 ·
  show ((Ka l).1.take k++x::(Ka l).1.drop k).take k++((Ka l).1.take k++x::(Ka l).1.drop k).drop (k+1)=_
  rw [List.take_left' h4,show (Ka l).1.take k++x::(Ka l).1.drop k=((Ka l).1.take k++[x])++(Ka l).1.drop k by simp,List.drop_left' (by rw [Ha,h4];rfl),Hw]
set_option maxRecDepth 4000 in
theorem Jqm (G:J5) (a:Ba) (c:Nat) (l:Bs) (r:Bg) (hr:JR ES G a c l r) (bv:Nat) (x:Bb) (hx0:x.length≤140737488351232) (i:Nat) (hi:i≤l.length) (hsm:l.length≤1000):JfI Tryz.prog 11 #[Sl a l.length c,I (i:Int),Sl (At bv 0) 1 1] G [r,[Vm 9 bv 0 [Sr x]]] (fun u G' L'=>∃ a' c' r',u=Sl a' (JaU l i x).length c'∧JR ES G' a' c' (JaU l i x) r'∧L'=[r']):=by
 intro Lr
 have hlc:=JR.lec hr
 have hcm:=JR.mx hr
 refine JP Tryz.func11 95 [(0,Sl a l.length c),(1,I (i:Int)),(2,Sl (At bv 0) 1 1)] rfl (fun w0 G0=>?_)
 show TC _ _ _ _ _ (r::[Vm 9 bv 0 [Sr x]]::Lr)
 refine Jg [0] [] (Jf (Jd (Jb [0,0] [(10,Sl a l.length c),(11,I (i:Int))] (JiK (a:=a) (len:=l.length) (cap:=c) 12 1 (some (I (i:Int))) none i l.length (.inr ⟨_,rfl⟩) (.inl ⟨rfl,rfl⟩) hi hlc (fun a9=>Je (Jc (Jg [0,0,0] [(7,I (1:Int))] (Jf (Jg [0,0] [(16,Bo (decide ((1:Int)=0)))] (Jl (decide ((1:Int)=0)) (fun h1=>?_) (fun h1=>?_)))))))))))
 exfalso;omega
 refine Jq (Jc (Jg [0,0,0] [(8,I (l.length:Int))] (Jf (Jg [0,0,0] [(22,Bo (decide ((i:Int)=(l.length:Int))))] (Jl (decide ((i:Int)=(l.length:Int))) (fun h2=>?_) (fun h2=>?_))))))
 refine Jax 1 (Jf (Jd (Jb [0,0] [(23,Sl a l.length c),(24,Sl (At bv 0) 1 1)] (Qd (b:=bv) (cs:=[Sr x]) 25 9 0 1 (E:=ES) x hr ⟨rfl,‹_›⟩ J4 (by simp only [ES];omega) (fun a1 c1 r1 hr1=>Jb [0] [(6,Sl a1 ((l++[x]).length) c1)] (Je (Jc (Jn (Jj ?_)))))))))
 have e_:l++[x]=JaU l i x:=Jpu (by omega)
 have en_:(l++[x]).length=(JaU l i x).length:=by (rw [Jbv hi];(try simp only [Ha,Hd,Hf]) <;> omega)
 exact Jo [0] [Sl a1 ((l++[x]).length) c1] (KB (Lr:=Lr) [r1] (Jh _) (⟨_,_,_,congrArg (fun n=>Sl a1 n c1) en_,(by rw [← e_];exact hr1),rfl⟩))
 refine Jq (Jc (Jf ?_))
 obtain ⟨b,off,css,spare,rfl,rfl,hc1,hc2,hc3,hsp,_,hmax,hone⟩:=JR.opened hr (by omega)
 refine Jg [0,0,0,0,0,0] [(31,Bo (decide (Hg.wrap ((l.length:Int)+(1:Int)) > (c:Int))))] ?_
 have e1:Hg.wrap ((l.length:Int)+(1:Int))=(l.length:Int)+(1:Int):=Hn _ (by omega)
 refine QU 31 (Bo (decide ((l.length:Int)+(1:Int) > (c:Int)))) (show (Bo (decide (Hg.wrap ((l.length:Int)+(1:Int)) > (c:Int))):Value)=Bo (decide ((l.length:Int)+(1:Int) > (c:Int))) by simp only [e1]) ?_
 clear e1
 refine Jl (decide ((l.length:Int)+(1:Int) > (c:Int))) (fun h3=>?_) (fun h3=>?_)
 refine Jax 1 (Jf (Jd (Jb [0,0] [(32,Sl (At b off) l.length c),(33,I (i:Int))] (Jaw (b:=b) (off:=off) (len:=l.length) (cap:=c) 34 1 (some (I (i:Int))) i (.inr ⟨_,rfl⟩) J4 (Jb [0,0,0,0,0] [(39,I (Hg.wrap ((Hg.wrap ((l.length:Int)+(1:Int)))-(i:Int))))] ?_)))))
 have e2:Hg.wrap ((l.length:Int)+(1:Int))=(l.length:Int)+(1:Int):=Hn _ (by omega)
 have e3:Hg.wrap (((l.length:Int)+(1:Int))-(i:Int))=((l.length+1-i:Nat):Int):=(Hn _ (by omega)).trans (show ((l.length:Int)+(1:Int))-(i:Int)=((l.length+1-i:Nat):Int) by omega)
 refine Kv 39 (I ((l.length+1-i:Nat):Int)) (show (I (Hg.wrap ((Hg.wrap ((l.length:Int)+(1:Int)))-(i:Int))):Value)=I ((l.length+1-i:Nat):Int) by simp only [e2,e3]) ?_
 clear e3 e2
 refine JfJ (b:=b) (off:=off) (cap:=c) (F:=(css.flatten++spare)) 40 0 9 1 16 (l.length+1-i) i J4 J4 J4 (by rw [Ha,K3 hc3,hc1];simp only [ES];omega) J4 (fun b9 c9 zs hz1 hz2 hz3=>Jb [0] [(9,Sl (At b9 0) (i+(l.length+1-i)) c9)] (Je (Jc (Jf (Jd (Jb [0,0] [(41,Sl (At b9 0) (i+(l.length+1-i)) c9),(42,I (i:Int))] (ZC (b:=b9) (off:=0) (len:=(i+(l.length+1-i))) (cap:=c9) 43 1 (some (I (i:Int))) none i (i+(l.length+1-i)) (.inr ⟨_,rfl⟩) (.inl ⟨rfl,rfl⟩) J4 J4 J4 (Jb [0] [(44,Sl (At bv 0) 1 1)] (YB (b:=b9) (off:=0) (p:=(i*1)) (nd:=(i+(l.length+1-i)-i)) (cd:=(c9-i)) (bs:=bv) (os:=0) (ns:=1) (cs:=1) (F:=((css.flatten++spare).take (i*1)++zs)) 45 0 1 [Sr x] (by rw [show HE 1 (i+(l.length+1-i)-i)=1 from by simp only [HD];split <;> omega];rfl) (by rw [hz3];simp only [Hd,Hf];omega) (ZX rfl) (.inr ⟨2,0,[Sr x],0,rfl,rfl,fun j v hv=>by rw [Nat.zero_add];exact hv⟩) (Je (Jc (Jf ?_))))))))))))
 have e4:Hg.wrap ((i:Int)+(1:Int))=((i+1:Nat):Int):=(Hn _ (by omega)).trans (show (i:Int)+(1:Int)=((i+1:Nat):Int) by omega)
 refine Kt [8] (Wm [(0,Sl (At b9 0) (i+(l.length+1-i)) c9),(1,I (i:Int)),(2,I (1:Int)),(3,I ((i+1:Nat):Int)),(4,Sl (At b9 (0+(i+1)*1)) ((i+(l.length+1-i))-(i+1)) (c9-(i+1))),(5,Sl (At b off) l.length c),(6,I (i:Int)),(7,Sl (At b (off+i*1)) (l.length-i) (c-i))] (JF [] [(0,0),(1,0),(2,0),(5,0),(6,0)] [3,4,7] [8] (Kf ?_ (Kf ?_ (Kf ?_ KY))) (Kf ?_ KY)))
 refine Jr 3 49 (I ((i+1:Nat):Int)) [(47,I (i:Int)),(48,I (1:Int))] (fun X=>?_)
 exact K5 49 (I (Hg.wrap ((i:Int)+(1:Int)))) (I ((i+1:Nat):Int)) (by simp only [e4]) Jp
 refine Jr 4 50 (Sl (At b9 (0+(i+1)*1)) ((i+(l.length+1-i))-(i+1)) (c9-(i+1))) [(46,Sl (At b9 0) (i+(l.length+1-i)) c9),(49,I ((i+1:Nat):Int))] (fun X=>?_)
 exact ZC (b:=b9) (off:=0) (len:=(i+(l.length+1-i))) (cap:=c9) 50 1 (some (I ((i+1:Nat):Int))) none (i+1) (i+(l.length+1-i)) (.inr ⟨_,rfl⟩) (.inl ⟨rfl,rfl⟩) J4 J4 J4 Jp
 refine Jr 7 53 (Sl (At b (off+i*1)) (l.length-i) (c-i)) [(51,Sl (At b off) l.length c),(52,I (i:Int))] (fun X=>?_)
 exact ZC (b:=b) (off:=off) (len:=l.length) (cap:=c) 53 1 (some (I (i:Int))) none i l.length (.inr ⟨_,rfl⟩) (.inl ⟨rfl,rfl⟩) J4 J4 J4 Jp
 refine Jz 8 [(50,Sl (At b9 (0+(i+1)*1)) ((i+(l.length+1-i))-(i+1)) (c9-(i+1))),(53,Sl (At b (off+i*1)) (l.length-i) (c-i))] (fun X=>?_)
 refine YB (b:=b9) (off:=0) (p:=((i+1)*1)) (nd:=(i+(l.length+1-i)-(i+1))) (cd:=(c9-(i+1))) (bs:=b) (os:=(off+i*1)) (ns:=(l.length-i)) (cs:=(c-i)) (F:=(Qz ((css.flatten++spare).take (i*1)++zs) (i*1) [Sr x])) 54 0 1 (css.drop i).flatten (by rw [WL hc3,hc1,show HE (l.length-i) (i+(l.length+1-i)-(i+1))=l.length-i from by simp only [HD];split <;> omega];rfl) (by rw [Zk (by rw [hz3];simp only [Hd,Hf];omega),hz3,WL hc3,hc1];simp only [ES];omega) (Jfi i hone) (.inr ⟨1,off,(css.flatten++spare),i*1,rfl,rfl,Jdp (sz:=1) hc3 J4⟩) (JA [(8,I ((HE (l.length-i) (i+(l.length+1-i)-(i+1)):Nat):Int))] (Kl [0,1,2,3,4,5,6,7] [] [] [(9,Sl (At b9 0) (i+(l.length+1-i)) c9)] (Hb _) (Jc (Jg [0,0] [(6,Sl (At b9 0) (i+(l.length+1-i)) c9)] (Jn (Jj ?_))))))
 have en_:i+(l.length+1-i)=(JaU l i x).length:=by (rw [Jbv hi];(try simp only [Ha,Hd,Hf]) <;> omega)
 exact Jo [0] [Sl (At b9 0) (i+(l.length+1-i)) c9] (KB (Lr:=Lr) [[Sg b9 0 (Qz (Qz ((css.flatten++spare).take (i*1)++zs) (i*1) [Sr x]) ((i+1)*1) (css.drop i).flatten)]] (Jh _) (⟨_,_,_,congrArg (fun n=>Sl (At b9 0) n c9) en_,(JR.insG (spare:=spare) i hi hc1 hc2 ⟨rfl,hx0⟩ hz3 J4 hz2),rfl⟩))
 refine Jq (Jc (Jf (Jd (Jb [0,0,0,0] [(56,Sl (At b off) l.length c),(59,I (Hg.wrap ((l.length:Int)+(1:Int))))] ?_))))
 have e5:Hg.wrap ((l.length:Int)+(1:Int))=((l.length+1:Nat):Int):=(Hn _ (by omega)).trans (show (l.length:Int)+(1:Int)=((l.length+1:Nat):Int) by omega)
 refine Kv 59 (I ((l.length+1:Nat):Int)) (congrArg I e5) ?_
 clear e5
 refine Jaw (b:=b) (off:=off) (len:=l.length) (cap:=c) 60 1 (some (I ((l.length+1:Nat):Int))) (l.length+1) (.inr ⟨_,rfl⟩) J4 (Jb [0] [(0,Sl (At b off) (l.length+1) c)] (Je (Jc (Jf (Jf (Jd (Jb [0,0,0,0,0] [(61,Sl (At bv 0) 1 1),(62,Sl (At b off) (l.length+1) c),(65,I (Hg.wrap ((i:Int)+(1:Int))))] ?_)))))))
 have e6:Hg.wrap ((i:Int)+(1:Int))=((i+1:Nat):Int):=(Hn _ (by omega)).trans (show (i:Int)+(1:Int)=((i+1:Nat):Int) by omega)
 refine Kv 65 (I ((i+1:Nat):Int)) (congrArg I e6) ?_
 clear e6
 refine ZC (b:=b) (off:=off) (len:=(l.length+1)) (cap:=c) 66 1 (some (I ((i+1:Nat):Int))) none (i+1) (l.length+1) (.inr ⟨_,rfl⟩) (.inl ⟨rfl,rfl⟩) J4 J4 J4 ?_
 refine Jhf (f:=28) (args:=#[Sl (At bv 0) 1 1,Sl (At b (off+(i+1)*1)) ((l.length+1)-(i+1)) (c-(i+1))]) 67 (Bo false) (fun w hw=>?_) ?_
 rw [run_callFunc_extern (e:=Extern.SlicesOverlaps.overlaps #[22,22] #[4]) Tryz.func28 (by kernel_rfl) (by kernel_rfl) (by kernel_rfl) (by kernel_rfl),Jhg hw (i:=1) (j:=0) rfl (by simp) rfl (by rw [Ha,K3 hc3,hc1,hsp];simp only [ES];omega) (by decide) 22 4 9 1 (by kernel_rfl) (fun w=>by kernel_rfl)]
 rfl
 refine Jb [0] [(68,Bo true)] (Je (Jc (J0 (Jax 1 (Jf ?_)))))
 have e7:Hg.wrap ((i:Int)+(1:Int))=((i+1:Nat):Int):=(Hn _ (by omega)).trans (show (i:Int)+(1:Int)=((i+1:Nat):Int) by omega)
 refine Kt [8] (Wm [(0,Sl (At b off) (l.length+1) c),(1,I (i:Int)),(2,I (1:Int)),(3,I ((i+1:Nat):Int)),(4,Sl (At b (off+(i+1)*1)) ((l.length+1)-(i+1)) (c-(i+1))),(5,Sl (At b off) (l.length+1) c),(6,I (i:Int)),(7,Sl (At b (off+i*1)) ((l.length+1)-i) (c-i))] (JF [] [(0,0),(1,0),(2,0),(5,0),(6,0)] [3,4,7] [8] (Kf ?_ (Kf ?_ (Kf ?_ KY))) (Kf ?_ KY)))
 refine Jr 3 72 (I ((i+1:Nat):Int)) [(70,I (i:Int)),(71,I (1:Int))] (fun X=>?_)
 exact K5 72 (I (Hg.wrap ((i:Int)+(1:Int)))) (I ((i+1:Nat):Int)) (by simp only [e7]) Jp
 refine Jr 4 73 (Sl (At b (off+(i+1)*1)) ((l.length+1)-(i+1)) (c-(i+1))) [(69,Sl (At b off) (l.length+1) c),(72,I ((i+1:Nat):Int))] (fun X=>?_)
 exact ZC (b:=b) (off:=off) (len:=(l.length+1)) (cap:=c) 73 1 (some (I ((i+1:Nat):Int))) none (i+1) (l.length+1) (.inr ⟨_,rfl⟩) (.inl ⟨rfl,rfl⟩) J4 J4 J4 Jp
 refine Jr 7 76 (Sl (At b (off+i*1)) ((l.length+1)-i) (c-i)) [(74,Sl (At b off) (l.length+1) c),(75,I (i:Int))] (fun X=>?_)
 exact ZC (b:=b) (off:=off) (len:=(l.length+1)) (cap:=c) 76 1 (some (I (i:Int))) none i (l.length+1) (.inr ⟨_,rfl⟩) (.inl ⟨rfl,rfl⟩) J4 J4 J4 Jp
 refine Jz 8 [(73,Sl (At b (off+(i+1)*1)) ((l.length+1)-(i+1)) (c-(i+1))),(76,Sl (At b (off+i*1)) ((l.length+1)-i) (c-i))] (fun X=>?_)
 refine YB (b:=b) (off:=off) (p:=((i+1)*1)) (nd:=(l.length+1-(i+1))) (cd:=(c-(i+1))) (bs:=b) (os:=(off+i*1)) (ns:=(l.length+1-i)) (cs:=(c-i)) (F:=(css.flatten++spare)) 77 0 1 (css.drop i).flatten (by rw [WL hc3,hc1,show HE (l.length+1-i) (l.length+1-(i+1))=l.length-i from by simp only [HD];split <;> omega];rfl) (by rw [Ha,K3 hc3,hc1,hsp];simp only [ES];rw [WL hc3,hc1];simp only [ES];omega) (Jfi i hone) (.inr ⟨0,off,(css.flatten++spare),i*1,rfl,rfl,Jdp (sz:=1) hc3 J4⟩) (JA [(8,I ((HE (l.length+1-i) (l.length+1-(i+1)):Nat):Int))] (Kl [0,1,2,3,4,5,6,7] [] [] [(0,Sl (At b off) (l.length+1) c),(1,I (i:Int)),(2,Sl (At bv 0) 1 1)] (Hb _) (Jc (Jf (Jd (Jb [0,0] [(78,Sl (At b off) (l.length+1) c),(79,I (i:Int))] (ZC (b:=b) (off:=off) (len:=(l.length+1)) (cap:=c) 80 1 (some (I (i:Int))) none i (l.length+1) (.inr ⟨_,rfl⟩) (.inl ⟨rfl,rfl⟩) J4 J4 J4 (Jb [0] [(81,Sl (At bv 0) 1 1)] (YB (b:=b) (off:=off) (p:=(i*1)) (nd:=(l.length+1-i)) (cd:=(c-i)) (bs:=bv) (os:=0) (ns:=1) (cs:=1) (F:=(Qz (css.flatten++spare) ((i+1)*1) (css.drop i).flatten)) 82 0 1 [Sr x] (by rw [show HE 1 (l.length+1-i)=1 from by simp only [HD];split <;> omega];rfl) (by rw [Zk (by rw [Ha,K3 hc3,hc1,hsp];simp only [ES];rw [WL hc3,hc1];simp only [ES];omega)];rw [Ha,K3 hc3,hc1,hsp];simp only [ES];simp only [Hd,Hf];omega) (ZX rfl) (.inr ⟨1,0,[Sr x],0,rfl,rfl,fun j v hv=>by rw [Nat.zero_add];exact hv⟩) (Je (Jc (Jg [0,0] [(6,Sl (At b off) (l.length+1) c)] (Jn (Jj ?_))))))))))))))
 have en_:l.length+1=(JaU l i x).length:=by (rw [Jbv hi];done)
 exact Jo [0] [Sl (At b off) (l.length+1) c] (KB (Lr:=Lr) [[Sg b off (Qz (Qz (css.flatten++spare) ((i+1)*1) (css.drop i).flatten) (i*1) [Sr x])]] (Jh _) (⟨_,_,_,congrArg (fun n=>Sl (At b off) n c) en_,(JR.insP i hi hc1 hc2 ⟨rfl,hx0⟩ hsp J4 hcm),rfl⟩))
set_option maxRecDepth 4000 in
theorem Jqn (G:J5) (a:Ba) (c:Nat) (l:Bs) (r:Bg) (hr:JR ES G a c l r) (i j:Nat) (hij:i≤j) (hj:j≤l.length):JfI Tryz.prog 14 #[Sl a l.length c,I (i:Int),I (j:Int)] G [r] (fun u G' L'=>∃ a' c' r',u=Sl a' (l.take i++l.drop j).length c'∧JR ES G' a' c' (l.take i++l.drop j) r'∧L'=[r']):=by
 intro Lr
 have hlc:=JR.lec hr
 have hcm:=JR.mx hr
 refine JP Tryz.func14 33 [(0,Sl a l.length c),(1,I (i:Int)),(2,I (j:Int))] rfl (fun w0 G0=>?_)
 show TC _ _ _ _ _ (r::Lr)
 refine Jg [0] [] (Jf (Jd (Jb [0,0,0,0,0] [(8,Sl a l.length c),(9,I (i:Int)),(10,I (j:Int)),(12,I (l.length:Int))] (Jml (k1:=.i64) (k2:=.i64) (k3:=.i64) (a:=a) (len:=l.length) (cap:=c) 13 1 i j l.length hij hj hlc (fun a9=>Je (Jc (Jf (Jg [0,0,0] [(16,Bo (decide ((i:Int)=(j:Int))))] (Jl (decide ((i:Int)=(j:Int))) (fun h1=>?_) (fun h1=>?_))))))))))
 refine Jg [0,0] [(6,Sl a l.length c)] (Jn (Jj ?_))
 have e_:l=(l.take i++l.drop j):=by have q_:i=j:=(by omega);subst q_;exact (Hw _ _).symm
 have en_:l.length=(l.take i++l.drop j).length:=congrArg Hs e_
 exact Jo [0] [Sl a l.length c] (KB (Lr:=Lr) [r] (Jh _) (⟨_,_,_,congrArg (fun n=>Sl a n c) en_,(e_ ▸ hr),rfl⟩))
 refine Jq (Jc (Jg [0,0,0] [(7,I (l.length:Int))] ?_))
 obtain ⟨b,off,css,spare,rfl,rfl,hc1,hc2,hc3,hsp,_,hmax,hone⟩:=JR.opened hr (by omega)
 refine Jf (Kt [6] (Wm [(0,Sl (At b off) l.length c),(1,I (i:Int)),(2,Sl (At b off) ((l.take i).length) c),(3,Sl (At b off) l.length c),(4,I (j:Int)),(5,Sl (if c=j then At b off else At b (off+j*1)) ((l.drop j).length) (c-j))] (JF [] [(0,0),(1,0),(3,0),(4,0)] [2,5] [6] (Kf ?_ (Kf ?_ KY)) (Kf ?_ KY))))
 refine Jr 2 22 (Sl (At b off) ((l.take i).length) c) [(20,Sl (At b off) l.length c),(21,I (i:Int))] (fun X=>?_)
 exact Ws (a:=At b off) (a':=At b off) (len:=l.length) (cap:=c) (c':=c) (n:=(l.take i).length) 22 1 none (some (I (i:Int))) 0 i (.inl ⟨rfl,rfl⟩) (.inr ⟨_,rfl⟩) (HC _) (by split <;> simp [Wv]) (Nat.sub_zero _).symm (by rw [Hi];omega) J4 Jp
 refine Jr 5 25 (Sl (if c=j then At b off else At b (off+j*1)) ((l.drop j).length) (c-j)) [(23,Sl (At b off) l.length c),(24,I (j:Int))] (fun X=>?_)
 exact Ws (a:=At b off) (a':=(if c=j then At b off else At b (off+j*1))) (len:=l.length) (cap:=c) (c':=c-j) (n:=(l.drop j).length) 25 1 (some (I (j:Int))) none j l.length (.inr ⟨_,rfl⟩) (.inl ⟨rfl,rfl⟩) hj (by split <;> simp [Wv]) rfl Hh J4 Jp
 refine Jz 6 [(22,Sl (At b off) ((l.take i).length) c),(25,Sl (if c=j then At b off else At b (off+j*1)) ((l.drop j).length) (c-j))] (fun X=>?_)
 refine Jkd (capx:=c-j) (ax:=(if c=j then At b off else At b (off+j*1))) 26 9 0 (JR.tk hr i J4) (css.drop j) (by rw [Hh,Hh,hc1]) (fun k y hy=>by rw [List.getElem?_drop] at hy ⊢;exact hc2 _ _ hy) (fun h0=>⟨b,off+j*1,by rw [Hh] at h0;rw [if_neg (by omega)],.inr ⟨0,off,(css.flatten++spare),j*1,rfl,rfl,Jdp (sz:=1) hc3 J4⟩⟩) (by rw [Hi,Hh];omega) (fun r9 hr9=>?_)
 refine JA [(6,Sl (At b off) ((l.take i).length+(l.drop j).length) c),(7,Sl (At b off) ((l.take i).length+(l.drop j).length) c)] (Kl [0,1,2,3,4,5] [(7,0)] [] [(0,Sl (At b off) ((l.take i).length+(l.drop j).length) c),(7,I (l.length:Int))] (Hb _) (Jc ?_))
 have hln:(l.take i).length+(l.drop j).length=l.length-(j-i):=by rw [Hi,Hh];omega
 refine Jf (Jd (Jb [0,0,0,0] [(27,Sl (At b off) ((l.take i).length+(l.drop j).length) c),(29,I (((l.take i).length+(l.drop j).length:Nat):Int)),(30,I (l.length:Int))] (Ws (a:=At b off) (a':=At b (off+(l.take i++l.drop j).length*1)) (len:=(l.take i).length+(l.drop j).length) (cap:=c) (c':=c-(l.take i++l.drop j).length) (n:=l.length-(l.take i++l.drop j).length) 31 1 (some (I (((l.take i).length+(l.drop j).length:Nat):Int))) (some (I (l.length:Int))) ((l.take i).length+(l.drop j).length) l.length (.inr ⟨_,rfl⟩) (.inr ⟨_,rfl⟩) J4 (by rw [if_neg J4,Ha];simp [Wv]) (by rw [Ha]) (by rw [Ha]) J4 (JiL (b:=b) (off:=off) (m:=l.length-(l.take i++l.drop j).length) (c':=c-(l.take i++l.drop j).length) 0 hr9 rfl (by rw [Ha];omega) (by rw [Ha];omega) (fun r8 hr8=>Je (Jc (Jg [0,0] [(6,Sl (At b off) ((l.take i).length+(l.drop j).length) c)] (Jn ?_))))))))
 have en_:(l.take i).length+(l.drop j).length=(l.take i++l.drop j).length:=Ha.symm
 exact Jo [0] [Sl (At b off) ((l.take i).length+(l.drop j).length) c] (KB (Lr:=Lr) [r8] (Jh _) (⟨_,_,_,congrArg (fun n=>Sl (At b off) n c) en_,hr8,rfl⟩))
theorem JhF (G:J5)  (a_l:Ba) (c_l:Nat) (l:Bs) (h_l:RS ES G a_l c_l l) (hs:∀ s∈l,s.length≤1048576) (hS:∀ s∈l,dS (KN (V3 (JJ s) 0))=true):V4 Tryz.prog 9 #[Sl a_l l.length c_l] G [] (fun u G' L'=>((0:Int)=0)∧∃ (az1:Ba) (cz2:Nat) (rz3:Bg),u=.tuple #[Sl az1 (((Ka l).1).length) cz2,I ((Ka l).2)]∧(JR ES G' az1 cz2 ((Ka l).1) rz3)∧L'=[rz3]) (fun _ _ _=>False):=by
 refine W0 Tryz.func9 28 [(0,Sl a_l l.length c_l)] rfl (fun w0 G0 hT=>Jg [0,0] [] (Jf (Jg [0,0,0] [(10,Bo (decide ((l.length:Int) > 100)))] (Jl (decide ((l.length:Int) > 100)) (fun h1=>?_) (fun h1=>?_)))))
 refine Jg [0,0] [(2,Sl none 0 0),(3,I 2)] (Jn (Jj (ZB ?_)))
 have hf1:(0:Int)=0∧Ka l=(([]:Bs),2):=by
  (unfold Ka;rw [if_pos (by omega)];exact ⟨rfl,rfl⟩)
 refine Jo [0,0] [Sl none 0 0,I 2] (V5 (JD [[]] (Jh _) ?_))
 rw [hf1.2]
 try dsimp only
 exact ⟨hf1.1,none,0,([]),rfl,(JR.none ES _),rfl⟩
 refine Jq (Jc (Jf (Jd (Jb [0,0] [(12,.agg #[Sl none 0 0,Sl none 0 0,I 10,I 3,I 5,I 2,I 8,I 3,I 10,Sl none 0 0])] (Jv 13 #[Sl none 0 0,Sl none 0 0,I 10,I 3,I 5,I 2,I 8,I 3,I 10,Sl none 0 0] 91 (fun b1=>Jb [0] [(4,Pt b1 0)] (Je (Jc (Jg [0] [(5,Sl none 0 0)] (Jf (Jg [0,0,0] [(14,Sl a_l l.length c_l),(15,I (l.length:Int)),(16,I 0)] (Jy (ZA (ZA ?_))))))))))))))
 have hlm_h_l:l.length≤9223372036854775807:=Ht (h_l).le (h_l).max
 refine Qc (σ:=Nat×Ba×Nat×Bg×Bs×KD×Ba×Nat×Ba×Nat×Ba×Nat×Bg×J5) (fun q_=>(J5.le G q_.2.2.2.2.2.2.2.2.2.2.2.2.2)∧(q_.1≤l.length)∧(JR ES q_.2.2.2.2.2.2.2.2.2.2.2.2.2 q_.2.1 q_.2.2.1 q_.2.2.2.2.1 q_.2.2.2.1)∧(q_.2.2.2.2.1=Jae Jaj (l.take q_.1))∧(RS ES q_.2.2.2.2.2.2.2.2.2.2.2.2.2 q_.2.2.2.2.2.2.1 q_.2.2.2.2.2.2.2.1 q_.2.2.2.2.2.1.setup.names)∧(RS EU q_.2.2.2.2.2.2.2.2.2.2.2.2.2 q_.2.2.2.2.2.2.2.2.1 q_.2.2.2.2.2.2.2.2.2.1 q_.2.2.2.2.2.1.setup.keys)∧(JR Wh q_.2.2.2.2.2.2.2.2.2.2.2.2.2 q_.2.2.2.2.2.2.2.2.2.2.1 q_.2.2.2.2.2.2.2.2.2.2.2.1 q_.2.2.2.2.2.1.deeds q_.2.2.2.2.2.2.2.2.2.2.2.2.1)∧(rI q_.2.2.2.2.2.1.setup.most)∧(rI q_.2.2.2.2.2.1.setup.batch)∧(rI q_.2.2.2.2.2.1.setup.every)∧(rI q_.2.2.2.2.2.1.setup.least)∧(rI q_.2.2.2.2.2.1.setup.top)∧(rI q_.2.2.2.2.2.1.setup.lost)∧(rI q_.2.2.2.2.2.1.setup.reach)∧(q_.2.2.2.2.2.1=JeB Jaj (l.take q_.1))) (fun q_=>[(4,Pt b1 0),(5,Sl q_.2.1 q_.2.2.2.2.1.length q_.2.2.1),(14,Sl a_l l.length c_l),(15,I (l.length:Int)),(16,I (q_.1:Int))]) (fun q_=>q_.2.2.2.2.2.2.2.2.2.2.2.2.2) (fun q_=>[q_.2.2.2.2.2.2.2.2.2.2.2.2.1,q_.2.2.2.1,[Sg b1 0 (J3 q_.2.2.2.2.2.1 q_.2.2.2.2.2.2.1 q_.2.2.2.2.2.2.2.1 q_.2.2.2.2.2.2.2.2.1 q_.2.2.2.2.2.2.2.2.2.1 q_.2.2.2.2.2.2.2.2.2.2.1 q_.2.2.2.2.2.2.2.2.2.2.2.1)]]) (fun q_=>l.length-q_.1) (0,none,0,[],[],(⟨(⟨[],[],10,3,5,2,8,3,10⟩:Kx),([]:List K6)⟩:KD),none,0,none,0,none,0,[],G) ⟨(Jh _),(by (try dsimp only);exact HC _),(JR.none ES _),rfl,(J2 ES G),(J2 EU G),(JR.none Wh _),(by (try dsimp only);omega),(by (try dsimp only);omega),(by (try dsimp only);omega),(by (try dsimp only);omega),(by (try dsimp only);omega),(by (try dsimp only);omega),(by (try dsimp only);omega),(by (try dsimp only);rfl)⟩ (fun q_ hs=>?_)
 obtain ⟨i,ax,cx,rx,xx,dt,adt0,cdt0,adt1,cdt1,adt2,cdt2,rdt9,g⟩:=q_
 obtain ⟨hle,hi,hrx,hxx,hdt0,hdt1,hdt9,hdt2,hdt3,hdt4,hdt5,hdt6,hdt7,hdt8,hD⟩:=hs
 dsimp only at hle hi hrx hxx hdt0 hdt1 hdt9 hdt2 hdt3 hdt4 hdt5 hdt6 hdt7 hdt8 hD
 dsimp only
 refine Jg [0] [(17,Bo (decide ((i:Int)<(l.length:Int))))] (Jf (Jl (decide ((i:Int)<(l.length:Int))) (fun h2=>?_) (fun h2=>?_)))
 refine Jq (Jc (Jf (Jy (Jf (Jd ?_)))))
 obtain ⟨b2,o1,rfl⟩:=RS.addr (h_l.mono hle) (k:=i) (by omega)
 obtain ⟨x1,hx1⟩:=QS (l:=l) (k:=i) (by omega)
 obtain ⟨_,⟨rfl,_⟩,hc1⟩:=RS.get (h_l.mono hle) hx1
 refine JV (b:=b2) (off:=o1) (len:=l.length) (cap:=c_l) (ik:=.i64) 18 9 1 i J4 (JO 19 9 (cs:=[Sr x1]) 0 (Sr x1) hc1 (Jb [0] [(7,Sr x1)] (Je (Jc (Jd (Jb [0,0,0] [(20,Sl ax xx.length cx),(21,Pt b1 0),(22,Sr x1)] (Jw 0 (Jw 2 (ZQ (Ls:=[[Sg b1 0 (J3 dt adt0 cdt0 adt1 cdt1 adt2 cdt2)],rdt9]) (Lr:=[rx]) 23 hT (do_c g b1 dt adt0 cdt0 adt1 cdt1 adt2 cdt2 rdt9 hdt0 hdt1 hdt2 hdt3 hdt4 hdt5 hdt6 hdt7 hdt8 hdt9 x1 (hD ▸ Jgz (l.take i) JhD) (hs _ (Hc hx1)) (hS _ (Hc hx1))) (fun v G1 L1 hl1 hp=>?_))))))))))
 obtain ⟨_,a1,c1,a2,c2,a3,c3,r1,rfl,w2,hs1,hs2,_,_,_,_,_,_,_,hr1,rfl⟩:=hp
 refine Km 24 1 #[Sr (VB dt x1)] 9 (fun b3=>Qd (b:=b3) (cs:=[Sr (VB dt x1)]) 25 9 3 0 (E:=ES) (VB dt x1) (hrx.mono hl1) ⟨rfl,w2⟩ (by have q_:=congrArg Hs hxx;simp only [YJ,Hi] at q_;(try simp only [ES]);omega) (by have q_:=congrArg Hs hxx;simp only [YJ,Hi] at q_;(try simp only [ES]);omega) (fun a4 c4 r2 hr2=>Jb [0] [(5,Sl a4 ((xx++[VB dt x1]).length) c4)] (Je (JM (Jc (Jd (Jb [0,0] [(16,I (Hg.wrap ((i:Int)+1)))] (Kp 16 ((i:Int)+1) J4 (Je (Jk 1 (Jk 3 (Jk 3 ?_))))))))))))
 exact Qy [r1,r2,[Sg b1 0 (J3 (ZH dt x1) a1 c1 a2 c2 a3 c3)]] (Qh (i+1,a4,c4,r2,xx++[VB dt x1],(ZH dt x1),a1,c1,a2,c2,a3,c3,r1,G1) ⟨(Ja hle hl1),J4,hr2,(by (try dsimp only);rw [hxx,hD,JgA hx1]),hs1,hs2,hr1,‹_›,‹_›,‹_›,‹_›,‹_›,‹_›,‹_›,(by (try dsimp only);rw [hD,JhC hx1])⟩ (by (try dsimp only);omega))
 refine KX (J1 (Kd (JS (Jc (Jg [0,0,0] [(2,Sl ax xx.length cx),(3,I 0)] (Jn (Jk 1 ?_)))))))
 have hf2:(0:Int)=0∧Ka l=(xx,0):=by
  (unfold Ka;rw [if_neg (by omega)];have q_:=Ho (i:=i) (l:=l) (by omega);rw [q_] at hxx;exact ⟨rfl,by rw [hxx]⟩)
 refine Jo [0,0] [Sl ax xx.length cx,I 0] (V5 (JD [rx] hle ?_))
 rw [hf2.2]
 try dsimp only
 exact ⟨hf2.1,ax,cx,rx,rfl,hrx,rfl⟩
abbrev ZJ (s:Bb):=s == [101,118,101,110,116,115]
abbrev VP (s:Bb):=s == [115,101,101,110,32,48]
abbrev YA (s:Bb):=s == [109,97,114,107]
abbrev JbR (s:Bb):=s == [108,111,111,107,32,97,32,48]
abbrev Zq (kn1:Nat) (l:Bs) (s:Bb):=Ka (JaU l kn1 s)
abbrev JeC (l:Bs):=decide ((l.length:Int) > 60)
theorem Jiu (G:J5)  (a_l:Ba) (c_l:Nat) (l:Bs) (h_l:RS ES G a_l c_l l) (s:Bb) (hw_s:(s).length≤140737488351232) (k:Int) (hw_k:rI k) (hs:∀ x∈l,x.length≤1048576) (hs2:s.length≤1048576):V4 Tryz.prog 4 #[Sl a_l l.length c_l,Sr s,I k] G [] (fun u G' L'=>((0:Int)=0)∧u=Bo true∧L'=[]) (fun _ _ _=>False):=by
 refine W0 Tryz.func4 86 [(0,Sl a_l l.length c_l),(1,Sr s),(2,I k)] rfl (fun w0 G0 hT=>Jg [0] [] (Jf (Jf (Jd (ZQ (Ls:=[]) (Lr:=[]) 11 hT ((Jnr G).frame) (fun v G1 L1 hl1 hp=>?_))))))
 obtain ⟨_,rfl,rfl⟩:=hp
 refine Jb [0] [(12,Bo false)] (Je (Jc (Qr (Jq (Jc (Jf (Jf (Jd (Jb [0,0,0,0] [(16,Bo (JeC l))] (Ks (JeC l) [16] [1,1,0] [0,0,0] (fun bb=>[(19,Bo (bb || (decide (k<0))))]) (Jb [0] [(20,Bo ((JeC l) || (decide (k<0))))] (Ks ((JeC l) || (decide (k<0))) [20] [1,1,1,1,0] [0,0,0,0,0] (fun bb=>[(25,Bo (bb || (decide (k > (l.length:Int)))))]) (Jb [0] [(26,Bo (((JeC l) || (decide (k<0))) || (decide (k > (l.length:Int)))))] (QR [26] (((JeC l) || (decide (k<0))) || (decide (k > (l.length:Int)))) (fun h1=>?_) (fun h1=>?_)))))))))))))))
 refine Jb [1,1,1,1,1,1,1,1,1,1,1,1,1,1,1,1,1,1,1,1,1,1,0] [(49,Bo true)] (Je (Jc (J0 (Jg [0] [(6,Bo true)] (Jn (Jj ?_))))))
 have hf1:(0:Int)=0∧true=true:=by
  exact ⟨rfl,rfl⟩
 refine Jo [0] [Bo true] (V5 (JD [] hl1 ?_))
 rw [hf1.2]
 try dsimp only
 exact ⟨hf1.1,rfl,rfl⟩
 refine Jb [0,0,0] [(29,Bo (!((B s).toList == (B ([110,111,119])).toList)))] (Kv 29 (Bo (!(s == [110,111,119]))) (show (Bo (!((B s).toList == (B ([110,111,119])).toList)):Value)=Bo (!(s == [110,111,119])) by simp only [Qx]) (Ks (!(s == [110,111,119])) [29] [0,0,0] [1,1,0] (fun bb=>[(32,Bo (bb && (!((B s).toList == (B ([101,118,101,110,116,115])).toList))))]) (Kv 32 (Bo ((!(s == [110,111,119])) && (!(ZJ s)))) (show (Bo ((!(s == [110,111,119])) && (!((B s).toList == (B ([101,118,101,110,116,115])).toList))):Value)=Bo ((!(s == [110,111,119])) && (!(ZJ s))) by simp only [Qx]) (Jb [0] [(33,Bo ((!(s == [110,111,119])) && (!(ZJ s))))] (Ks ((!(s == [110,111,119])) && (!(ZJ s))) [33] [0,0,0] [1,1,0] (fun bb=>[(36,Bo (bb && (!((B s).toList == (B ([109,97,114,107])).toList))))]) (Kv 36 (Bo (((!(s == [110,111,119])) && (!(ZJ s))) && (!(YA s)))) (show (Bo (((!(s == [110,111,119])) && (!(ZJ s))) && (!((B s).toList == (B ([109,97,114,107])).toList))):Value)=Bo (((!(s == [110,111,119])) && (!(ZJ s))) && (!(YA s))) by simp only [Qx]) (Jb [0] [(37,Bo (((!(s == [110,111,119])) && (!(ZJ s))) && (!(YA s))))] (Ks (((!(s == [110,111,119])) && (!(ZJ s))) && (!(YA s))) [37] [0,0,0] [1,1,0] (fun bb=>[(40,Bo (bb && (!((B s).toList == (B ([115,101,101,110,32,48])).toList))))]) (Kv 40 (Bo ((((!(s == [110,111,119])) && (!(ZJ s))) && (!(YA s))) && (!(VP s)))) (show (Bo ((((!(s == [110,111,119])) && (!(ZJ s))) && (!(YA s))) && (!((B s).toList == (B ([115,101,101,110,32,48])).toList))):Value)=Bo ((((!(s == [110,111,119])) && (!(ZJ s))) && (!(YA s))) && (!(VP s))) by simp only [Qx]) (Jb [0] [(41,Bo ((((!(s == [110,111,119])) && (!(ZJ s))) && (!(YA s))) && (!(VP s))))] ?_))))))))))
 refine Ks ((((!(s == [110,111,119])) && (!(ZJ s))) && (!(YA s))) && (!(VP s))) [41] [0,0,0] [1,1,0] (fun bb=>[(44,Bo (bb && (!((B s).toList == (B ([108,111,111,107,32,97,32,48])).toList))))]) (Kv 44 (Bo (((((!(s == [110,111,119])) && (!(ZJ s))) && (!(YA s))) && (!(VP s))) && (!(JbR s)))) (show (Bo (((((!(s == [110,111,119])) && (!(ZJ s))) && (!(YA s))) && (!(VP s))) && (!((B s).toList == (B ([108,111,111,107,32,97,32,48])).toList))):Value)=Bo (((((!(s == [110,111,119])) && (!(ZJ s))) && (!(YA s))) && (!(VP s))) && (!(JbR s))) by simp only [Qx]) (Jb [0] [(45,Bo (((((!(s == [110,111,119])) && (!(ZJ s))) && (!(YA s))) && (!(VP s))) && (!(JbR s))))] (Ks (((((!(s == [110,111,119])) && (!(ZJ s))) && (!(YA s))) && (!(VP s))) && (!(JbR s))) [45] [0,0,0] [1,1,0] (fun bb=>[(48,Bo (bb && (!((B s).toList == (B ([119,104,97,116])).toList))))]) (Kv 48 (Bo ((((((!(s == [110,111,119])) && (!(ZJ s))) && (!(YA s))) && (!(VP s))) && (!(JbR s))) && (!(s == [119,104,97,116])))) (show (Bo ((((((!(s == [110,111,119])) && (!(ZJ s))) && (!(YA s))) && (!(VP s))) && (!(JbR s))) && (!((B s).toList == (B ([119,104,97,116])).toList))):Value)=Bo ((((((!(s == [110,111,119])) && (!(ZJ s))) && (!(YA s))) && (!(VP s))) && (!(JbR s))) && (!(s == [119,104,97,116]))) by simp only [Qx]) (Jb [0] [(49,Bo ((((((!(s == [110,111,119])) && (!(ZJ s))) && (!(YA s))) && (!(VP s))) && (!(JbR s))) && (!(s == [119,104,97,116]))))] (Je (Jc (Jl ((((((!(s == [110,111,119])) && (!(ZJ s))) && (!(YA s))) && (!(VP s))) && (!(JbR s))) && (!(s == [119,104,97,116]))) (fun h2=>?_) (fun h2=>?_)))))))))
 refine Jg [0] [(6,Bo true)] (Jn (Jj ?_))
 have hf2:(0:Int)=0∧true=true:=by
  exact ⟨rfl,rfl⟩
 refine Jo [0] [Bo true] (V5 (JD [] hl1 ?_))
 rw [hf2.2]
 try dsimp only
 exact ⟨hf2.1,rfl,rfl⟩
 refine Jq (Jc (Jf (Jd (Jb [0] [(51,Sl a_l l.length c_l)] (ZQ (Ls:=[]) (Lr:=[]) 52 hT ((JhF G1 a_l c_l l (h_l.mono hl1) hs (fun _ _=>rfl)).frame) (fun v G2 L1 hl2 hp=>?_))))))
 obtain ⟨_,a1,c1,r1,rfl,hr1,rfl⟩:=hp
 refine Jb [0,0,0,0,0] [(7,Sl a1 (((Ka l).1).length) c1),(8,I ((Ka l).2))] (Je (Jc ?_))
 obtain ⟨kn1,hkn1⟩:∃ k_:Nat,k=(k_:Int):=⟨(k).toNat,by omega⟩
 have e1:k=(kn1:Int):=hkn1
 refine QU 2 (I (kn1:Int)) (congrArg I e1) (Jf (Jd (Jb [0] [(56,Sl a_l l.length c_l)] (JN 57 (Jbo G2 a_l c_l l (h_l.mono (Ja hl1 hl2))) (fun v G3 L1 hl3 hp=>?_)))))
 obtain ⟨a2,c2,r2,rfl,hr2,rfl⟩:=hp
 refine Jb [0,0] [(58,I (kn1:Int)),(59,Sr s)] (Jea 60 1 #[Sr s] 9 (fun b1=>Jw 0 (Jw 1 (Qi (Ls:=[r2,[Vm 9 b1 0 [Sr s]]]) (Lr:=[r1]) 61 (Jqm G3 a2 c2 l r2 hr2 b1 s hw_s kn1 J4 J4) (fun v G4 L1 hl4 hp=>?_)))))
 obtain ⟨a3,c3,_,rfl,hr3,rfl⟩:=hp
 refine Wg (E:=ES) 0 hr3 (by (try have q_:=Jbv (l:=l) (x:=s) (i:=kn1) J4);(try simp only [ES,Ha,Hd,Hf,Hi,Hh]);omega) (fun G5 hl5 hs1=>ZQ (Ls:=[]) (Lr:=[[],r1]) 62 hT ((JhF G5 a3 c3 (JaU l kn1 s) hs1 (Jpv hs hs2) (fun _ _=>rfl)).frame) (fun v G6 L1 hl6 hp=>?_))
 obtain ⟨_,a4,c4,r4,rfl,hr4,rfl⟩:=hp
 refine Jb [0,0,0,0,0] [(9,Sl a4 (((Zq kn1 l s).1).length) c4),(10,I ((Zq kn1 l s).2))] (Je (Jc ?_))
 obtain ⟨f1_,f2_,f3_,f4_,f5_⟩:=Jpx (Jpw h2) (k:=kn1) (l:=l) J4 (by omega)
 refine Jf (Jd (Jb [0,0] [(65,I ((Ka l).2)),(66,I ((Zq kn1 l s).2))] (Km 67 2 #[I ((Ka l).2),I ((Zq kn1 l s).2)] 24 (fun b2=>QI (b:=b2) (o:=0) (cs:=[I ((Ka l).2),I ((Zq kn1 l s).2)]) 0 (fun G7 hl7 hz1=>?_)))))
 have hs2:RS EErr G7 (At b2 0) 2 [(Ka l).2,(Zq kn1 l s).2]:=RS.lit [[I ((Ka l).2)],[I ((Zq kn1 l s).2)]] [(Ka l).2,(Zq kn1 l s).2] ⟨rfl,⟨rfl,trivial⟩⟩ hz1 (He rfl) (He rfl)
 refine Jm 68 (Bo (!(([(Ka l).2,(Zq kn1 l s).2]).any fun x0=>!decide (x0=0)))) (Jod G7 (At b2 0) 2 ([(Ka l).2,(Zq kn1 l s).2]) hs2) (Jb [0] [(69,Bo (!(([(Ka l).2,(Zq kn1 l s).2]).any fun x0=>!decide (x0=0))))] (QR [69] (!(([(Ka l).2,(Zq kn1 l s).2]).any fun x0=>!decide (x0=0))) (fun h3=>?_) (fun h3=>?_)))
 refine Jb [0,0,0,0,0,0,0,0] [(77,Bo (decide ((((Zq kn1 l s).1).length:Int)=Hg.wrap ((((Ka l).1).length:Int)+1))))] ?_
 have e2:Hg.wrap ((((Ka l).1).length:Int)+1)=(((Ka l).1).length:Int)+1:=Hn _ (by omega)
 refine Kv 77 (Bo (decide ((((Ka (JaU l kn1 s)).1).length:Int)=(((Ka l).1).length:Int)+1))) (show (Bo (decide ((((Ka (JaU l kn1 s)).1).length:Int)=Hg.wrap ((((Ka l).1).length:Int)+1))):Value)=Bo (decide ((((Ka (JaU l kn1 s)).1).length:Int)=(((Ka l).1).length:Int)+1)) by simp only [e2]) ?_
 clear e2
 refine QR [77] (decide ((((Zq kn1 l s).1).length:Int)=(((Ka l).1).length:Int)+1)) (fun h4=>?_) (fun h4=>?_)
 refine Jb [0,0,0,0,0] [(78,Sl a1 (((Ka l).1).length) c1),(79,Sl a4 (((Zq kn1 l s).1).length) c4),(80,I (kn1:Int)),(82,I (Hg.wrap ((kn1:Int)+1)))] (Kp 82 ((kn1:Int)+1) J4 (Jw 1 (Qi (Ls:=[r4]) (Lr:=[[],[],r1]) 83 (Jqn G7 a4 c4 ((Zq kn1 l s).1) r4 (hr4.mono hl7) kn1 (kn1+1) J4 J4) (fun v G8 L1 hl8 hp=>?_))))
 obtain ⟨a5,c5,_,rfl,hr5,rfl⟩:=hp
 refine Wg (E:=ES) 3 (hr1.mono (Ja (Ja (Ja (Ja (Ja hl3 hl4) hl5) hl6) hl7) hl8)) (by (try have q_:=Jbv (l:=l) (x:=s) (i:=kn1) J4);(try simp only [ES,Ha,Hd,Hf,Hi,Hh]);omega) (fun G9 hl9 hs3=>Wg (E:=ES) 0 (hr5.mono hl9) (by (try have q_:=Jbv (l:=l) (x:=s) (i:=kn1) J4);(try simp only [ES,Ha,Hd,Hf,Hi,Hh]);omega) (fun G10 hl10 hs4=>Jm 84 (Bo (decide ((Ka l).1=((Zq kn1 l s).1).take kn1++((Zq kn1 l s).1).drop (kn1+1)))) (seq_ES G10 a1 c1 ((Ka l).1) (hs3.mono hl10) a5 c5 (((Zq kn1 l s).1).take kn1++((Zq kn1 l s).1).drop (kn1+1)) hs4) (Jb [0,0] [(6,Bo (decide ((Ka l).1=((Zq kn1 l s).1).take kn1++((Zq kn1 l s).1).drop (kn1+1))))] (Je (Jc (Jn ?_))))))
 have hf3:(0:Int)=0∧(decide ((Ka l).1=((Zq kn1 l s).1).take kn1++((Zq kn1 l s).1).drop (kn1+1)))=true:=by
  exact ⟨rfl,decide_eq_true f5_.symm⟩
 refine Jo [0] [Bo (decide ((Ka l).1=((Zq kn1 l s).1).take kn1++((Zq kn1 l s).1).drop (kn1+1)))] (V5 (JD [] (Ja (Ja (Ja (Ja (Ja (Ja (Ja (Ja (Ja hl1 hl2) hl3) hl4) hl5) hl6) hl7) hl8) hl9) hl10) ?_))
 rw [hf3.2]
 try dsimp only
 exact ⟨hf3.1,rfl,rfl⟩
 refine Jb [1,1,1,1,1,1,1,0,0] [(6,Bo false)] (Je (Jc (Jn ?_)))
 have hf4:(0:Int)=0∧false=true:=by
  (exfalso;simp only [Ka,Zq,JaU] at *;omega)
 refine Jo [0] [Bo false] (V5 (JD [] (Ja (Ja (Ja (Ja (Ja (Ja hl1 hl2) hl3) hl4) hl5) hl6) hl7) ?_))
 rw [hf4.2]
 try dsimp only
 exact ⟨hf4.1,rfl,rfl⟩
 refine Jb [1,1,1,1,1,1,0,0,1,1,1,1,1,1,1,0,0] [(6,Bo false)] (Je (Jc (Jn ?_)))
 have hf5:(0:Int)=0∧false=true:=by
  (exfalso;simp [f1_,f3_] at h3;done)
 refine Jo [0] [Bo false] (V5 (JD [] (Ja (Ja (Ja (Ja (Ja (Ja hl1 hl2) hl3) hl4) hl5) hl6) hl7) ?_))
 rw [hf5.2]
 try dsimp only
 exact ⟨hf5.1,rfl,rfl⟩
open Go.ChangeShapes Go.WideShapes Go.ChangeAt Go.RowKit
theorem JcU {P:Program} {W:World} {n nm:String} {d:DataW Unit} {r:List (String×DataW Unit)} {g:Nat} {ti:TypeId} {ms:Array (String×TypeId)} (h:laidMet P ((n,.iface nm d)::r) W)
  (hg:P.globalNamed n=some g) (ht:(P.globals[g]?).map (·.type)=some ti) (hi:P.underlying ti=some (.interface ms)):JiN P W n:=by
 obtain ⟨ps,⟨g0,t0,cs0,f0,p0,q0,hg0,ht0,hv0,hd0,_,e0⟩,_,_⟩:=h
 obtain rfl:=Option.some.inj (hg.symm.trans hg0)
 obtain rfl:=Option.some.inj (ht.symm.trans ht0)
 obtain ⟨f1,u,v,hc,hn,h1⟩:=iface_of_trod hi hd0
 refine ⟨g,.iface u v,hg,?_,.inr ⟨u,v,rfl⟩⟩
 have:=World.var?_cell hg0 hv0 0
 rw [← Array.getElem?_toList,hc] at this
 simpa using this
section
variable {P:Program} {G:J5}
theorem Jlc {P:Program} {f:FuncId} {args:Array Value} {W:World} (hT:TW P W) (hc:V4 P f args (JbT W) [] (fun u _ _=>u=Bo true) (fun _ _ _=>False)) :
  Calls P f args W fun e W'=>e=.returned (.bool true)∧Below W.heap.size W W':=by
 refine (hc W (JbT W) W hT (St.start fun b o v h=>h)).mono ?_
 rintro e W' ⟨v,G',L',hS,_,⟨rfl,rfl⟩ | ⟨_,h⟩⟩
 · exact ⟨rfl,hS.below⟩
 · exact h.elim
theorem Jg3 {H:Type} {enc:TypeId×Value→H} {f:Func} {k:FuncId} {s:ChangeSpec} {t:TypeId} {fresh handsOn again:Bool} (N:Nat) (hlo:laidOutB P=true)
  (hr:JiP P f.params.toList=true) (hv:s.vars=[])
  (ho:∀ ds:List (DataW H),ds.length=f.params.toList.length→s.fn H ds={ results:=[.lit (.bool true)],args:=ds }) (ht:f.resultTypes=#[t]) (hu:P.underlying t=some .bool)
  (W:World) (base:Nat) (args:Array Value) (ds gs:List (DataW H)) (before:List MemPlace)
  (hval:∀ (j:Nat) t v,f.params[j]? = some t→args[j]? = some v→Value.okWide P W .any base t v)
  (hW:DataW.Whole enc P f.params.toList s.vars false W args.toList ds gs before)
  (hcon:∀ n,n≤N→RdA P (JbT W) f.params.toList args.toList n→Calls P k args W fun e W'=>e=.returned (.bool true)∧Below W.heap.size W W')
  (hN:Rows.uptoBulkAll (ds++gs)≤N)
  (hsz:(DataW.weightsEach P (f.params.toList++s.plain.varTypes P) (ds++gs)).all (·≤reachBytes)=true) :
  Calls P k args W fun e W'=>∃ v,e=.returned v∧s.post enc P f false fresh handsOn again W args v W':=by
 have hW':=hW
 obtain ⟨p,q,hA,hV,rfl,hfz,hnd⟩:=hW
 rw [hv] at hV
 obtain ⟨rfl,rfl⟩:=trodVars_none hV
 have hvt:s.plain.varTypes P=[]:=by simp [DataSpec.varTypes,ChangeSpec.plain,hv]
 rw [hvt,Hy,Hy] at hsz
 rw [Hy] at hN
 have hlen:∀ (ts:List TypeId) (vs:Bv) (ds:List (DataW H)) (ps:List MemPlace),DataW.TrodAll enc P W 0 (fun _=>true) true ts vs ds ps→ds.length=ts.length:=by
  intro ts
  induction ts with
  | nil=>intro vs ds ps h;have:=(trodAll_nil h).2.1;subst this;rfl
  | cons t ts ih =>
   intro vs ds ps h
   obtain ⟨v,vs',d,ds',p,q,rfl,rfl,rfl,h1,h2⟩:=trodAll_cons h
   simp [ih _ _ _ h2]
 have hR:=JnU (base:=base) _ _ _ _ hA (JnV hval) (all_le hsz)
 refine (hcon _ hN hR).mono ?_
 rintro e W' ⟨rfl,hb⟩
 exact ⟨_,rfl,JnR hlo hr hv hW' (ho ds (hlen _ _ _ _ hA)) ht hu hb⟩
end
end Go.Proofs.YteaampgpgokjmaaGreatDoor
