import Derived.Test.YteaampgpgokjmaaGreatDoorTiE
import Derived.Stop.LaidErr
set_option linter.unusedVariables false
set_option linter.unusedSimpArgs false
namespace Go.Proofs.YteaampgpgokjmaaGreatDoor
open Go.Tx
open Go.Proofs
open _root_.List renaming mem_of_getElem? → Ha, forall_mem_nil → Hb, length_append → Hd, length_cons → He, length_nil → Hf, getElem?_cons_zero → Hg, getElem?_cons_succ → Hh, replicate → Hi, length_drop → Hl, mem_of_mem_drop → Hm, mem_nil_iff → Hn, length_take → Ho, take_of_length_le → Hr, mem_cons → Hs, length_map → Ht, take_add_one → Hv, append_nil → Hw, length → Hy
open _root_.Nat renaming le_of_ble_eq_true → Hc, le_trans → Hu, zero_le → Hx
open _root_.Option renaming getD_some → Hj
open IntKind renaming i64 → Hk
open _root_.Int renaming toNat_natCast → Hp
open _root_.Decidable renaming not_not → Hq
def ZA (t:KD) (w:Bs):Bs×Int :=
 if ¬ (Ka (V4 w 1)).2=0 then ([],(Ka (V4 w 1)).2) else if ¬ (Jt t.setup t.deeds).2.2=0 then ([],(Jt t.setup t.deeds).2.2)
 else if ¬ (JL (Jt t.setup t.deeds).1.clerk (V4 w 0) (Ka (V4 w 1)).1).2=0 then ([],(JL (Jt t.setup t.deeds).1.clerk (V4 w 0) (Ka (V4 w 1)).1).2)
 else if ¬ (JG (JL (Jt t.setup t.deeds).1.clerk (V4 w 0) (Ka (V4 w 1)).1).1).2.2=0 then ([],(JG (JL (Jt t.setup t.deeds).1.clerk (V4 w 0) (Ka (V4 w 1)).1).1).2.2)
 else if (JG (JL (Jt t.setup t.deeds).1.clerk (V4 w 0) (Ka (V4 w 1)).1).1).2.1=false then ([[45]],0) else ([[43],(JG (JL (Jt t.setup t.deeds).1.clerk (V4 w 0) (Ka (V4 w 1)).1).1).1],0)
section
variable {t:KD} {w:Bs} {x y:Bb}
theorem JpL (h:w[1]? = some y) (h1:¬ (Ka y).2=0):(ZA t w).2=(Ka y).2:=by unfold ZA;rw [← Q0 h,if_pos h1]
theorem JpM (h:w[1]? = some y) (h1:(Ka y).2=0) (h2:¬ (Jt t.setup t.deeds).2.2=0):(ZA t w).2=(Jt t.setup t.deeds).2.2:=by unfold ZA;rw [← Q0 h,if_neg (by omega),if_pos h2]
theorem JpN (h:w[1]? = some y) (h0:w[0]? = some x) (h1:(Ka y).2=0) (h2:(Jt t.setup t.deeds).2.2=0) (h3:¬ (JL (Jt t.setup t.deeds).1.clerk x (Ka y).1).2=0):(ZA t w).2=(JL (Jt t.setup t.deeds).1.clerk x (Ka y).1).2:=by
 unfold ZA;rw [← Q0 h,← Q0 h0,if_neg (by omega),if_neg (by omega),if_pos h3]
theorem JpO (h:w[1]? = some y) (h0:w[0]? = some x) (h1:(Ka y).2=0) (h2:(Jt t.setup t.deeds).2.2=0) (h3:(JL (Jt t.setup t.deeds).1.clerk x (Ka y).1).2=0) (h4:¬ (JG (JL (Jt t.setup t.deeds).1.clerk x (Ka y).1).1).2.2=0) :
  (ZA t w).2=(JG (JL (Jt t.setup t.deeds).1.clerk x (Ka y).1).1).2.2:=by
 unfold ZA;rw [← Q0 h,← Q0 h0,if_neg (by omega),if_neg (by omega),if_neg (by omega),if_pos h4]
theorem JpP (h:w[1]? = some y) (h0:w[0]? = some x) (h1:(Ka y).2=0) (h2:(Jt t.setup t.deeds).2.2=0) (h3:(JL (Jt t.setup t.deeds).1.clerk x (Ka y).1).2=0) (h4:(JG (JL (Jt t.setup t.deeds).1.clerk x (Ka y).1).1).2.2=0)
  (h5:(JG (JL (Jt t.setup t.deeds).1.clerk x (Ka y).1).1).2.1=false):ZA t w=([[45]],0):=by
 unfold ZA;rw [← Q0 h,← Q0 h0,if_neg (by omega),if_neg (by omega),if_neg (by omega),if_neg (by omega),if_pos h5]
theorem JpQ (h:w[1]? = some y) (h0:w[0]? = some x) (h1:(Ka y).2=0) (h2:(Jt t.setup t.deeds).2.2=0) (h3:(JL (Jt t.setup t.deeds).1.clerk x (Ka y).1).2=0) (h4:(JG (JL (Jt t.setup t.deeds).1.clerk x (Ka y).1).1).2.2=0)
  (h5:(JG (JL (Jt t.setup t.deeds).1.clerk x (Ka y).1).1).2.1=true):ZA t w=([[43],(JG (JL (Jt t.setup t.deeds).1.clerk x (Ka y).1).1).1],0):=by
 unfold ZA;rw [← Q0 h,← Q0 h0,if_neg (by omega),if_neg (by omega),if_neg (by omega),if_neg (by omega),if_neg (by rw [h5];simp)]
end
def Vq (t:KD) (w:Bs):Bs×Int :=
 if ¬ (Jt t.setup t.deeds).2.2=0 then ([],(Jt t.setup t.deeds).2.2) else if ¬ (Kt (W8 (Jt t.setup t.deeds).1.clerk.heads)).2=0 then ([],(Kt (W8 (Jt t.setup t.deeds).1.clerk.heads)).2)
 else ([Lib.itoa (Kt (W8 (Jt t.setup t.deeds).1.clerk.heads)).1],0)
section
variable {t:KD} {w:Bs} {x:JU} {k:Nat}
theorem JpR (h:¬ (Jt t.setup t.deeds).2.2=0):(Vq t w).2=(Jt t.setup t.deeds).2.2:=by unfold Vq;rw [if_pos h]
theorem JpS (h:(Jt t.setup t.deeds).2.2=0) (hx:(Jt t.setup t.deeds).1.clerk.heads[k]? = some x) (hk:k=(Jt t.setup t.deeds).1.clerk.heads.length-1) (h2:¬ (Kt x).2=0):(Vq t w).2=(Kt x).2:=by
 unfold Vq;rw [if_neg (by omega),← Ww hk hx,if_pos h2]
theorem JpT (h:(Jt t.setup t.deeds).2.2=0) (hx:(Jt t.setup t.deeds).1.clerk.heads[k]? = some x) (hk:k=(Jt t.setup t.deeds).1.clerk.heads.length-1) (h2:(Kt x).2=0):Vq t w=([Lib.itoa (Kt x).1],0):=by
 unfold Vq;rw [if_neg (by omega),← Ww hk hx,if_neg (by omega)]
end
def YZ (t:KD) (w:Bs):Bs×Int :=
 if ¬ (Ka (V4 w 0)).2=0 then ([],(Ka (V4 w 0)).2) else if ¬ (Jt t.setup t.deeds).2.2=0 then ([],(Jt t.setup t.deeds).2.2)
 else match (Jt t.setup t.deeds).1.owners[(Ka (V4 w 0)).1.toNat]? with
  | some o=>([o.head.epoch,o.had].map Lib.itoa,0)
  | none=>([],5)
section
variable {t:KD} {w:Bs} {y:Bb}
theorem JpU (h:w[0]? = some y) (h1:¬ (Ka y).2=0):(YZ t w).2=(Ka y).2:=by unfold YZ;rw [← Q0 h,if_pos h1]
theorem JpV (h:w[0]? = some y) (h1:(Ka y).2=0) (h2:¬ (Jt t.setup t.deeds).2.2=0):(YZ t w).2=(Jt t.setup t.deeds).2.2:=by unfold YZ;rw [← Q0 h,if_neg (by omega),if_pos h2]
theorem JpW (h:w[0]? = some y) (h1:(Ka y).2=0) (h2:(Jt t.setup t.deeds).2.2=0) (h3:(Ka y).1 ≥ ((Jt t.setup t.deeds).1.owners.length:Int)):(YZ t w).2=5:=by
 unfold YZ;rw [← Q0 h,if_neg (by omega),if_neg (by omega),List.getElem?_eq_none (by omega)]
theorem JpX {k:Nat} {o:Qn} (h:w[0]? = some y) (h1:(Ka y).2=0) (h2:(Jt t.setup t.deeds).2.2=0) (hk:(Ka y).1=(k:Int)) (ho:(Jt t.setup t.deeds).1.owners[k]? = some o):YZ t w=([o.head.epoch,o.had].map Lib.itoa,0):=by
 unfold YZ;rw [← Q0 h,if_neg (by omega),if_neg (by omega),hk,Hp,ho]
end
set_option maxRecDepth 20000 in
theorem Jm4 (G:J4) (b:Nat) (t:KD) (a_0:Ba) (c_0:Nat) (a_1:Ba) (c_1:Nat) (a_9:Ba) (c_9:Nat) (r_9:Bg) (h_0:RS ES G a_0 c_0 t.setup.names) (h_1:RS EU G a_1 c_1 t.setup.keys) (h_2:rI t.setup.most) (h_3:rI t.setup.batch) (h_4:rI t.setup.every) (h_5:rI t.setup.least) (h_6:rI t.setup.top) (h_7:rI t.setup.lost) (h_8:rI t.setup.reach) (h_9:JX Wl G a_9 c_9 t.deeds r_9) (a_w:Ba) (c_w:Nat) (w:Bs) (h_w:RS ES G a_w c_w w) (hw:w.length=2) (hs:∀ s∈w,s.length≤1048576) (ht:t.deeds.length≤200):Ze Tryz.prog 86 #[Pt b 0,Sl a_w w.length c_w] G [[Sg b 0 [Sl a_0 t.setup.names.length c_0,Sl a_1 t.setup.keys.length c_1,I t.setup.most,I t.setup.batch,I t.setup.every,I t.setup.least,I t.setup.top,I t.setup.lost,I t.setup.reach,Sl a_9 t.deeds.length c_9]],r_9] (fun u G' L'=>((ZA t w).2=0)∧∃ (az1:Ba) (cz2:Nat),u=Sl az1 (((ZA t w).1).length) cz2∧(RS ES G' az1 cz2 ((ZA t w).1))∧L'=[[Sg b 0 [Sl a_0 t.setup.names.length c_0,Sl a_1 t.setup.keys.length c_1,I t.setup.most,I t.setup.batch,I t.setup.every,I t.setup.least,I t.setup.top,I t.setup.lost,I t.setup.reach,Sl a_9 t.deeds.length c_9]],r_9]) (fun u _ L'=>(¬ (ZA t w).2=0)∧u=YY ((ZA t w).2)∧L'=[[Sg b 0 [Sl a_0 t.setup.names.length c_0,Sl a_1 t.setup.keys.length c_1,I t.setup.most,I t.setup.batch,I t.setup.every,I t.setup.least,I t.setup.top,I t.setup.lost,I t.setup.reach,Sl a_9 t.deeds.length c_9]],r_9]):=by
 intro Lr
 refine W4 Tryz.func86 46 [(0,Pt b 0),(1,Sl a_w w.length c_w)] rfl (fun w0 G0 hT=>?_)
 show TC _ _ _ _ _ ([Sg b 0 (J3 t a_0 c_0 a_1 c_1 a_9 c_9)]::r_9::Lr)
 refine Jg [0] [] (Jf (Jd (Jb [0] [(12,Sl a_w w.length c_w)] ?_)))
 obtain ⟨b1,o1,rfl⟩:=RS.addr h_w (k:=1) (by omega)
 obtain ⟨x1,hx1⟩:=QQ (l:=w) (k:=1) (by omega)
 obtain ⟨_,⟨rfl,_⟩,hc1⟩:=RS.get h_w hx1
 refine JW (b:=b1) (off:=o1) (len:=w.length) (cap:=c_w) (ik:=.i64) 13 9 1 1 Kd (JO 14 9 (cs:=[Sr x1]) 0 (Sr x1) hc1 (KE (Ls:=[]) (Lr:=([Sg b 0 (J3 t a_0 c_0 a_1 c_1 a_9 c_9)]::r_9::Lr)) 15 hT ((Yq G x1 (by have q_:=hs _ (Ha hx1);omega)).frame) (fun v G1 L1 hl1 hp=>?_) (fun v G1 L1 hl1 hp=>?_)))
 obtain ⟨hne1,rfl,rfl⟩:=hp
 refine J7 ?_
 have hp1:(ZA t w).2=(Ka x1).2:=by
  exact JpL ‹_› ‹_›
 refine Wq (QJ (Lr:=Lr) [[Sg b 0 (J3 t a_0 c_0 a_1 c_1 a_9 c_9)],r_9] hl1 ?_)
 rw [hp1];exact ⟨hne1,rfl,rfl⟩
 obtain ⟨_,rfl,rfl⟩:=hp
 refine Jb [0] [(5,I ((Ka x1).1))] (Je (Jc (Jf (Jd (Jb [0] [(17,Pt b 0)] (Jw 1 (Jw 1 (KE (Ls:=[[Sg b 0 (J3 t a_0 c_0 a_1 c_1 a_9 c_9)],r_9]) (Lr:=Lr) 18 hT (Jbj G1 b t a_0 c_0 a_1 c_1 a_9 c_9 r_9 (h_0.mono hl1) (h_1.mono hl1) h_2 h_3 h_4 h_5 h_6 h_7 h_8 (h_9.mono hl1) ‹_›) (fun v G2 L1 hl2 hp=>?_) (fun v G2 L1 hl2 hp=>?_)))))))))
 obtain ⟨hne2,rfl,rfl⟩:=hp
 refine J7 ?_
 have hp3:(ZA t w).2=(Jt t.setup t.deeds).2.2:=by
  exact JpM ‹_› ‹_› ‹_›
 refine Wq (QJ (Lr:=Lr) [[Sg b 0 (J3 t a_0 c_0 a_1 c_1 a_9 c_9)],r_9] (Ja hl1 hl2) ?_)
 rw [hp3];exact ⟨hne2,rfl,rfl⟩
 obtain ⟨_,a1,c1,a2,c2,a3,c3,a4,c4,a5,c5,a6,c6,a7,c7,rfl,w2,hs1,w3,w4,w5,hs2,hs3,_,_,_,_,_,rfl⟩:=hp
 refine Jb [0,0,0] [(19,(VK (Jt t.setup t.deeds).1 a1 c1 a2 c2 a3 c3 a4 c4 a5 c5 a6 c6)),(20,Sl a7 (((Jt t.setup t.deeds).2.1).length) c7)] (Jv 6 #[I 0,Sl none 0 0,I 0,I 0,I 0,Sl none 0 0,Sl none 0 0,Sl none 0 0,Sl none 0 0,I 0,Sl none 0 0] 67 (fun b2=>JT [3,0] [] ([Sg b2 0 (ZL (Jt t.setup t.deeds).1 a1 c1 a2 c2 a3 c3 a4 c4 a5 c5 a6 c6)]::[Sg b 0 (J3 t a_0 c_0 a_1 c_1 a_9 c_9)]::r_9::Lr) (Je (Jc ?_))))
 obtain ⟨x2,hx2⟩:=QQ (l:=w) (k:=0) (by omega)
 obtain ⟨_,⟨rfl,w7⟩,hc2⟩:=RS.get (h_w.mono (Ja hl1 hl2)) hx2
 refine Ya (σ:=Nat×Ba×Nat×Ba×Nat×J4) (fun q_=>(J4.le G2 q_.2.2.2.2.2)∧(rI (((JL (((Jt t.setup t.deeds).1).clerk) x2 ((Ka x1).1)).1).head.epoch))∧(rU (((JL (((Jt t.setup t.deeds).1).clerk) x2 ((Ka x1).1)).1).head.root))∧(rU (((JL (((Jt t.setup t.deeds).1).clerk) x2 ((Ka x1).1)).1).head.prev))∧(rI (((JL (((Jt t.setup t.deeds).1).clerk) x2 ((Ka x1).1)).1).head.at_))∧((((JL (((Jt t.setup t.deeds).1).clerk) x2 ((Ka x1).1)).1).proof.name).length≤140737488351232)∧(RS QE q_.2.2.2.2.2 q_.2.1 q_.2.2.1 (((JL (((Jt t.setup t.deeds).1).clerk) x2 ((Ka x1).1)).1).proof.entries))∧(RS EU q_.2.2.2.2.2 q_.2.2.2.1 q_.2.2.2.2.1 (((JL (((Jt t.setup t.deeds).1).clerk) x2 ((Ka x1).1)).1).proof.sides))) (fun q_=>[(8,Pt q_.1 0),(9,I ((JL (((Jt t.setup t.deeds).1).clerk) x2 ((Ka x1).1)).2))]) (fun q_=>q_.2.2.2.2.2) (fun q_=>([Sg q_.1 0 (ZI (JL (((Jt t.setup t.deeds).1).clerk) x2 ((Ka x1).1)).1 q_.2.1 q_.2.2.1 q_.2.2.2.1 q_.2.2.2.2.1)]::[Sg b2 0 (ZL (Jt t.setup t.deeds).1 a1 c1 a2 c2 a3 c3 a4 c4 a5 c5 a6 c6)]::[Sg b 0 (J3 t a_0 c_0 a_1 c_1 a_9 c_9)]::r_9::Lr)) ?_ (fun q_ hs=>?_)
 refine Kv [6,10,11] (Ws [(0,Pt b2 0),(1,(QC (Jt t.setup t.deeds).1.clerk a1 c1 a2 c2 a3 c3)),(2,Sl (At b1 o1) w.length c_w),(3,Pt b1 (o1+0*1)),(4,Sr x2),(5,I ((Ka x1).1))] (JF [] [(0,0),(1,2),(2,0),(5,0)] [3,4] [6,10] (Kf ?_ (Kf ?_ KY)) (Kf ?_ (Kf ?_ KY))))
 refine Jr 3 25 (Pt b1 (o1+0*1)) [(24,Sl (At b1 o1) w.length c_w)] (fun X=>?_)
 exact JW (b:=b1) (off:=o1) (len:=w.length) (cap:=c_w) (ik:=.i64) 25 9 1 0 Kd Jp
 refine Jr 4 26 (Sr x2) [(25,Pt b1 (o1+0*1))] (fun X=>?_)
 exact JO 26 9 (cs:=[Sr x2]) 0 (Sr x2) hc2 Jp
 refine Jz 6 [(23,(QC (Jt t.setup t.deeds).1.clerk a1 c1 a2 c2 a3 c3)),(26,Sr x2),(27,I ((Ka x1).1))] (fun X=>?_)
 refine JM 28 (VU G2 (KW (Jt t.setup t.deeds).1.clerk a1 c1 a2 c2 a3 c3) (((Jt t.setup t.deeds).1).clerk) (⟨a1,c1,a2,c2,a3,c3,rfl,w2,hs1,w3,w4,w5,hs2,hs3⟩) x2 w7 ((Ka x1).1) (by have q_:=YA x1;omega)) (fun v G3 L1 hl3 hp=>?_)
 obtain ⟨a8,c8,a9,c9,rfl,w8,w9,w10,w11,w12,hs8,hs9,rfl⟩:=hp
 refine JA [(6,.tuple #[(WU (JL (((Jt t.setup t.deeds).1).clerk) x2 ((Ka x1).1)).1 a8 c8 a9 c9),I ((JL (((Jt t.setup t.deeds).1).clerk) x2 ((Ka x1).1)).2)]),(7,.tuple #[(WU (JL (((Jt t.setup t.deeds).1).clerk) x2 ((Ka x1).1)).1 a8 c8 a9 c9),I ((JL (((Jt t.setup t.deeds).1).clerk) x2 ((Ka x1).1)).2)]),(8,(WU (JL (((Jt t.setup t.deeds).1).clerk) x2 ((Ka x1).1)).1 a8 c8 a9 c9)),(9,I ((JL (((Jt t.setup t.deeds).1).clerk) x2 ((Ka x1).1)).2))] (JF [0,1,2,3,4,5] [(7,0),(8,0),(9,0)] [] [10] (Hb _) (Kf ?_ KY))
 refine Jz 10 [] (fun X=>?_)
 refine Jv 8 #[I 0,U 0,U 0,I 0,Sr ([]),Sl none 0 0,Sl none 0 0] 49 (fun b3=>JA [(10,Pt b3 0)] (JF [0,1,2,3,4,5] [(7,0),(8,0),(9,0)] [] [11] (Hb _) (Kf ?_ KY)))
 refine Jz 11 [(8,Pt b3 0),(29,(WU (JL (((Jt t.setup t.deeds).1).clerk) x2 ((Ka x1).1)).1 a8 c8 a9 c9))] (fun X=>?_)
 exact KA 0 ([Sg b3 0 (ZI (JL (((Jt t.setup t.deeds).1).clerk) x2 ((Ka x1).1)).1 a8 c8 a9 c9)]::[Sg b2 0 (ZL (Jt t.setup t.deeds).1 a1 c1 a2 c2 a3 c3 a4 c4 a5 c5 a6 c6)]::[Sg b 0 (J3 t a_0 c_0 a_1 c_1 a_9 c_9)]::r_9::Lr) (J5 [(12,I ((JL (((Jt t.setup t.deeds).1).clerk) x2 ((Ka x1).1)).2))] (Ko [0,1,2,3,4,5,7,8] [(9,0),(12,0)] [] [(8,Pt b3 0),(9,I ((JL (((Jt t.setup t.deeds).1).clerk) x2 ((Ka x1).1)).2))] (Hb _) (QS (b3,a8,c8,a9,c9,G3) ⟨hl3,w8,w9,w10,w11,w12,hs8,hs9⟩)))
 refine Jz 10 [] (fun X=>?_)
 refine Jv 8 #[I 0,U 0,U 0,I 0,Sr ([]),Sl none 0 0,Sl none 0 0] 49 (fun b4=>JA [(10,Pt b4 0)] (JF [] [(0,0),(1,4),(2,0),(5,0)] [3,4] [6] (Kf ?_ (Kf ?_ KY)) (Kf ?_ KY)))
 refine Jr 3 25 (Pt b1 (o1+0*1)) [(24,Sl (At b1 o1) w.length c_w)] (fun X=>?_)
 exact JW (b:=b1) (off:=o1) (len:=w.length) (cap:=c_w) (ik:=.i64) 25 9 1 0 Kd Jp
 refine Jr 4 26 (Sr x2) [(25,Pt b1 (o1+0*1))] (fun X=>?_)
 exact JO 26 9 (cs:=[Sr x2]) 0 (Sr x2) hc2 Jp
 refine Jz 6 [(23,(QC (Jt t.setup t.deeds).1.clerk a1 c1 a2 c2 a3 c3)),(26,Sr x2),(27,I ((Ka x1).1))] (fun X=>?_)
 refine JM 28 (VU G2 (KW (Jt t.setup t.deeds).1.clerk a1 c1 a2 c2 a3 c3) (((Jt t.setup t.deeds).1).clerk) (⟨a1,c1,a2,c2,a3,c3,rfl,w2,hs1,w3,w4,w5,hs2,hs3⟩) x2 w7 ((Ka x1).1) (by have q_:=YA x1;omega)) (fun v G4 L1 hl4 hp=>?_)
 obtain ⟨a10,c10,a11,c11,rfl,w13,w14,w15,w16,w17,hs10,hs11,rfl⟩:=hp
 refine JA [(6,.tuple #[(WU (JL (((Jt t.setup t.deeds).1).clerk) x2 ((Ka x1).1)).1 a10 c10 a11 c11),I ((JL (((Jt t.setup t.deeds).1).clerk) x2 ((Ka x1).1)).2)]),(7,.tuple #[(WU (JL (((Jt t.setup t.deeds).1).clerk) x2 ((Ka x1).1)).1 a10 c10 a11 c11),I ((JL (((Jt t.setup t.deeds).1).clerk) x2 ((Ka x1).1)).2)]),(8,(WU (JL (((Jt t.setup t.deeds).1).clerk) x2 ((Ka x1).1)).1 a10 c10 a11 c11)),(9,I ((JL (((Jt t.setup t.deeds).1).clerk) x2 ((Ka x1).1)).2))] (JF [0,1,2,3,4,5] [(7,0),(8,0),(9,0)] [] [11] (Hb _) (Kf ?_ KY))
 refine Jz 11 [(8,Pt b4 0),(29,(WU (JL (((Jt t.setup t.deeds).1).clerk) x2 ((Ka x1).1)).1 a10 c10 a11 c11))] (fun X=>?_)
 exact KA 0 ([Sg b4 0 (ZI (JL (((Jt t.setup t.deeds).1).clerk) x2 ((Ka x1).1)).1 a10 c10 a11 c11)]::[Sg b2 0 (ZL (Jt t.setup t.deeds).1 a1 c1 a2 c2 a3 c3 a4 c4 a5 c5 a6 c6)]::[Sg b 0 (J3 t a_0 c_0 a_1 c_1 a_9 c_9)]::r_9::Lr) (J5 [(12,I ((JL (((Jt t.setup t.deeds).1).clerk) x2 ((Ka x1).1)).2))] (Ko [0,1,2,3,4,5,7,8] [(9,0),(12,0)] [] [(8,Pt b4 0),(9,I ((JL (((Jt t.setup t.deeds).1).clerk) x2 ((Ka x1).1)).2))] (Hb _) (QS (b4,a10,c10,a11,c11,G4) ⟨hl4,w13,w14,w15,w16,w17,hs10,hs11⟩)))
 obtain ⟨b3,a8,c8,a9,c9,G3⟩:=q_
 obtain ⟨hle1,hj1,hj2,hj3,hj4,hj5,hj6,hj7⟩:=hs
 dsimp only at hle1 hj1 hj2 hj3 hj4 hj5 hj6 hj7
 dsimp only
 refine Jf (Jd (Jb [0] [(31,I ((JL (((Jt t.setup t.deeds).1).clerk) x2 ((Ka x1).1)).2))] (KE (Ls:=[]) (Lr:=([Sg b3 0 (ZI (JL (((Jt t.setup t.deeds).1).clerk) x2 ((Ka x1).1)).1 a8 c8 a9 c9)]::[Sg b2 0 (ZL (Jt t.setup t.deeds).1 a1 c1 a2 c2 a3 c3 a4 c4 a5 c5 a6 c6)]::[Sg b 0 (J3 t a_0 c_0 a_1 c_1 a_9 c_9)]::r_9::Lr)) 32 hT ((ZF G3 ((JL (((Jt t.setup t.deeds).1).clerk) x2 ((Ka x1).1)).2)).frame) (fun v G5 L1 hl5 hp=>?_) (fun v G5 L1 hl5 hp=>?_))))
 obtain ⟨hne3,rfl,rfl⟩:=hp
 refine J7 ?_
 have hp5:(ZA t w).2=(JL (((Jt t.setup t.deeds).1).clerk) x2 ((Ka x1).1)).2:=by
  exact JpN ‹_› ‹_› ‹_› ‹_› ‹_›
 refine Wq (QJ (Lr:=Lr) [[Sg b 0 (J3 t a_0 c_0 a_1 c_1 a_9 c_9)],r_9] (Ja (Ja (Ja hl1 hl2) hle1) hl5) ?_)
 rw [hp5];exact ⟨hne3,rfl,rfl⟩
 obtain ⟨_,rfl,rfl⟩:=hp
 refine Je (Jc (Jf (Jd (Jb [2] [(34,(WU (JL (((Jt t.setup t.deeds).1).clerk) x2 ((Ka x1).1)).1 a8 c8 a9 c9))] (JM 35 (JcA G5 (ZI (JL (((Jt t.setup t.deeds).1).clerk) x2 ((Ka x1).1)).1 a8 c8 a9 c9) ((JL (((Jt t.setup t.deeds).1).clerk) x2 ((Ka x1).1)).1) (⟨a8,c8,a9,c9,rfl,hj1,hj2,hj3,hj4,hj5,(hj6.mono hl5),(hj7.mono hl5)⟩)) (fun v G6 L1 hl6 hp=>?_))))))
 obtain ⟨rfl,w18,rfl⟩:=hp
 refine Jb [0,0,0,0,0,0,0] [(9,I ((JG ((JL (((Jt t.setup t.deeds).1).clerk) x2 ((Ka x1).1)).1)).2.2)),(10,Sr ((JG ((JL (((Jt t.setup t.deeds).1).clerk) x2 ((Ka x1).1)).1)).1)),(11,Bo ((JG ((JL (((Jt t.setup t.deeds).1).clerk) x2 ((Ka x1).1)).1)).2.1))] (Je (Jc (Jf (Jd (Jb [0] [(39,I ((JG ((JL (((Jt t.setup t.deeds).1).clerk) x2 ((Ka x1).1)).1)).2.2))] (KE (Ls:=[]) (Lr:=([Sg b3 0 (ZI (JL (((Jt t.setup t.deeds).1).clerk) x2 ((Ka x1).1)).1 a8 c8 a9 c9)]::[Sg b2 0 (ZL (Jt t.setup t.deeds).1 a1 c1 a2 c2 a3 c3 a4 c4 a5 c5 a6 c6)]::[Sg b 0 (J3 t a_0 c_0 a_1 c_1 a_9 c_9)]::r_9::Lr)) 40 hT ((ZF G6 ((JG ((JL (((Jt t.setup t.deeds).1).clerk) x2 ((Ka x1).1)).1)).2.2)).frame) (fun v G7 L1 hl7 hp=>?_) (fun v G7 L1 hl7 hp=>?_)))))))
 obtain ⟨hne4,rfl,rfl⟩:=hp
 refine J7 ?_
 have hp7:(ZA t w).2=(JG ((JL (((Jt t.setup t.deeds).1).clerk) x2 ((Ka x1).1)).1)).2.2:=by
  exact JpO ‹_› ‹_› ‹_› ‹_› ‹_› ‹_›
 refine Wq (QJ (Lr:=Lr) [[Sg b 0 (J3 t a_0 c_0 a_1 c_1 a_9 c_9)],r_9] (Ja (Ja (Ja (Ja (Ja hl1 hl2) hle1) hl5) hl6) hl7) ?_)
 rw [hp7];exact ⟨hne4,rfl,rfl⟩
 obtain ⟨_,rfl,rfl⟩:=hp
 refine Je (Jc (Jf (Jg [0,0] [(42,Bo (!((JG ((JL (((Jt t.setup t.deeds).1).clerk) x2 ((Ka x1).1)).1)).2.1)))] (Jm (!((JG ((JL (((Jt t.setup t.deeds).1).clerk) x2 ((Ka x1).1)).1)).2.1)) (fun h1=>?_) (fun h1=>?_)))))
 refine Jf (Jd (Kq 43 1 #[Sr ([45])] 9 (fun b5=>Jb [0] [(4,Sl (At b5 0) 1 1)] (Je (Jc (Jn (Jj (JdC (b:=b5) (o:=0) (cs:=[Sr ([45])]) 0 (fun G8 hl8 hz1=>?_)))))))))
 have hs12:RS ES G8 (At b5 0) 1 [[45]]:=RS.lit [[Sr ([45])]] [[45]] ⟨⟨rfl,(Hc rfl)⟩,trivial⟩ hz1 (Hc rfl) (Hc rfl)
 refine Jk 4 (Jk 4 ?_)
 have hf1:(ZA t w).2=0∧(ZA t w).1=[[45]]:=by
  (have q_:=JpP (t:=t) (w:=w) ‹_› ‹_› ‹_› ‹_› ‹_› ‹_› ‹_›;rw [q_];exact ⟨rfl,rfl⟩)
 refine Jo [0] [Sl (At b5 0) 1 1] (V9 (KH (Lr:=Lr) [[Sg b 0 (J3 t a_0 c_0 a_1 c_1 a_9 c_9)],r_9] (Ja (Ja (Ja (Ja (Ja (Ja hl1 hl2) hle1) hl5) hl6) hl7) hl8) ?_))
 rw [hf1.2]
 try dsimp only
 exact ⟨hf1.1,(At b5 0),1,rfl,hs12,rfl⟩
 refine Jq (Jc (Jf (Jd (Jb [0] [(44,Sr ((JG ((JL (((Jt t.setup t.deeds).1).clerk) x2 ((Ka x1).1)).1)).1))] (Kq 45 2 #[Sr ([43]),Sr ((JG ((JL (((Jt t.setup t.deeds).1).clerk) x2 ((Ka x1).1)).1)).1)] 9 (fun b6=>Jb [0] [(4,Sl (At b6 0) 2 2)] (Je (Jc (Jn (JdC (b:=b6) (o:=0) (cs:=[Sr ([43]),Sr ((JG ((JL (((Jt t.setup t.deeds).1).clerk) x2 ((Ka x1).1)).1)).1)]) 0 (fun G9 hl9 hz2=>?_)))))))))))
 have hs13:RS ES G9 (At b6 0) 2 [[43],(JG ((JL (((Jt t.setup t.deeds).1).clerk) x2 ((Ka x1).1)).1)).1]:=RS.lit [[Sr ([43])],[Sr ((JG ((JL (((Jt t.setup t.deeds).1).clerk) x2 ((Ka x1).1)).1)).1)]] [[43],(JG ((JL (((Jt t.setup t.deeds).1).clerk) x2 ((Ka x1).1)).1)).1] ⟨⟨rfl,(Hc rfl)⟩,⟨⟨rfl,w18⟩,trivial⟩⟩ hz2 (Hc rfl) (Hc rfl)
 refine Jk 4 (Jk 4 ?_)
 have hf2:(ZA t w).2=0∧(ZA t w).1=[[43],(JG ((JL (((Jt t.setup t.deeds).1).clerk) x2 ((Ka x1).1)).1)).1]:=by
  (have q_:=JpQ (t:=t) (w:=w) ‹_› ‹_› ‹_› ‹_› ‹_› ‹_› ‹_›;rw [q_];exact ⟨rfl,rfl⟩)
 refine Jo [0] [Sl (At b6 0) 2 2] (V9 (KH (Lr:=Lr) [[Sg b 0 (J3 t a_0 c_0 a_1 c_1 a_9 c_9)],r_9] (Ja (Ja (Ja (Ja (Ja (Ja hl1 hl2) hle1) hl5) hl6) hl7) hl9) ?_))
 rw [hf2.2]
 try dsimp only
 exact ⟨hf2.1,(At b6 0),2,rfl,hs13,rfl⟩
theorem Jm5 (G:J4) (b:Nat) (t:KD) (a_0:Ba) (c_0:Nat) (a_1:Ba) (c_1:Nat) (a_9:Ba) (c_9:Nat) (r_9:Bg) (h_0:RS ES G a_0 c_0 t.setup.names) (h_1:RS EU G a_1 c_1 t.setup.keys) (h_2:rI t.setup.most) (h_3:rI t.setup.batch) (h_4:rI t.setup.every) (h_5:rI t.setup.least) (h_6:rI t.setup.top) (h_7:rI t.setup.lost) (h_8:rI t.setup.reach) (h_9:JX Wl G a_9 c_9 t.deeds r_9) (a_w:Ba) (c_w:Nat) (w:Bs) (h_w:RS ES G a_w c_w w) (hw:w.length=1) (hs:∀ s∈w,s.length≤1048576) (ht:t.deeds.length≤200):Ze Tryz.prog 88 #[Pt b 0,Sl a_w w.length c_w] G [[Sg b 0 [Sl a_0 t.setup.names.length c_0,Sl a_1 t.setup.keys.length c_1,I t.setup.most,I t.setup.batch,I t.setup.every,I t.setup.least,I t.setup.top,I t.setup.lost,I t.setup.reach,Sl a_9 t.deeds.length c_9]],r_9] (fun u G' L'=>((YZ t w).2=0)∧∃ (az1:Ba) (cz2:Nat),u=Sl az1 (((YZ t w).1).length) cz2∧(RS ES G' az1 cz2 ((YZ t w).1))∧L'=[[Sg b 0 [Sl a_0 t.setup.names.length c_0,Sl a_1 t.setup.keys.length c_1,I t.setup.most,I t.setup.batch,I t.setup.every,I t.setup.least,I t.setup.top,I t.setup.lost,I t.setup.reach,Sl a_9 t.deeds.length c_9]],r_9]) (fun u _ L'=>(¬ (YZ t w).2=0)∧u=YY ((YZ t w).2)∧L'=[[Sg b 0 [Sl a_0 t.setup.names.length c_0,Sl a_1 t.setup.keys.length c_1,I t.setup.most,I t.setup.batch,I t.setup.every,I t.setup.least,I t.setup.top,I t.setup.lost,I t.setup.reach,Sl a_9 t.deeds.length c_9]],r_9]):=by
 intro Lr
 refine W4 Tryz.func88 38 [(0,Pt b 0),(1,Sl a_w w.length c_w)] rfl (fun w0 G0 hT=>?_)
 show TC _ _ _ _ _ ([Sg b 0 (J3 t a_0 c_0 a_1 c_1 a_9 c_9)]::r_9::Lr)
 refine Jg [0] [] (Jf (Jd (Jb [0] [(8,Sl a_w w.length c_w)] ?_)))
 obtain ⟨b1,o1,rfl⟩:=RS.addr h_w (k:=0) (by omega)
 obtain ⟨x1,hx1⟩:=QQ (l:=w) (k:=0) (by omega)
 obtain ⟨_,⟨rfl,_⟩,hc1⟩:=RS.get h_w hx1
 refine JW (b:=b1) (off:=o1) (len:=w.length) (cap:=c_w) (ik:=.i64) 9 9 1 0 Kd (JO 10 9 (cs:=[Sr x1]) 0 (Sr x1) hc1 (KE (Ls:=[]) (Lr:=([Sg b 0 (J3 t a_0 c_0 a_1 c_1 a_9 c_9)]::r_9::Lr)) 11 hT ((Yq G x1 (by have q_:=hs _ (Ha hx1);omega)).frame) (fun v G1 L1 hl1 hp=>?_) (fun v G1 L1 hl1 hp=>?_)))
 obtain ⟨hne1,rfl,rfl⟩:=hp
 refine J7 ?_
 have hp1:(YZ t w).2=(Ka x1).2:=by
  exact JpU ‹_› ‹_›
 refine Wq (QJ (Lr:=Lr) [[Sg b 0 (J3 t a_0 c_0 a_1 c_1 a_9 c_9)],r_9] hl1 ?_)
 rw [hp1];exact ⟨hne1,rfl,rfl⟩
 obtain ⟨_,rfl,rfl⟩:=hp
 refine Jb [0] [(5,I ((Ka x1).1))] (Je (Jc (Jf (Jd (Jb [0] [(13,Pt b 0)] (Jw 1 (Jw 1 (KE (Ls:=[[Sg b 0 (J3 t a_0 c_0 a_1 c_1 a_9 c_9)],r_9]) (Lr:=Lr) 14 hT (Jbj G1 b t a_0 c_0 a_1 c_1 a_9 c_9 r_9 (h_0.mono hl1) (h_1.mono hl1) h_2 h_3 h_4 h_5 h_6 h_7 h_8 (h_9.mono hl1) ‹_›) (fun v G2 L1 hl2 hp=>?_) (fun v G2 L1 hl2 hp=>?_)))))))))
 obtain ⟨hne2,rfl,rfl⟩:=hp
 refine J7 ?_
 have hp3:(YZ t w).2=(Jt t.setup t.deeds).2.2:=by
  exact JpV ‹_› ‹_› ‹_›
 refine Wq (QJ (Lr:=Lr) [[Sg b 0 (J3 t a_0 c_0 a_1 c_1 a_9 c_9)],r_9] (Ja hl1 hl2) ?_)
 rw [hp3];exact ⟨hne2,rfl,rfl⟩
 obtain ⟨_,a1,c1,a2,c2,a3,c3,a4,c4,a5,c5,a6,c6,a7,c7,rfl,_,_,_,_,_,_,_,hs4,_,_,_,_,rfl⟩:=hp
 refine Jb [0,0,0] [(15,(VK (Jt t.setup t.deeds).1 a1 c1 a2 c2 a3 c3 a4 c4 a5 c5 a6 c6)),(16,Sl a7 (((Jt t.setup t.deeds).2.1).length) c7)] (Jv 6 #[I 0,Sl none 0 0,I 0,I 0,I 0,Sl none 0 0,Sl none 0 0,Sl none 0 0,Sl none 0 0,I 0,Sl none 0 0] 67 (fun b2=>JT [3,0] [] ([Sg b2 0 (ZL (Jt t.setup t.deeds).1 a1 c1 a2 c2 a3 c3 a4 c4 a5 c5 a6 c6)]::[Sg b 0 (J3 t a_0 c_0 a_1 c_1 a_9 c_9)]::r_9::Lr) (Je (Jc (Jf (Jg [0,0,2,0,0] [(21,Bo (decide ((Ka x1).1 ≥ ((((Jt t.setup t.deeds).1).owners).length:Int))))] (Jm (decide ((Ka x1).1 ≥ ((((Jt t.setup t.deeds).1).owners).length:Int))) (fun h1=>?_) (fun h1=>?_))))))))
 refine Jd (KE (Ls:=[]) (Lr:=([Sg b2 0 (ZL (Jt t.setup t.deeds).1 a1 c1 a2 c2 a3 c3 a4 c4 a5 c5 a6 c6)]::[Sg b 0 (J3 t a_0 c_0 a_1 c_1 a_9 c_9)]::r_9::Lr)) 22 hT ((ZF G2 5).frame) (fun v G3 L1 hl3 hp=>?_) (fun v G3 L1 hl3 hp=>?_))
 obtain ⟨hne3,rfl,rfl⟩:=hp
 refine J7 ?_
 have hp5:(YZ t w).2=5:=by
  exact JpW ‹_› ‹_› ‹_› (by omega)
 refine Wq (QJ (Lr:=Lr) [[Sg b 0 (J3 t a_0 c_0 a_1 c_1 a_9 c_9)],r_9] (Ja (Ja hl1 hl2) hl3) ?_)
 rw [hp5];exact ⟨hne3,rfl,rfl⟩
 obtain ⟨he3,rfl,rfl⟩:=hp
 exact absurd he3 (by decide)
 refine Jq (Jc ?_)
 obtain ⟨kn1,hkn1⟩:∃ k_:Nat,(Ka x1).1=(k_:Int):=⟨((Ka x1).1).toNat,by (have q_:=YA x1;omega)⟩
 have e1:(Ka x1).1=(kn1:Int):=hkn1
 refine QW 5 (I (kn1:Int)) (congrArg I e1) (Jf ?_)
 obtain ⟨b3,o2,rfl⟩:=RS.addr hs4 (k:=kn1) (by omega)
 obtain ⟨x2,hx2⟩:=QQ (l:=((Jt t.setup t.deeds).1).owners) (k:=kn1) (by omega)
 obtain ⟨_,⟨a8,c8,rfl,_,_,w9,_,_,_,_,w13⟩,hc2⟩:=RS.get hs4 hx2
 refine Kv [13,14] (Ws [(0,Pt b2 7),(1,Sl (At b3 o2) ((((Jt t.setup t.deeds).1).owners).length) c4),(2,I (kn1:Int)),(3,Pt b3 (o2+kn1*8)),(4,Pt b3 (o2+kn1*8+2)),(5,Pt b3 (o2+kn1*8+2)),(6,I x2.head.epoch),(7,Pt b2 7),(8,Sl (At b3 o2) ((((Jt t.setup t.deeds).1).owners).length) c4),(9,I (kn1:Int)),(10,Pt b3 (o2+kn1*8)),(11,Pt b3 (o2+kn1*8+7)),(12,I x2.had)] (JF [] [(0,0),(1,2),(2,0),(4,0),(5,0),(7,0),(8,2),(9,0),(11,0)] [3,6,10,12] [13] (Kf ?_ (Kf ?_ (Kf ?_ (Kf ?_ KY)))) (Kf ?_ KY)))
 refine Jr 3 26 (Pt b3 (o2+kn1*8)) [(24,Sl (At b3 o2) ((((Jt t.setup t.deeds).1).owners).length) c4),(25,I (kn1:Int))] (fun X=>?_)
 exact JW (b:=b3) (off:=o2) (len:=(((Jt t.setup t.deeds).1).owners).length) (cap:=c4) (ik:=.i64) 26 76 8 kn1 Kd Jp
 refine Jr 6 29 (I x2.head.epoch) [(28,Pt b3 (o2+kn1*8+2))] (fun X=>?_)
 exact JO 29 2 (cs:=(KU x2 a8 c8)) 2 (I x2.head.epoch) hc2 Jp
 refine Jr 10 33 (Pt b3 (o2+kn1*8)) [(31,Sl (At b3 o2) ((((Jt t.setup t.deeds).1).owners).length) c4),(32,I (kn1:Int))] (fun X=>?_)
 exact JW (b:=b3) (off:=o2) (len:=(((Jt t.setup t.deeds).1).owners).length) (cap:=c4) (ik:=.i64) 33 76 8 kn1 Kd Jp
 refine Jr 12 35 (I x2.had) [(34,Pt b3 (o2+kn1*8+7))] (fun X=>?_)
 exact JO 35 3 (cs:=(KU x2 a8 c8)) 7 (I x2.had) hc2 Jp
 refine Jz 13 [(29,I x2.head.epoch),(35,I x2.had)] (fun X=>?_)
 refine Kq 36 2 #[I x2.head.epoch,I x2.had] 3 (fun b4=>JA [(13,Sl (At b4 0) 2 2)] (JF [0,1,2,3,4,5,6,7,8,9,10,11,12] [] [] [14] (Hb _) (Kf ?_ KY)))
 refine Jz 14 [(36,Sl (At b4 0) 2 2)] (fun X=>?_)
 refine QK (b:=b4) (o:=0) (cs:=[I x2.head.epoch,I x2.had]) 0 (fun G4 hl4 hz1=>?_)
 have hs9:RS EI G4 (At b4 0) 2 [x2.head.epoch,x2.had]:=RS.lit [[I x2.head.epoch],[I x2.had]] [x2.head.epoch,x2.had] ⟨⟨rfl,w9⟩,⟨⟨rfl,w13⟩,trivial⟩⟩ hz1 (Hc rfl) (Hc rfl)
 refine Z4 (Ls:=[]) (Lr:=([]::[Sg b2 0 (ZL (Jt t.setup t.deeds).1 a1 c1 a2 c2 a3 c3 (At b3 o2) c4 a5 c5 a6 c6)]::[Sg b 0 (J3 t a_0 c_0 a_1 c_1 a_9 c_9)]::r_9::Lr)) 37 hT ((Jga G4 (At b4 0) 2 ([x2.head.epoch,x2.had]) hs9 (by simp)).frame) (fun v G5 L1 hl5 hp=>?_)
 obtain ⟨_,a9,c9,_,rfl,hr1,rfl⟩:=hp
 refine JA [(14,Sl a9 ((([x2.head.epoch,x2.had]).map Lib.itoa).length) c9),(15,Sl a9 ((([x2.head.epoch,x2.had]).map Lib.itoa).length) c9)] (Ko [0,1,2,3,4,5,6,7,8,9,10,11,12] [(15,0)] [] [(4,Sl a9 ((([x2.head.epoch,x2.had]).map Lib.itoa).length) c9)] (Hb _) (Jc (Jn (Wv (E:=ES) 0 hr1 (by (try simp only [ES,EI,Ht,He,Hf]);omega) (fun G6 hl6 hs10=>Jk 4 (Jk 4 ?_))))))
 have hf1:(YZ t w).2=0∧(YZ t w).1=([x2.head.epoch,x2.had]).map Lib.itoa:=by
  (have q_:=JpX (t:=t) (w:=w) ‹_› ‹_› ‹_› ‹_› ‹_›;rw [q_];exact ⟨rfl,rfl⟩)
 refine Jo [0] [Sl a9 ((([x2.head.epoch,x2.had]).map Lib.itoa).length) c9] (V9 (KH (Lr:=Lr) [[Sg b 0 (J3 t a_0 c_0 a_1 c_1 a_9 c_9)],r_9] (Ja (Ja (Ja (Ja hl1 hl2) hl4) hl5) hl6) ?_))
 rw [hf1.2]
 try dsimp only
 exact ⟨hf1.1,a9,c9,rfl,hs10,rfl⟩
theorem Jm6 (G:J4) (b:Nat) (t:KD) (a_0:Ba) (c_0:Nat) (a_1:Ba) (c_1:Nat) (a_9:Ba) (c_9:Nat) (r_9:Bg) (h_0:RS ES G a_0 c_0 t.setup.names) (h_1:RS EU G a_1 c_1 t.setup.keys) (h_2:rI t.setup.most) (h_3:rI t.setup.batch) (h_4:rI t.setup.every) (h_5:rI t.setup.least) (h_6:rI t.setup.top) (h_7:rI t.setup.lost) (h_8:rI t.setup.reach) (h_9:JX Wl G a_9 c_9 t.deeds r_9) (a_w:Ba) (c_w:Nat) (w:Bs) (h_w:RS ES G a_w c_w w) (ht:t.deeds.length≤200):Ze Tryz.prog 89 #[Pt b 0,Sl a_w w.length c_w] G [[Sg b 0 [Sl a_0 t.setup.names.length c_0,Sl a_1 t.setup.keys.length c_1,I t.setup.most,I t.setup.batch,I t.setup.every,I t.setup.least,I t.setup.top,I t.setup.lost,I t.setup.reach,Sl a_9 t.deeds.length c_9]],r_9] (fun u G' L'=>((Vq t w).2=0)∧∃ (az1:Ba) (cz2:Nat),u=Sl az1 (((Vq t w).1).length) cz2∧(RS ES G' az1 cz2 ((Vq t w).1))∧L'=[[Sg b 0 [Sl a_0 t.setup.names.length c_0,Sl a_1 t.setup.keys.length c_1,I t.setup.most,I t.setup.batch,I t.setup.every,I t.setup.least,I t.setup.top,I t.setup.lost,I t.setup.reach,Sl a_9 t.deeds.length c_9]],r_9]) (fun u _ L'=>(¬ (Vq t w).2=0)∧u=YY ((Vq t w).2)∧L'=[[Sg b 0 [Sl a_0 t.setup.names.length c_0,Sl a_1 t.setup.keys.length c_1,I t.setup.most,I t.setup.batch,I t.setup.every,I t.setup.least,I t.setup.top,I t.setup.lost,I t.setup.reach,Sl a_9 t.deeds.length c_9]],r_9]):=by
 intro Lr
 refine W4 Tryz.func89 33 [(0,Pt b 0),(1,Sl a_w w.length c_w)] rfl (fun w0 G0 hT=>?_)
 show TC _ _ _ _ _ ([Sg b 0 (J3 t a_0 c_0 a_1 c_1 a_9 c_9)]::r_9::Lr)
 refine Jg [0] [] (Jf (Jd (Jb [0] [(10,Pt b 0)] (Jw 1 (Jw 1 (KE (Ls:=[[Sg b 0 (J3 t a_0 c_0 a_1 c_1 a_9 c_9)],r_9]) (Lr:=Lr) 11 hT (Jbj G b t a_0 c_0 a_1 c_1 a_9 c_9 r_9 h_0 h_1 h_2 h_3 h_4 h_5 h_6 h_7 h_8 h_9 ‹_›) (fun v G1 L1 hl1 hp=>?_) (fun v G1 L1 hl1 hp=>?_)))))))
 obtain ⟨hne1,rfl,rfl⟩:=hp
 refine J7 ?_
 have hp1:(Vq t w).2=(Jt t.setup t.deeds).2.2:=by
  exact JpR ‹_›
 refine Wq (QJ (Lr:=Lr) [[Sg b 0 (J3 t a_0 c_0 a_1 c_1 a_9 c_9)],r_9] hl1 ?_)
 rw [hp1];exact ⟨hne1,rfl,rfl⟩
 obtain ⟨_,a1,c1,a2,c2,a3,c3,a4,c4,a5,c5,a6,c6,a7,c7,rfl,_,_,_,_,_,hs2,_,_,_,_,_,_,rfl⟩:=hp
 refine Jb [0,0,0] [(12,(VK (Jt t.setup t.deeds).1 a1 c1 a2 c2 a3 c3 a4 c4 a5 c5 a6 c6)),(13,Sl a7 (((Jt t.setup t.deeds).2.1).length) c7)] (Jv 5 #[I 0,Sl none 0 0,I 0,I 0,I 0,Sl none 0 0,Sl none 0 0,Sl none 0 0,Sl none 0 0,I 0,Sl none 0 0] 67 (fun b1=>JT [3,0] [] ([Sg b1 0 (ZL (Jt t.setup t.deeds).1 a1 c1 a2 c2 a3 c3 a4 c4 a5 c5 a6 c6)]::[Sg b 0 (J3 t a_0 c_0 a_1 c_1 a_9 c_9)]::r_9::Lr) (Je (Jc (Jf (Jd (Jb [0,0,2,0,0,2,0,0] [(17,Sl a2 ((((Jt t.setup t.deeds).1).clerk.heads).length) c2),(22,I (Hk.wrap (((((Jt t.setup t.deeds).1).clerk.heads).length:Int)-1)))] ?_)))))))
 have e1:Hk.wrap (((((Jt t.setup t.deeds).1).clerk.heads).length:Int)-1)=(((((Jt t.setup t.deeds).1).clerk.heads).length-1:Nat):Int):=(IntWalk.i64_in _ (by (have q_:=Zz (Y4 ‹_›).1;omega))).trans (show ((((Jt t.setup t.deeds).1).clerk.heads).length:Int)-1=(((((Jt t.setup t.deeds).1).clerk.heads).length-1:Nat):Int) by (have q_:=Zz (Y4 ‹_›).1;omega))
 refine KG 22 (I (((((Jt t.setup t.deeds).1).clerk.heads).length-1:Nat):Int)) (congrArg I e1) ?_
 clear e1
 obtain ⟨b2,o1,rfl⟩:=RS.addr hs2 (k:=(((Jt t.setup t.deeds).1).clerk.heads).length-1) (by (have q_:=Zz (Y4 ‹_›).1;omega))
 obtain ⟨x1,hx1⟩:=QQ (l:=((Jt t.setup t.deeds).1).clerk.heads) (k:=(((Jt t.setup t.deeds).1).clerk.heads).length-1) (by (have q_:=Zz (Y4 ‹_›).1;omega))
 obtain ⟨_,⟨rfl,w6,w7,w8,w9⟩,hc1⟩:=RS.get hs2 hx1
 refine JW (b:=b2) (off:=o1) (len:=(((Jt t.setup t.deeds).1).clerk.heads).length) (cap:=c2) (ik:=.i64) 23 43 4 ((((Jt t.setup t.deeds).1).clerk.heads).length-1) (by (have q_:=Zz (Y4 ‹_›).1;omega)) (JO 24 43 (cs:=[I x1.epoch,U x1.root,U x1.prev,I x1.at_]) 0 (.agg #[I x1.epoch,U x1.root,U x1.prev,I x1.at_]) hc1 (Jl 25 (.tuple #[U ((Kt x1).1),I ((Kt x1).2)]) (Jdl G1 [I x1.epoch,U x1.root,U x1.prev,I x1.at_] x1 (⟨rfl,w6,w7,w8,w9⟩)) (Jb [0,0,0,0,0] [(7,U ((Kt x1).1)),(8,I ((Kt x1).2))] (Je (Jc (Jf (Jd (Jb [0] [(28,I ((Kt x1).2))] (KE (Ls:=[]) (Lr:=([Sg b1 0 (ZL (Jt t.setup t.deeds).1 a1 c1 (At b2 o1) c2 a3 c3 a4 c4 a5 c5 a6 c6)]::[Sg b 0 (J3 t a_0 c_0 a_1 c_1 a_9 c_9)]::r_9::Lr)) 29 hT ((ZF G1 ((Kt x1).2)).frame) (fun v G2 L1 hl2 hp=>?_) (fun v G2 L1 hl2 hp=>?_))))))))))
 obtain ⟨hne2,rfl,rfl⟩:=hp
 refine J7 ?_
 have hp3:(Vq t w).2=(Kt x1).2:=by
  exact JpS ‹_› ‹_› rfl ‹_›
 refine Wq (QJ (Lr:=Lr) [[Sg b 0 (J3 t a_0 c_0 a_1 c_1 a_9 c_9)],r_9] (Ja hl1 hl2) ?_)
 rw [hp3];exact ⟨hne2,rfl,rfl⟩
 obtain ⟨_,rfl,rfl⟩:=hp
 refine Je (Jc (Jf (Jd (Jb [0] [(30,U ((Kt x1).1))] (Z4 (Ls:=[]) (Lr:=([Sg b1 0 (ZL (Jt t.setup t.deeds).1 a1 c1 (At b2 o1) c2 a3 c3 a4 c4 a5 c5 a6 c6)]::[Sg b 0 (J3 t a_0 c_0 a_1 c_1 a_9 c_9)]::r_9::Lr)) 31 hT ((Jiz G2 ((Kt x1).1) (by have q_:=JaP x1;omega)).frame) (fun v G3 L1 hl3 hp=>?_))))))
 obtain ⟨_,rfl,rfl⟩:=hp
 refine Kq 32 1 #[Sr (Lib.itoa ((Kt x1).1))] 9 (fun b3=>Jb [0] [(4,Sl (At b3 0) 1 1)] (Je (Jc (Jn (JdC (b:=b3) (o:=0) (cs:=[Sr (Lib.itoa ((Kt x1).1))]) 0 (fun G4 hl4 hz1=>?_))))))
 have hs8:RS ES G4 (At b3 0) 1 [Lib.itoa ((Kt x1).1)]:=RS.lit [[Sr (Lib.itoa ((Kt x1).1))]] [Lib.itoa ((Kt x1).1)] ⟨⟨rfl,(by have q1_:=JaP x1;have q_:=Jcm (Kt x1).1;omega)⟩,trivial⟩ hz1 (Hc rfl) (Hc rfl)
 refine Jk 3 (Jk 3 ?_)
 have hf1:(Vq t w).2=0∧(Vq t w).1=[Lib.itoa ((Kt x1).1)]:=by
  have q_:=JpT (t:=t) (w:=w) ‹_› ‹_› rfl ‹_›;rw [q_];exact ⟨rfl,rfl⟩
 refine Jo [0] [Sl (At b3 0) 1 1] (V9 (KH (Lr:=Lr) [[Sg b 0 (J3 t a_0 c_0 a_1 c_1 a_9 c_9)],r_9] (Ja (Ja (Ja hl1 hl2) hl3) hl4) ?_))
 rw [hf1.2]
 try dsimp only
 exact ⟨hf1.1,(At b3 0),1,rfl,hs8,rfl⟩
def JbL (x:Yg):Prop:=1≤x.kind∧x.kind≤3∧(x.kind=2→0≤x.n∧x.n≤6)
abbrev Jc2 (t:JI):Prop:=∀ x∈t.events,JbL x
theorem see_06 (o:Qn) (l:List JU) (r:Q5):0≤(JC o l r).2.1∧(JC o l r).2.1≤6:=by
 have hv:0≤(JZ o l r).1∧(JZ o l r).1≤6:=by
  unfold JZ K2
  (repeat' split) <;> simp_all <;> omega
 unfold JC
 (repeat' split) <;> simp only <;> omega
theorem JkN {t:JI} {es:List Yg} {y:Yg} (h:Jc2 t) (e:es=t.events++[y]) (hy:JbL y):∀ x∈es,JbL x:=by
 intro x hx
 rw [e] at hx
 rcases List.mem_append.1 hx with hx | hx
 · exact h x hx
 · rw [List.mem_singleton.1 hx];exact hy
theorem ev_see {t:JI} (h:Jc2 t) (l:JS):Jc2 (Z9 t l):=JkN (y:=⟨2,l.to_,(JC (Js t l.to_) l.heads l.reply).2.1,_⟩) h rfl ⟨by simp only;omega,by simp only;omega,fun _=>see_06 _ _ _⟩
theorem Jm7 {t:JI} (h:Jc2 t) (l:JS):Jc2 (Yc t l):=by
 unfold Yc
 split
 ·
  unfold Qj;split
  · exact h
  · exact h
 · exact ev_see h l
theorem Jge:∀ (ls:List JS) {t:JI},Jc2 t→Jc2 (Zf t ls)
 | [],_,h=>h
 | l::ls,_,h=>Jge ls (Jm7 h l)
theorem ev_ask {t:JI} (h:Jc2 t) (k:Int):Jc2 (Zu t k):=by
 unfold Zu
 split
 · exact h
 ·
  split
  · exact JkN (t:=JaU t k) h rfl ⟨by simp only;omega,by simp only;omega,fun hc=>by simp at hc⟩
  · exact h
theorem JlK:∀ (ks:List Nat) {t:JI},Jc2 t→Jc2 (ks.foldl (fun t (k:Nat)=>Zu t (k:Int)) t)
 | [],_,h=>h
 | k::ks,_,h=>JlK ks (ev_ask h k)
theorem ev_do {t:JI} (h:Jc2 t) (d:K4):Jc2 (Y3 t d):=by
 unfold Y3
 split
 ·
  unfold Wi
  split
  · exact h
  ·
   split
   · exact h
   ·
    split
    · exact h
    · exact JkN h rfl ⟨by simp only;omega,by simp only;omega,fun hc=>by simp at hc⟩
 ·
  split
  · exact h
  ·
   split
   ·
    unfold Jf2;split
    · exact h
    · exact h
   ·
    split
    ·
     unfold WI
     split
     · exact h
     · exact JlK _ (Jge _ h)
    · exact h
theorem Jo1:∀ (l:List K4) {t:JI},Jc2 t→Jc2 (Jbi t l)
 | [],_,h=>h
 | d::l,_,h=>Jo1 l (ev_do h d)
theorem YK (s:Kx) (l:List K4):∀ x∈(Jt s l).2.1,JbL x:=by
 unfold Jt
 split
 · intro x hx;simp at hx
 · exact Jo1 l (t:=QD s) (by intro x hx;simp [QD] at hx)
def bump (m:List Int) (k:Nat):List Int:=m.set k (m[k]?.getD 0+1)
def VF (m:List Int) (x:Yg):List Int:=if x.kind=2 then bump (bump m (x.kind-1).toNat) (3+x.n).toNat else bump m (x.kind-1).toNat
def Jo2 (l:List Yg):List Int:=l.foldl VF (Hi 10 0)
def EvI (n:Nat) (m:List Int):Prop:=m.length=10∧∀ c∈m,0≤c∧c≤n
theorem EvI.bump {n:Nat} {m:List Int} (h:EvI n m) (k:Nat):EvI (n+1) (bump m k):=by
 refine ⟨by simp [Go.Proofs.YteaampgpgokjmaaGreatDoor.bump,h.1],fun c hc=>?_⟩
 unfold Go.Proofs.YteaampgpgokjmaaGreatDoor.bump at hc
 rcases List.mem_or_eq_of_mem_set hc with hc | hc
 · have:=h.2 c hc;omega
 ·
  rw [hc]
  cases hk:m[k]? with
  | none=>simp;omega
  | some v=>have:=h.2 v (Ha hk);simp;omega
theorem JdJ {n:Nat} {m:List Int} {k:Nat} {v:Int} (h:EvI n m) (hk:m[k]? = some v):EvI (n+1) (m.set k (v+1)):=by
 have:=h.bump k
 unfold Go.Proofs.YteaampgpgokjmaaGreatDoor.bump at this
 rw [hk] at this;exact this
theorem JdK {n n':Nat} {m:List Int} (h:EvI n m) (hn:n≤n'):EvI n' m:=⟨h.1,fun c hc=>by have:=h.2 c hc;omega⟩
theorem JjC {l:List Yg} {i:Nat} {x:Yg} (hx:l[i]? = some x):(l.take (i+1)).foldl VF (Hi 10 0)=VF ((l.take i).foldl VF (Hi 10 0)) x:=by
 rw [Hv,hx];simp [List.foldl_append]
theorem Jo3 {l:List Yg} {i:Nat} {x:Yg} {m:List Int} {k:Nat} {v:Int} (hx:l[i]? = some x) (hm:m=(l.take i).foldl VF (Hi 10 0)∧EvI (2*i) m) (hk:x.kind-1=(k:Int)) (hv:m[k]? = some v) (h2:¬ x.kind=2) :
  m.set k (v+1)=(l.take (i+1)).foldl VF (Hi 10 0)∧EvI (2*(i+1)) (m.set k (v+1)):=by
 refine ⟨?_,JdK (JdJ hm.2 hv) (by omega)⟩
 rw [JjC hx,← hm.1]
 unfold VF bump
 rw [if_neg h2,hk,Hp,hv];rfl
theorem Jo4 {l:List Yg} {i:Nat} {x:Yg} {m:List Int} {k k2:Nat} {v v2:Int} (hx:l[i]? = some x) (hm:m=(l.take i).foldl VF (Hi 10 0)∧EvI (2*i) m) (hk:x.kind-1=(k:Int)) (hv:m[k]? = some v) (h2:x.kind=2) (hk2:3+x.n=(k2:Int)) (hv2:(m.set k (v+1))[k2]? = some v2) :
  (m.set k (v+1)).set k2 (v2+1)=(l.take (i+1)).foldl VF (Hi 10 0)∧EvI (2*(i+1)) ((m.set k (v+1)).set k2 (v2+1)):=by
 refine ⟨?_,JdK (JdJ (JdJ hm.2 hv) hv2) (by omega)⟩
 rw [JjC hx,← hm.1]
 unfold VF bump
 rw [if_pos h2,hk,hk2,Hp,Hp,hv]
 simp only [Hj]
 rw [hv2];rfl
theorem EvI.start:EvI 0 (Hi 10 0):=⟨by simp,fun c hc=>by have:=List.eq_of_mem_replicate hc;omega⟩
def Yw (t:KD) (w:Bs):Bs×Int:=if ¬ (Jt t.setup t.deeds).2.2=0 then ([],(Jt t.setup t.deeds).2.2) else ((Jo2 (Jt t.setup t.deeds).2.1).map Lib.itoa,0)
theorem JjD (G:J4) (b:Nat) (t:KD) (a_0:Ba) (c_0:Nat) (a_1:Ba) (c_1:Nat) (a_9:Ba) (c_9:Nat) (r_9:Bg) (h_0:RS ES G a_0 c_0 t.setup.names) (h_1:RS EU G a_1 c_1 t.setup.keys) (h_2:rI t.setup.most) (h_3:rI t.setup.batch) (h_4:rI t.setup.every) (h_5:rI t.setup.least) (h_6:rI t.setup.top) (h_7:rI t.setup.lost) (h_8:rI t.setup.reach) (h_9:JX Wl G a_9 c_9 t.deeds r_9) (a_w:Ba) (c_w:Nat) (w:Bs) (h_w:RS ES G a_w c_w w) (ht:t.deeds.length≤200):Ze Tryz.prog 87 #[Pt b 0,Sl a_w w.length c_w] G [[Sg b 0 [Sl a_0 t.setup.names.length c_0,Sl a_1 t.setup.keys.length c_1,I t.setup.most,I t.setup.batch,I t.setup.every,I t.setup.least,I t.setup.top,I t.setup.lost,I t.setup.reach,Sl a_9 t.deeds.length c_9]],r_9] (fun u G' L'=>((Yw t w).2=0)∧∃ (az1:Ba) (cz2:Nat),u=Sl az1 (((Yw t w).1).length) cz2∧(RS ES G' az1 cz2 ((Yw t w).1))∧L'=[[Sg b 0 [Sl a_0 t.setup.names.length c_0,Sl a_1 t.setup.keys.length c_1,I t.setup.most,I t.setup.batch,I t.setup.every,I t.setup.least,I t.setup.top,I t.setup.lost,I t.setup.reach,Sl a_9 t.deeds.length c_9]],r_9]) (fun u _ L'=>(¬ (Yw t w).2=0)∧u=YY ((Yw t w).2)∧L'=[[Sg b 0 [Sl a_0 t.setup.names.length c_0,Sl a_1 t.setup.keys.length c_1,I t.setup.most,I t.setup.batch,I t.setup.every,I t.setup.least,I t.setup.top,I t.setup.lost,I t.setup.reach,Sl a_9 t.deeds.length c_9]],r_9]):=by
 intro Lr
 refine W4 Tryz.func87 44 [(0,Pt b 0),(1,Sl a_w w.length c_w)] rfl (fun w0 G0 hT=>?_)
 show TC _ _ _ _ _ ([Sg b 0 (J3 t a_0 c_0 a_1 c_1 a_9 c_9)]::r_9::Lr)
 refine Jg [0] [] (Jf (Jd (Jb [0] [(11,Pt b 0)] (Jw 1 (Jw 1 (KE (Ls:=[[Sg b 0 (J3 t a_0 c_0 a_1 c_1 a_9 c_9)],r_9]) (Lr:=Lr) 12 hT (Jbj G b t a_0 c_0 a_1 c_1 a_9 c_9 r_9 h_0 h_1 h_2 h_3 h_4 h_5 h_6 h_7 h_8 h_9 ‹_›) (fun v G1 L1 hl1 hp=>?_) (fun v G1 L1 hl1 hp=>?_)))))))
 obtain ⟨hne1,rfl,rfl⟩:=hp
 refine J7 ?_
 have hp1:(Yw t w).2=(Jt t.setup t.deeds).2.2:=by
  unfold Yw;rw [if_pos ‹_›]
 refine Wq (QJ (Lr:=Lr) [[Sg b 0 (J3 t a_0 c_0 a_1 c_1 a_9 c_9)],r_9] hl1 ?_)
 rw [hp1];exact ⟨hne1,rfl,rfl⟩
 obtain ⟨_,a1,c1,a2,c2,a3,c3,a4,c4,a5,c5,a6,c6,a7,c7,rfl,_,_,_,_,_,_,_,_,_,_,_,hs7,rfl⟩:=hp
 refine Jb [0,0,0] [(13,(VK (Jt t.setup t.deeds).1 a1 c1 a2 c2 a3 c3 a4 c4 a5 c5 a6 c6)),(14,Sl a7 (((Jt t.setup t.deeds).2.1).length) c7)] (Jv 5 #[I 0,Sl none 0 0,I 0,I 0,I 0,Sl none 0 0,Sl none 0 0,Sl none 0 0,Sl none 0 0,I 0,Sl none 0 0] 67 (fun b1=>JT [3,0] [(6,Sl a7 (((Jt t.setup t.deeds).2.1).length) c7)] ([Sg b1 0 (ZL (Jt t.setup t.deeds).1 a1 c1 a2 c2 a3 c3 a4 c4 a5 c5 a6 c6)]::[Sg b 0 (J3 t a_0 c_0 a_1 c_1 a_9 c_9)]::r_9::Lr) (Je (Jc (Jf (Jd (JfS (E:=EI) (bytes:=8) 15 39 3 10 (0:Int) ⟨rfl,rfl,fun G=>⟨rfl,by omega⟩⟩ Kd Kd (by kernel_rfl) (fun a8 r1 hr1=>Jb [0] [(7,Sl a8 ((Hi 10 (0:Int)).length) 10)] (Je (Jc (Jf (Jg [0,0,0] [(16,Sl a7 (((Jt t.setup t.deeds).2.1).length) c7),(17,I (((Jt t.setup t.deeds).2.1).length:Int)),(18,I 0)] (Jy ?_)))))))))))))
 have hlm_hs7:((Jt t.setup t.deeds).2.1).length≤9223372036854775807:=Hu (hs7).le (hs7).max
 refine Qe (σ:=Nat×Ba×Nat×Bg×List Int×J4) (fun q_=>(J4.le G1 q_.2.2.2.2.2)∧(q_.1≤((Jt t.setup t.deeds).2.1).length)∧(JX EI q_.2.2.2.2.2 q_.2.1 q_.2.2.1 q_.2.2.2.2.1 q_.2.2.2.1)∧(q_.2.2.2.2.1=((Jt t.setup t.deeds).2.1.take q_.1).foldl VF (Hi 10 0)∧EvI (2*q_.1) q_.2.2.2.2.1)∧((Jt t.setup t.deeds).2.1.length≤1000000000000000)) (fun q_=>[(7,Sl q_.2.1 q_.2.2.2.2.1.length q_.2.2.1),(16,Sl a7 (((Jt t.setup t.deeds).2.1).length) c7),(17,I (((Jt t.setup t.deeds).2.1).length:Int)),(18,I (q_.1:Int))]) (fun q_=>q_.2.2.2.2.2) (fun q_=>(q_.2.2.2.1::[Sg b1 0 (ZL (Jt t.setup t.deeds).1 a1 c1 a2 c2 a3 c3 a4 c4 a5 c5 a6 c6)]::[Sg b 0 (J3 t a_0 c_0 a_1 c_1 a_9 c_9)]::r_9::Lr)) (fun q_=>((Jt t.setup t.deeds).2.1).length-q_.1) (0,a8,10,r1,(Hi 10 (0:Int)),G1) ⟨(Jh _),(by (try dsimp only);exact Hx _),hr1,⟨rfl,EvI.start⟩,(by (try dsimp only);have q_:=(by assumption:RS Wk _ _ _ (Jt t.setup t.deeds).2.1).fit;simp only [Wk] at q_;omega)⟩ (fun q_ hs=>?_)
 obtain ⟨i,ax,cx,rx,xx,g⟩:=q_
 obtain ⟨hle,hi,hrx,hxx,hfi⟩:=hs
 dsimp only at hle hi hrx hxx hfi
 dsimp only
 refine Jg [0] [(19,Bo (decide ((i:Int)<(((Jt t.setup t.deeds).2.1).length:Int))))] (Jf (Jm (decide ((i:Int)<(((Jt t.setup t.deeds).2.1).length:Int))) (fun h1=>?_) (fun h1=>?_)))
 refine Jq (Jc (Jf (Jy (Jf (Jd ?_)))))
 obtain ⟨b2,o1,rfl⟩:=RS.addr (hs7.mono hle) (k:=i) (by omega)
 obtain ⟨x1,hx1⟩:=QQ (l:=(Jt t.setup t.deeds).2.1) (k:=i) (by omega)
 obtain ⟨_,⟨rfl,_,_,_,_⟩,hc1⟩:=RS.get (hs7.mono hle) hx1
 refine JW (b:=b2) (off:=o1) (len:=((Jt t.setup t.deeds).2.1).length) (cap:=c7) (ik:=.i64) 20 74 4 i Kd (JO 21 74 (cs:=[I x1.kind,I x1.who,I x1.n,I x1.at_]) 0 (.agg #[I x1.kind,I x1.who,I x1.n,I x1.at_]) hc1 (Jv 9 #[I 0,I 0,I 0,I 0] 74 (fun b3=>JT [3] [] ([Sg b3 0 [I x1.kind,I x1.who,I x1.n,I x1.at_]]::rx::[Sg b1 0 (ZL (Jt t.setup t.deeds).1 a1 c1 a2 c2 a3 c3 a4 c4 a5 c5 a6 c6)]::[Sg b 0 (J3 t a_0 c_0 a_1 c_1 a_9 c_9)]::r_9::Lr) (Je (Jc (Jf (Jd (Jb [0,0,2,0] [(22,Sl ax xx.length cx),(25,I (Hk.wrap (x1.kind-1)))] (Ku 25 (x1.kind-1) (by (have q_:=YK _ _ _ (Ha hx1);unfold JbL at q_;have q2_:=hxx.2.1;omega)) ?_)))))))))
 obtain ⟨kn1,hkn1⟩:∃ k_:Nat,x1.kind-1=(k_:Int):=⟨(x1.kind-1).toNat,by (have q_:=YK _ _ _ (Ha hx1);unfold JbL at q_;have q2_:=hxx.2.1;omega)⟩
 have e1:x1.kind-1=(kn1:Int):=hkn1
 refine KG 25 (I (kn1:Int)) (congrArg I e1) ?_
 obtain ⟨x2,hx2⟩:=QQ (l:=xx) (k:=kn1) (by (have q_:=YK _ _ _ (Ha hx1);unfold JbL at q_;have q2_:=hxx.2.1;omega))
 obtain ⟨b4,o2,_,_,⟨rfl,_⟩,ha1,hre1,hc2⟩:=JX.ix hrx hx2
 refine Qq (b:=b4) (off:=o2) (len:=xx.length) (cap:=cx) (ik:=.i64) 26 3 1 kn1 ha1 (by (have q_:=YK _ _ _ (Ha hx1);unfold JbL at q_;have q2_:=hxx.2.1;omega)) (W2 (off:=o2) (p:=kn1*1) (cs:=[I x2]) 27 3 1 0 (I x2) hre1 hc2 (Jb [0] [(28,I (Hk.wrap (x2+1)))] (Ku 28 (x2+1) (by (have q_:=hxx.2.2 _ (Ha hx2);omega)) ?_)))
 obtain ⟨_,hx3⟩:=QQ (l:=xx) (k:=kn1) (by (have q_:=YK _ _ _ (Ha hx1);unfold JbL at q_;have q2_:=hxx.2.1;omega))
 obtain ⟨b5,o3,_,_,⟨rfl,_⟩,ha2,_,_⟩:=JX.ix hrx hx3
 refine Qq (b:=b5) (off:=o3) (len:=xx.length) (cap:=cx) (ik:=.i64) 29 3 1 kn1 ha2 (by (have q_:=YK _ _ _ (Ha hx1);unfold JbL at q_;have q2_:=hxx.2.1;omega)) (Yx (b:=b5) (off:=o3) 1 hrx kn1 (x2+1) ha2 (by (have q_:=YK _ _ _ (Ha hx1);unfold JbL at q_;have q2_:=hxx.2.1;omega)) (I (x2+1)) [I (x2+1)] ⟨rfl,(by (have q_:=hxx.2.2 _ (Ha hx2);omega))⟩ (fun r2 hr2=>?_))
 have e2:xx.length=(xx.set kn1 (x2+1)).length:=(List.length_set ..).symm
 refine KG 7 (Sl ax ((xx.set kn1 (x2+1)).length) cx) (congrArg (Sl ax · cx) e2) (KG 22 (Sl ax ((xx.set kn1 (x2+1)).length) cx) (congrArg (Sl ax · cx) e2) (Je (Jc (Jg [0,2,0] [(32,Bo (decide (x1.kind=2)))] (Jm (decide (x1.kind=2)) (fun h2=>?_) (fun h2=>?_))))))
 refine Jd (Jb [0,0,2,0] [(33,Sl ax ((xx.set kn1 (x2+1)).length) cx),(36,I (Hk.wrap (3+x1.n)))] (Ku 36 (3+x1.n) (by (have q_:=YK _ _ _ (Ha hx1);unfold JbL at q_;have q2_:=hxx.2.1;omega)) ?_))
 obtain ⟨kn2,hkn2⟩:∃ k_:Nat,3+x1.n=(k_:Int):=⟨(3+x1.n).toNat,by (have q_:=YK _ _ _ (Ha hx1);unfold JbL at q_;have q2_:=hxx.2.1;omega)⟩
 have e3:3+x1.n=(kn2:Int):=hkn2
 refine KG 36 (I (kn2:Int)) (congrArg I e3) ?_
 obtain ⟨x4,hx4⟩:=QQ (l:=xx.set kn1 (x2+1)) (k:=kn2) (by (have q_:=YK _ _ _ (Ha hx1);unfold JbL at q_;have q2_:=hxx.2.1;omega))
 obtain ⟨b6,o4,_,_,⟨rfl,_⟩,ha3,hre3,hc4⟩:=JX.ix hr2 hx4
 refine Qq (b:=b6) (off:=o4) (len:=(xx.set kn1 (x2+1)).length) (cap:=cx) (ik:=.i64) 37 3 1 kn2 ha3 (by (have q_:=YK _ _ _ (Ha hx1);unfold JbL at q_;have q2_:=hxx.2.1;omega)) (W2 (off:=o4) (p:=kn2*1) (cs:=[I x4]) 38 3 1 0 (I x4) hre3 hc4 (Jb [0] [(39,I (Hk.wrap (x4+1)))] (Ku 39 (x4+1) (by (have q_:=(JdJ hxx.2 hx2).2 _ (Ha hx4);omega)) ?_)))
 obtain ⟨_,hx5⟩:=QQ (l:=xx.set kn1 (x2+1)) (k:=kn2) (by (have q_:=YK _ _ _ (Ha hx1);unfold JbL at q_;have q2_:=hxx.2.1;omega))
 obtain ⟨b7,o5,_,_,⟨rfl,_⟩,ha4,_,_⟩:=JX.ix hr2 hx5
 refine Qq (b:=b7) (off:=o5) (len:=(xx.set kn1 (x2+1)).length) (cap:=cx) (ik:=.i64) 40 3 1 kn2 ha4 (by (have q_:=YK _ _ _ (Ha hx1);unfold JbL at q_;have q2_:=hxx.2.1;omega)) (Yx (b:=b7) (off:=o5) 1 hr2 kn2 (x4+1) ha4 (by (have q_:=YK _ _ _ (Ha hx1);unfold JbL at q_;have q2_:=hxx.2.1;omega)) (I (x4+1)) [I (x4+1)] ⟨rfl,(by (have q_:=(JdJ hxx.2 hx2).2 _ (Ha hx4);omega))⟩ (fun r3 hr3=>?_))
 have e4:(xx.set kn1 (x2+1)).length=((xx.set kn1 (x2+1)).set kn2 (x4+1)).length:=(List.length_set ..).symm
 exact KG 7 (Sl ax (((xx.set kn1 (x2+1)).set kn2 (x4+1)).length) cx) (congrArg (Sl ax · cx) e4) (KG 33 (Sl ax (((xx.set kn1 (x2+1)).set kn2 (x4+1)).length) cx) (congrArg (Sl ax · cx) e4) (Je (JN (Jc (Jd (Jb [0,0] [(18,I (Hk.wrap ((i:Int)+1)))] (Ku 18 ((i:Int)+1) Kd (Je (QA (r3::[Sg b1 0 (ZL (Jt t.setup t.deeds).1 a1 c1 a2 c2 a3 c3 a4 c4 a5 c5 a6 c6)]::[Sg b 0 (J3 t a_0 c_0 a_1 c_1 a_9 c_9)]::r_9::Lr) (Ql (i+1,ax,cx,r3,(xx.set kn1 (x2+1)).set kn2 (x4+1),g) ⟨(Ja hle (Jh _)),Kd,hr3,(by (try dsimp only);exact Jo4 hx1 hxx ‹_› ‹_› ‹_› ‹_› ‹_›),hfi⟩ (by (try dsimp only);omega)))))))))))
 exact Jq (JN (Jc (Jd (Jb [0,0] [(18,I (Hk.wrap ((i:Int)+1)))] (Ku 18 ((i:Int)+1) Kd (Je (QA (r2::[Sg b1 0 (ZL (Jt t.setup t.deeds).1 a1 c1 a2 c2 a3 c3 a4 c4 a5 c5 a6 c6)]::[Sg b 0 (J3 t a_0 c_0 a_1 c_1 a_9 c_9)]::r_9::Lr) (Ql (i+1,ax,cx,r2,xx.set kn1 (x2+1),g) ⟨(Ja hle (Jh _)),Kd,hr2,(by (try dsimp only);exact Jo3 hx1 hxx ‹_› ‹_› ‹_›),hfi⟩ (by (try dsimp only);omega)))))))))
 refine KX (J1 (Ke (JV (Jc (Jf (Jd (Jb [0] [(42,Sl ax xx.length cx)] (WB (E:=EI) 0 hrx (by have q_:=hxx.2.1;(try simp only [ES,EI,Ht]);omega) (fun G2 hl2 hs8=>Z4 (Ls:=[]) (Lr:=([]::[Sg b1 0 (ZL (Jt t.setup t.deeds).1 a1 c1 a2 c2 a3 c3 a4 c4 a5 c5 a6 c6)]::[Sg b 0 (J3 t a_0 c_0 a_1 c_1 a_9 c_9)]::r_9::Lr)) 43 hT ((Jga G2 ax cx xx hs8 (by (have q_:=hxx.2.1;omega))).frame) (fun v G3 L1 hl3 hp=>?_))))))))))
 obtain ⟨_,a9,c8,_,rfl,hr4,rfl⟩:=hp
 refine Jb [0] [(4,Sl a9 ((xx.map Lib.itoa).length) c8)] (Je (Jc (Jn (Wv (E:=ES) 0 hr4 (by have q_:=hxx.2.1;(try simp only [ES,EI,Ht]);omega) (fun G4 hl4 hs9=>Jk 4 (Jk 4 ?_))))))
 have hf1:(Yw t w).2=0∧(Yw t w).1=xx.map Lib.itoa:=by
  have q_:=Hr (i:=i) (l:=(Jt t.setup t.deeds).2.1) (by omega);rw [q_] at hxx;unfold Yw;rw [if_neg (by omega)];exact ⟨rfl,by rw [Jo2,← hxx.1]⟩
 refine Jo [0] [Sl a9 ((xx.map Lib.itoa).length) c8] (V9 (KH (Lr:=Lr) [[Sg b 0 (J3 t a_0 c_0 a_1 c_1 a_9 c_9)],r_9] (Ja (Ja (Ja (Ja hl1 hle) hl2) hl3) hl4) ?_))
 rw [hf1.2]
 try dsimp only
 exact ⟨hf1.1,a9,c8,rfl,hs9,rfl⟩
theorem Ze.mono {P:Program} {f:FuncId} {args:Array Value} {G:J4} {Ls:Bl} {Post PP Post' PP':Value→J4→Bl→Prop} (h:Ze P f args G Ls Post PP) (h1:∀ v G' L',J4.le G G'→Post v G' L'→Post' v G' L') (h2:∀ v G' L',PP v G' L'→PP' v G' L'):Ze P f args G Ls Post' PP':=fun Lr w0 G0 w hT hw =>
 (h Lr w0 G0 w hT hw).mono fun _ _ ⟨v,G',L',a,b,c⟩=>⟨v,G',L',a,b,c.imp (fun ⟨q,L1,e,p⟩=>⟨q,L1,e,h1 _ _ _ b p⟩) (fun ⟨q,L1,e,p⟩=>⟨q,L1,e,h2 _ _ _ p⟩)⟩
def QH (c:Nat) (t:KD) (w:Bs):KD×Bs×Int:=match c with
 | 0=>((WX t w).1,[],(WX t w).2)
 | 1=>((WY t w).1,[],(WY t w).2)
 | 2=>((WO t w).1,[],(WO t w).2)
 | 3=>((Wu t w).1,[],(Wu t w).2)
 | 4=>((Zq t w).1,[],(Zq t w).2)
 | 5=>((Zr t w).1,[],(Zr t w).2)
 | 6=>((Zs t w).1,[],(Zs t w).2)
 | 7=>(t,(Jc1 t w).1,(Jc1 t w).2)
 | 8=>(t,(ZA t w).1,(ZA t w).2)
 | 9=>(t,(Yw t w).1,(Yw t w).2)
 | 10=>(t,(YZ t w).1,(YZ t w).2)
 | 11=>(t,(Vq t w).1,(Vq t w).2)
 | _=>(t,[],0)
def dS (_:Nat):Bool:=true
def JkO (t:KD) (G:J4) (b:Nat) (L:Bl):Prop:=∃ (a_0:Ba) (c_0:Nat) (a_1:Ba) (c_1:Nat) (a_9:Ba) (c_9:Nat) (r_9:Bg),(RS ES G a_0 c_0 t.setup.names)∧(RS EU G a_1 c_1 t.setup.keys)∧(-9223372036854775808≤t.setup.most∧t.setup.most<9223372036854775808)∧(-9223372036854775808≤t.setup.batch∧t.setup.batch<9223372036854775808)∧(-9223372036854775808≤t.setup.every∧t.setup.every<9223372036854775808)∧(-9223372036854775808≤t.setup.least∧t.setup.least<9223372036854775808)∧(-9223372036854775808≤t.setup.top∧t.setup.top<9223372036854775808)∧(-9223372036854775808≤t.setup.lost∧t.setup.lost<9223372036854775808)∧(-9223372036854775808≤t.setup.reach∧t.setup.reach<9223372036854775808)∧(JX Wl G a_9 c_9 t.deeds r_9)∧L=[[Sg b 0 [Sl a_0 t.setup.names.length c_0,Sl a_1 t.setup.keys.length c_1,I t.setup.most,I t.setup.batch,I t.setup.every,I t.setup.least,I t.setup.top,I t.setup.lost,I t.setup.reach,Sl a_9 t.deeds.length c_9]],r_9]
theorem Jfk (c:Nat) (hc:c<12) (hS:dS c=true) (G:J4) (b:Nat) (t:KD) (L:Bl) (hB:JkO t G b L) (ht:t.deeds.length≤200) (hn:t.setup.names.length≤1000) (hk:t.setup.keys.length≤1000) (a_w:Ba) (c_w:Nat) (w:Bs) (h_w:RS ES G a_w c_w w) (hw:0≤Ym c→(w.length:Int)=Ym c) (hw2:w.length≤1048577) (hs:∀ s∈w,s.length≤1048576) :
  Ze Tryz.prog (V3 c) #[Pt b 0,Sl a_w w.length c_w] G L (fun u G' L'=>(QH c t w).2.2=0∧∃ a1 c2,u=Sl a1 (QH c t w).2.1.length c2∧RS ES G' a1 c2 (QH c t w).2.1∧JkO (QH c t w).1 G' b L') (fun u _ L'=>¬ (QH c t w).2.2=0∧u=YY (QH c t w).2.2∧L'=L):=by
 obtain ⟨a_0,c_0,a_1,c_1,a_9,c_9,r_9,h_0,h_1,h_2,h_3,h_4,h_5,h_6,h_7,h_8,h_9,rfl⟩:=hB
 match c,hc with
 | 0,_=>exact Ze.mono (JkI G b t a_0 c_0 a_1 c_1 a_9 c_9 r_9 h_0 h_1 h_2 h_3 h_4 h_5 h_6 h_7 h_8 h_9 a_w c_w w h_w (by have q_:=hw (by decide);simp only [Ym,Hg,Hh,Hj] at q_;omega) hs ht hn hk) (fun u G' L' hle ⟨he,a1,c2,a3,c4,a5,c6,a7,c8,r9,hu,ho,hB⟩=>⟨he,a1,c2,hu,ho,a3,c4,a5,c6,a7,c8,r9,hB⟩) (fun _ _ _ h=>h)
 | 1,_=>exact Ze.mono (JkJ G b t a_0 c_0 a_1 c_1 a_9 c_9 r_9 h_0 h_1 h_2 h_3 h_4 h_5 h_6 h_7 h_8 h_9 a_w c_w w h_w (by have q_:=hw (by decide);simp only [Ym,Hg,Hh,Hj] at q_;omega) hs ht hn hk) (fun u G' L' hle ⟨he,a1,c2,a3,c4,a5,c6,a7,c8,r9,hu,ho,hB⟩=>⟨he,a1,c2,hu,ho,a3,c4,a5,c6,a7,c8,r9,hB⟩) (fun _ _ _ h=>h)
 | 2,_=>exact Ze.mono (JkK G b t a_0 c_0 a_1 c_1 a_9 c_9 r_9 h_0 h_1 h_2 h_3 h_4 h_5 h_6 h_7 h_8 h_9 a_w c_w w h_w (by have q_:=hw (by decide);simp only [Ym,Hg,Hh,Hj] at q_;omega) hs ht hn hk) (fun u G' L' hle ⟨he,a1,c2,a3,c4,a5,c6,a7,c8,r9,hu,ho,hB⟩=>⟨he,a1,c2,hu,ho,a3,c4,a5,c6,a7,c8,r9,hB⟩) (fun _ _ _ h=>h)
 | 3,_=>exact Ze.mono (JkL G b t a_0 c_0 a_1 c_1 a_9 c_9 r_9 h_0 h_1 h_2 h_3 h_4 h_5 h_6 h_7 h_8 h_9 a_w c_w w h_w (by have q_:=hw (by decide);simp only [Ym,Hg,Hh,Hj] at q_;omega) hs ht hn hk) (fun u G' L' hle ⟨he,a1,c2,a3,c4,a5,c6,a7,c8,r9,hu,ho,hB⟩=>⟨he,a1,c2,hu,ho,a3,c4,a5,c6,a7,c8,r9,hB⟩) (fun _ _ _ h=>h)
 | 4,_=>exact Ze.mono (Jm1 G b t a_0 c_0 a_1 c_1 a_9 c_9 r_9 h_0 h_1 h_2 h_3 h_4 h_5 h_6 h_7 h_8 h_9 a_w c_w w h_w (by have q_:=hw (by decide);simp only [Ym,Hg,Hh,Hj] at q_;omega) hs ht hn hk) (fun u G' L' hle ⟨he,a1,c2,a3,c4,a5,c6,a7,c8,r9,hu,ho,hB⟩=>⟨he,a1,c2,hu,ho,a3,c4,a5,c6,a7,c8,r9,hB⟩) (fun _ _ _ h=>h)
 | 5,_=>exact Ze.mono (Jm2 G b t a_0 c_0 a_1 c_1 a_9 c_9 r_9 h_0 h_1 h_2 h_3 h_4 h_5 h_6 h_7 h_8 h_9 a_w c_w w h_w hw2 hs ht hn hk) (fun u G' L' hle ⟨he,a1,c2,a3,c4,a5,c6,a7,c8,r9,hu,ho,hB⟩=>⟨he,a1,c2,hu,ho,a3,c4,a5,c6,a7,c8,r9,hB⟩) (fun _ _ _ h=>h)
 | 6,_=>exact Ze.mono (Jm3 G b t a_0 c_0 a_1 c_1 a_9 c_9 r_9 h_0 h_1 h_2 h_3 h_4 h_5 h_6 h_7 h_8 h_9 a_w c_w w h_w (by have q_:=hw (by decide);simp only [Ym,Hg,Hh,Hj] at q_;omega) hs ht hn hk) (fun u G' L' hle ⟨he,a1,c2,a3,c4,a5,c6,a7,c8,r9,hu,ho,hB⟩=>⟨he,a1,c2,hu,ho,a3,c4,a5,c6,a7,c8,r9,hB⟩) (fun _ _ _ h=>h)
 | 7,_=>exact Ze.mono (Jo0 G b t a_0 c_0 a_1 c_1 a_9 c_9 r_9 h_0 h_1 h_2 h_3 h_4 h_5 h_6 h_7 h_8 h_9 a_w c_w w h_w ht) (fun u G' L' hle ⟨he,a1,c2,hu,ho,hB⟩=>⟨he,a1,c2,hu,ho,a_0,c_0,a_1,c_1,a_9,c_9,r_9,h_0.mono hle,h_1.mono hle,h_2,h_3,h_4,h_5,h_6,h_7,h_8,h_9.mono hle,hB⟩) (fun _ _ _ h=>h)
 | 8,_=>exact Ze.mono (Jm4 G b t a_0 c_0 a_1 c_1 a_9 c_9 r_9 h_0 h_1 h_2 h_3 h_4 h_5 h_6 h_7 h_8 h_9 a_w c_w w h_w (by have q_:=hw (by decide);simp only [Ym,Hg,Hh,Hj] at q_;omega) hs ht) (fun u G' L' hle ⟨he,a1,c2,hu,ho,hB⟩=>⟨he,a1,c2,hu,ho,a_0,c_0,a_1,c_1,a_9,c_9,r_9,h_0.mono hle,h_1.mono hle,h_2,h_3,h_4,h_5,h_6,h_7,h_8,h_9.mono hle,hB⟩) (fun _ _ _ h=>h)
 | 9,_=>exact Ze.mono (JjD G b t a_0 c_0 a_1 c_1 a_9 c_9 r_9 h_0 h_1 h_2 h_3 h_4 h_5 h_6 h_7 h_8 h_9 a_w c_w w h_w ht) (fun u G' L' hle ⟨he,a1,c2,hu,ho,hB⟩=>⟨he,a1,c2,hu,ho,a_0,c_0,a_1,c_1,a_9,c_9,r_9,h_0.mono hle,h_1.mono hle,h_2,h_3,h_4,h_5,h_6,h_7,h_8,h_9.mono hle,hB⟩) (fun _ _ _ h=>h)
 | 10,_=>exact Ze.mono (Jm5 G b t a_0 c_0 a_1 c_1 a_9 c_9 r_9 h_0 h_1 h_2 h_3 h_4 h_5 h_6 h_7 h_8 h_9 a_w c_w w h_w (by have q_:=hw (by decide);simp only [Ym,Hg,Hh,Hj] at q_;omega) hs ht) (fun u G' L' hle ⟨he,a1,c2,hu,ho,hB⟩=>⟨he,a1,c2,hu,ho,a_0,c_0,a_1,c_1,a_9,c_9,r_9,h_0.mono hle,h_1.mono hle,h_2,h_3,h_4,h_5,h_6,h_7,h_8,h_9.mono hle,hB⟩) (fun _ _ _ h=>h)
 | 11,_=>exact Ze.mono (Jm6 G b t a_0 c_0 a_1 c_1 a_9 c_9 r_9 h_0 h_1 h_2 h_3 h_4 h_5 h_6 h_7 h_8 h_9 a_w c_w w h_w ht) (fun u G' L' hle ⟨he,a1,c2,hu,ho,hB⟩=>⟨he,a1,c2,hu,ho,a_0,c_0,a_1,c_1,a_9,c_9,r_9,h_0.mono hle,h_1.mono hle,h_2,h_3,h_4,h_5,h_6,h_7,h_8,h_9.mono hle,hB⟩) (fun _ _ _ h=>h)
theorem JpY {P:Program} {n:Nat} {w0:World} {G0 G:J4} {fn:Func} {c₀:Frame} {cs:List Frame} {u:FrameMode} {R:Ending→FrameMode→World→Prop} {fr:Bf} {L:Bl} (hr:fn.results=#[]) (hR:∀ w,St w0 G0 w G L→R (.returned (.tuple #[])) u w) :
  TQ ⟨P,n,[],w0,G0⟩ (fun e a w=>bodyPostS P fn c₀ cs R e a ({ c₀ with mode:=u }::cs) w) .normal fr G L:=fun a w ha hw=>⟨ha.defers,u,rfl,_,results_none hr _ _ _,hR w hw⟩
theorem JlL {P:Program} {n:Nat} {w0:World} {G0 G:J4} {fn:Func} {R:Ending→World→Prop} {fr:Bf} {L:Bl} {fv:Fn} {cap dargs:Array Value} {f:FuncId} {args:Array Value} (is:List Nat) (vs:Bv)
  (hi:∀ w,(invoke (.fn fv cap) dargs).run P w=.ok (.enter f args) w)
  (hD:∀ w,St w0 G0 w G L→CallsD P f args .returning w fun e u' w'=>e=.returned (.tuple #[])∧u'=.returning∧St w0 G0 w' G L)
  (hR:∀ w,St w0 G0 w G L→R (.returned (Qy vs)) w)
  (h:(fn.results.toList.length,fn.results.toList.length,(fn.results.toList.zip is).map (Jig P fr L))=(is.length,vs.length,((fn.results.toList.zip is).zip vs).map (Jih L)):=by as_aux_lemma=>kernel_rfl) :
  TQ ⟨P,n,[{ target:=.fn fv cap,args:=dargs }],w0,G0⟩ (bodyPostD P fn R) .ret fr G L:=fun a w ha hw=>by
 show Leaves P fn a.tmps R a.defers .returning w
 rw [ha.defers]
 refine leaves_cons (f:=f) (args:=args) (by simp) (hi w) ((hD w hw).mono ?_)
 rintro e u' w' ⟨rfl,rfl,hw'⟩
 exact ⟨Qy vs,Jab (a:=a) ⟨ha.size,ha.defers,ha.slot⟩ hw' fn is vs h,hR w' hw'⟩
theorem Jcq {P:Program} {n:Nat} {w0:World} {G0 G:J4} {fn:Func} {R:Ending→World→Prop} {fr:Bf} {L:Bl} (L':Bl) {fv:Fn} {cap dargs:Array Value} {f:FuncId} {args:Array Value} {v:Value} (is:List Nat) (vs:Bv)
  (hi:∀ w,(invoke (.fn fv cap) dargs).run P w=.ok (.enter f args) w)
  (hD:∀ w,St w0 G0 w G L→CallsD P f args (.panicking (Jft v)) w fun e u' w'=>e=.returned (.tuple #[])∧u'=.panicking [{ v:=v,recovered:=true }]∧St w0 G0 w' G L')
  (hR:∀ w,St w0 G0 w G L'→R (.returned (Qy vs)) w)
  (h:(fn.results.toList.length,fn.results.toList.length,(fn.results.toList.zip is).map (Jig P fr L'))=(is.length,vs.length,((fn.results.toList.zip is).zip vs).map (Jih L')):=by as_aux_lemma=>kernel_rfl) :
  TQ ⟨P,n,[{ target:=.fn fv cap,args:=dargs }],w0,G0⟩ (bodyPostD P fn R) (.panic (Jft v)) fr G L:=fun a w ha hw=>by
 show Leaves P fn a.tmps R a.defers (.panicking (Jft v)) w
 rw [ha.defers]
 refine leaves_cons (f:=f) (args:=args) (by simp) (hi w) ((hD w hw).mono ?_)
 rintro e u' w' ⟨rfl,rfl,hw'⟩
 exact ⟨Qy vs,Jab (a:=a) ⟨ha.size,ha.defers,ha.slot⟩ hw' fn is vs h,hR w' hw'⟩
theorem JpZ {P:Program} {f:FuncId} {args:Array Value} {G:J4} {L:Bl} {Post PP:Value→J4→Bl→Prop} {fn:Func} {c:Code}
  (hf:P.funcs[f]? = some fn) (n:Nat) (fr:Bf) (hb:fn.body=some c)
  (h:∀ w0 G0,TW P w0→TC ⟨P,n,[],w0,G0⟩ c (bodyPostD P fn (BPX w0 G0 G Post PP)) fr G L)
  (hn:fn.ntmps=n:=by rfl) (ha:Nat.ble args.size n=true:=by rfl)
  (hfr:(fr.map fun p=>args[p.1]?)=fr.map fun p=>some p.2:=by as_aux_lemma=>kernel_rfl):V5 P f args G L Post PP:=fun w0 G0 w hT hw =>
 calls_of_wp_defers hf hb (h w0 G0 hT _ w (by rw [hn];exact Jfn fr hfr (Hc ha)) hw)
theorem Jcr (G:J4) (b:Nat) (e:Int) (x:Bb) (he:-9223372036854775808≤e∧e<9223372036854775808) (Lr:Bl) (w0:World) (G0:J4) (w:World) (hT:TW Tryz.prog w0) (hw:St w0 G0 w G ([Sg b 0 [Sr x]]::Lr)) :
  CallsD Tryz.prog 45 #[Pt b 0] (.panicking (Jft (YY e))) w (fun en u' w'=>en=.returned (.tuple #[])∧u'=.panicking [{ v:=YY e,recovered:=true }]∧St w0 G0 w' G ([Sg b 0 [Sr ([101,114,114,32]++Lib.itoa e)]]::Lr)):=by
 have hq_:=Jcm e he
 refine callsD_of_wpS Tryz.func45 rfl (fun c₀ cs hu=>?_)
 apply wpS_seq
 apply wpS_region
 rw [show List.range (Array.size _)=[0,1] from rfl]
 simp [wpOpsS,go_sem,recoverD,hu,Exit.thenS]
 refine wpS_of_wp ?_
 refine (show TC ⟨Tryz.prog,19,[],w0,G0⟩ _ _ [(0,Pt b 0),(1,YY e)] G ([Sg b 0 [Sr x]]::Lr) from ?_) _ w ⟨by simp,rfl,fun t v h=>?_⟩ hw
 rotate_left
 ·
  obtain ⟨p,hp,rfl,rfl⟩:=JbO h
  simp only [Hs,Hn,or_false] at hp
  rcases hp with rfl | rfl <;> simp
 refine Jg [0,0] [(6,Bo true)] ?_
 refine J0 ?_
 refine Jf ?_
 refine Jd ?_
 refine Jb [0,0,0,0,0] [(10,.agg #[I e]),(11,Bo true)] ?_
 refine Jv 2 #[I 0] 122 (fun b1=>?_)
 refine JT [3,0] [(3,Bo true)] ([Sg b1 0 [I e]]::[Sg b 0 [Sr x]]::Lr) ?_
 refine Je ?_
 refine Jc ?_
 refine Jf ?_
 refine Jg [0,0] [(13,Bo false)] ?_
 refine Qp ?_
 refine Jq ?_
 refine Jc ?_
 refine Jd ?_
 refine Jb [0,2] [(16,I e)] ?_
 refine JaO 17 (Sr (Lib.itoa e)) hT (JfC G e he) ?_
 refine ZS 18 ([101,114,114,32]) (Lib.itoa e) (by simp;omega) ?_
 refine JT [5] [] ([Sg b1 0 [I e]]::[Sg b 0 [Sr (([101,114,114,32])++(Lib.itoa e))]]::Lr) ?_
 refine Je ?_
 refine QA ([Sg b 0 [Sr (([101,114,114,32])++(Lib.itoa e))]]::Lr) ?_
 exact JpY rfl (fun w hw=>⟨rfl,rfl,hw⟩)
theorem JlM (G:J4) (b:Nat) (L:Bl) (w0:World) (G0:J4) (w:World) (hw:St w0 G0 w G L) :
  CallsD Tryz.prog 45 #[Pt b 0] .returning w (fun en u' w'=>en=.returned (.tuple #[])∧u'=.returning∧St w0 G0 w' G L):=by
 refine callsD_of_wpS Tryz.func45 rfl (fun c₀ cs hu=>?_)
 apply wpS_seq
 apply wpS_region
 rw [show List.range (Array.size _)=[0,1] from rfl]
 simp [wpOpsS,go_sem,recoverD,hu,Exit.thenS]
 refine wpS_of_wp ?_
 refine (show TC ⟨Tryz.prog,19,[],w0,G0⟩ _ _ [(0,Pt b 0),(1,.nilIface)] G L from ?_) _ w ⟨by simp,rfl,fun t v h=>?_⟩ hw
 rotate_left
 ·
  obtain ⟨p,hp,rfl,rfl⟩:=JbO h
  simp only [Hs,Hn,or_false] at hp
  rcases hp with rfl | rfl <;> simp
 refine Jg [0,0] [(6,Bo false)] ?_
 refine Qp ?_
 refine Jq ?_
 exact fun a w ha hw=>⟨ha.defers,.returning,by rw [← hu],_,results_none rfl _ _ _,rfl,rfl,hw⟩
theorem JaV {C:Cx} {Q:Bq} {fr:Bf} {G:J4} {L:Bl} {ops:Bp} {rest:List Oper} {o:Oper} (d:Nat) {k:FuncId} {args:Array Value} {Ls Lr:Bl} {Post PP:Value→J4→Bl→Prop} (hk:Jbb C.P k) (hT:TW C.P C.w0) (hc:Ze C.P k args G Ls Post PP)
  (hp:∀ v G' L1,J4.le G G'→PP v G' L1→TQ C Q (.panic (Jft v)) fr G' (L1++Lr))
  (h:∀ v G' L1,J4.le G G'→Post v G' L1→Kz C ops Q rest ((d,v)::fr) G' (L1++Lr)) (hL:L=Ls++Lr:=by rfl)
  (hx:Jdb fr o=some (k,args,#[]):=by as_aux_lemma=>kernel_rfl)
  (hw:Qs ops fr o=some true:=by rfl) (hd:o.dst=some d:=by rfl) (hn:Nat.blt d C.n=true:=by rfl) (hsel:Zh o.op=false:=by rfl)
  (hcov:o.op.operands.toList.all (cov fr)=true:=by as_aux_lemma=>kernel_rfl):Kz C ops Q (o::rest) fr G L:=by
 refine KE (f:=k) (args:=args) d hT hc hp h hL hw hd hn hsel hcov ?_
 intro w
 unfold Jdb at hx
 split at hx
 case h_2=>cases hx
 rename_i t as_ ty hop
 split at hx
 case h_2=>cases hx
 rename_i k' caps' hv
 cases hx
 simp [execOp,hop,resolve,hv,Deferred.ofValue,invoke]
 exact hk _ _
theorem Zd (s:Bb):(JJ s).length≤s.length+1:=by
 have h1:=Lib.splitB_all ⟨#[32]⟩ (by decide) 0 _ (B s) rfl
 have h2:=Lib.countB_le ⟨#[32]⟩ (by decide) (B s).size (B s) (Nat.le_refl _)
 have h3:=congrArg Hy (JbP s)
 rw [Ht,h1] at h3
 rw [Jhq] at h2
 omega
theorem Jia:∀ c,c<12→Jbb Tryz.prog (V3 c)
 | 0,_=>fun _ _=>by kernel_rfl
 | 1,_=>fun _ _=>by kernel_rfl
 | 2,_=>fun _ _=>by kernel_rfl
 | 3,_=>fun _ _=>by kernel_rfl
 | 4,_=>fun _ _=>by kernel_rfl
 | 5,_=>fun _ _=>by kernel_rfl
 | 6,_=>fun _ _=>by kernel_rfl
 | 7,_=>fun _ _=>by kernel_rfl
 | 8,_=>fun _ _=>by kernel_rfl
 | 9,_=>fun _ _=>by kernel_rfl
 | 10,_=>fun _ _=>by kernel_rfl
 | 11,_=>fun _ _=>by kernel_rfl
 | n+12,h=>by omega
theorem ev_len (s:Kx) (l:List K4):(Jt s l).2.1.length≤64*200:=by
 by_cases h:(Jt s l).2.2=0
 ·
  obtain ⟨h1,h2,h3⟩:=Jh3 h
  have hb:=Jan h1
  obtain ⟨_,b2,b3,b4⟩:=Jb4 h1
  obtain ⟨m,e,hm⟩:=(JoD l (t:=QD s) (by rw [b3];exact hb.1)).ev
  rw [h3]
  simp only
  rw [e]
  simp [QD] at hm ⊢
  omega
 · rw [JoE h];simp
theorem JlN:∀ (l:List Yg) (n:Nat) (m:List Int),EvI n m→EvI (n+2*l.length) (l.foldl VF m)
 | [],n,m,h=>h
 | x::l,n,m,h=>by
  have h1:EvI (n+2) (VF m x):=by
   unfold VF
   split
   · exact (h.bump _).bump _
   · exact JdK (h.bump _) (by omega)
  have:=JlN l (n+2) _ h1
  rw [He]
  exact JdK this (by omega)
def Ja3 (l:Bs):Prop:=l.length≤10∧∀ x∈l,x.length≤21
theorem WK:Ja3 []:=⟨by simp,by simp⟩
theorem Jc3 {l:List Int} (h:l.length≤10) (h2:∀ n∈l,-9223372036854775808≤n∧n<9223372036854775808):Ja3 (l.map Lib.itoa):=⟨by simpa using h,fun x hx=>by obtain ⟨n,hn,rfl⟩:=List.mem_map.1 hx;exact Jcm n (h2 n hn)⟩
theorem Jgf (t:KD) (w:Bs):Ja3 (Jc1 t w).1:=by
 unfold Jc1
 split
 · exact WK
 ·
  rename_i h
  have q:=Zz (Y4 (Hq.1 h)).1
  refine Jc3 (by simp) ?_
  intro n hn
  simp only [Hs,Hn,or_false] at hn
  rcases hn with rfl | rfl | rfl <;> omega
theorem JcI (t:KD) (w:Bs):Ja3 (Yw t w).1:=by
 unfold Yw
 split
 · exact WK
 ·
  have q:=JlN (Jt t.setup t.deeds).2.1 0 _ EvI.start
  have q2:=ev_len t.setup t.deeds
  refine Jc3 (by rw [Jo2,q.1];omega) fun n hn=>?_
  have:=q.2 n hn
  omega
theorem JeV (t:KD) (w:Bs):Ja3 (YZ t w).1:=by
 unfold YZ
 split
 · exact WK
 ·
  split
  · exact WK
  ·
   rename_i h
   split
   ·
    rename_i o ho
    have q:=K9.1 ((Y4 (Hq.1 h)).2.2.2.2.2.2.1 _ _ ho).1
    have q2:=Zi q.2.1
    refine Jc3 (by simp) ?_
    intro n hn
    simp only [Hs,Hn,or_false] at hn
    rcases hn with rfl | rfl <;> omega
   · exact WK
theorem JeW (t:KD) (w:Bs):Ja3 (Vq t w).1:=by
 unfold Vq
 split
 · exact WK
 ·
  split
  · exact WK
  ·
   refine ⟨by simp,fun x hx=>?_⟩
   rw [List.mem_singleton.1 hx]
   have:=JaP (W8 (Jt t.setup t.deeds).1.clerk.heads)
   exact Jcm _ (by omega)
theorem JjE (t:KD) (w:Bs):Ja3 (ZA t w).1∨∃ v,(ZA t w).1=[[43],v]:=by
 unfold ZA
 split
 · exact .inl WK
 split
 · exact .inl WK
 split
 · exact .inl WK
 split
 · exact .inl WK
 split
 · exact .inl ⟨by simp,by simp⟩
 · exact .inr ⟨_,rfl⟩
theorem Jgg (t:KD) (w:Bs):∀ c,Ja3 (QH c t w).2.1∨∃ v,(QH c t w).2.1=[[43],v]
 | 0 | 1 | 2 | 3 | 4 | 5 | 6=>.inl WK
 | 7=>.inl (Jgf t w)
 | 8=>JjE t w
 | 9=>.inl (JcI t w)
 | 10=>.inl (JeV t w)
 | 11=>.inl (JeW t w)
 | _+12=>.inl WK
theorem Jib:∀ (l:Bs),(∀ x∈l,x.length≤21)→Lib.lens l≤21*l.length
 | [],_=>by simp [Lib.lens]
 | x::l,h=>by
  have h1:=h x (List.mem_cons_self ..)
  have h2:=Jib l fun y hy=>h y (List.mem_cons_of_mem _ hy)
  simp [Lib.lens] at h2 ⊢;omega
theorem Jic (c:Nat) (t:KD) (w:Bs):(QH c t w).2.1.length≤10:=by
 rcases Jgg t w c with h | ⟨v,h⟩
 · exact h.1
 · rw [h];simp
theorem Jcs (c:Nat) (t:KD) (w:Bs) (h:∀ x∈(QH c t w).2.1,x.length≤140737488351232):(Lib.join (([[111,107]]:Bs)++(QH c t w).2.1) [32]).length≤140737488355328:=by
 rw [List.singleton_append,Lib.join_length]
 rcases Jgg t w c with hs | ⟨v,hv⟩
 ·
  have:=Jib _ hs.2
  have h10:=hs.1
  simp [Lib.lens] at this ⊢
  omega
 ·
  have:=h v (by rw [hv];simp)
  rw [hv]
  simp [Lib.lens]
  omega
theorem JdL {G:J4} {a:Ba} {c:Nat} {l:Bs} (h:RS ES G a c l):∀ x∈l,x.length≤140737488351232:=fun x hx=>by
 obtain ⟨k,hk,rfl⟩:=List.mem_iff_getElem.1 hx
 obtain ⟨b,o,rfl⟩:=h.addr hk
 obtain ⟨cs,hc,_⟩:=h.get (List.getElem?_eq_getElem hk)
 exact hc.2
def okW:Bb:=[111,107]
def Ja4 (t:KD) (s:Bb):Int:=if KQ (V4 (JJ s) 0)=12 then 1 else if 0≤Ym (KQ (V4 (JJ s) 0))∧¬ ((JJ s).length:Int)-1=Ym (KQ (V4 (JJ s) 0)) then 3 else (QH (KQ (V4 (JJ s) 0)) t ((JJ s).drop 1)).2.2
theorem dErr12 {t:KD} {s x:Bb} (hx:(JJ s)[0]? = some x) (h:KQ x=12):Ja4 t s=1:=by
 unfold Ja4;rw [← Q0 hx,if_pos h]
theorem dErr3 {t:KD} {s x:Bb} (hx:(JJ s)[0]? = some x) (h:KQ x<12) (h1:0≤Ym (KQ x)) (h2:¬ ((JJ s).length:Int)-1=Ym (KQ x)):Ja4 t s=3:=by
 unfold Ja4;rw [← Q0 hx,if_neg (by omega),if_pos ⟨h1,h2⟩]
theorem Jhk {t:KD} {s x:Bb} (hx:(JJ s)[0]? = some x) (h:KQ x<12) (h1:¬ (0≤Ym (KQ x)∧¬ ((JJ s).length:Int)-1=Ym (KQ x))):Ja4 t s=(QH (KQ x) t ((JJ s).drop 1)).2.2:=by
 unfold Ja4;rw [← Q0 hx,if_neg (by omega),if_neg h1]
abbrev sm (e:Int):Prop:=0≤e∧e≤99
theorem sm_if {p:Prop} [Decidable p] {a b:Int} (ha:sm a) (hb:sm b):sm (if p then a else b):=by split <;> assumption
theorem Jc4 {α:Type} {p:Prop} [Decidable p] {a b:α×Int} (ha:sm a.2) (hb:sm b.2):sm (if p then a else b).2:=by split <;> assumption
theorem sm_ifq {α β:Type} {p:Prop} [Decidable p] {a b:α×β×Int} (ha:sm a.2.2) (hb:sm b.2.2):sm (if p then a else b).2.2:=by split <;> assumption
theorem sm_ifr {α:Type} {p:Prop} [Decidable p] {a b:Int×α} (ha:sm a.1) (hb:sm b.1):sm (if p then a else b).1:=by split <;> assumption
theorem smG {e:Int} (h:sm e:=by repeat' first | assumption | refine sm_if ?_ ?_ | refine Jc4 ?_ ?_ | refine sm_ifq ?_ ?_ | refine sm_ifr ?_ ?_ | (dsimp only [sm];omega)):sm e:=h
theorem sm_tr (n v:Bb):sm (KJ n v):=by unfold KJ;exact smG
theorem Jo5 (l:List Kb):∀ (r:List Kb) (i:Nat),sm (JaA l i r)
 | [],_=>(by decide:sm 0)
 | x::r,i=>by have:=sm_tr x.name x.value;have:=Jo5 l r (i+1);unfold JaA;exact smG
theorem JlO (l:List Kb):sm (Kn l):=by have:=Jo5 l l 0;unfold Kn;exact smG
theorem sm_po (n:Bb):sm (KM n).2:=by unfold KM;exact smG
theorem Jo6 (h:JU):sm (JK h):=by unfold JK;exact smG
theorem sm_ta (l:List Kb) (q:Bb):sm (JY l q).2:=by have:=JlO l;unfold JY;exact smG
theorem sm_pr (p:Q4):sm (QL p):=by have:=JlO p.entries;unfold QL;exact smG
theorem sm_ps (p:Q4):sm (K6 p).2:=by have:=sm_pr p;unfold K6;exact smG
theorem sm_prt (p:Q4):sm (Wh p).2:=by have:=sm_ps p;unfold Wh;exact smG
theorem sm_ph (r:Int) (p:Q4):sm (Zc r p):=by have:=sm_prt p;unfold Zc;exact smG
theorem sm_tf (l:List Kb) (n:Bb):sm (JH l n).2.2:=by have:=JlO l;unfold JH;exact smG
theorem sm_tg (l:List Kb) (n:Bb):sm (YJ l n).2.2:=by have:=sm_tf l n;unfold YJ;exact smG
theorem sm_pt (r:Int) (p:Q4):sm (ZE r p).2.2:=by have:=sm_ph r p;have:=sm_tg p.entries p.name;unfold ZE;exact smG
theorem sm_st (r:Q5):sm (JG r).2.2:=by have:=Jo6 r.head;have:=sm_pt r.head.root r.proof;unfold JG;exact smG
theorem sm_pm (l:List Kb) (n:Bb):sm (Qb l n).2:=by have:=JlO l;have:=sm_po n;unfold Qb;exact smG
theorem sm_qr (a:Zx):sm (KI a):=by unfold KI Wc;exact smG
theorem sm_ar:∀ l:List Zx,sm (ZR l)
 | []=>(by decide:sm 0)
 | a::l=>by have:=sm_qr a;have:=sm_ar l;unfold ZR;exact smG
theorem sm_qc (q:Q2):sm (Km q):=by have:=sm_ar q.wait;unfold Km;exact smG
theorem sm_he:∀ (l:List JU) (i:Nat),sm (Vj l i).1
 | [],_=>(by decide:sm 0)
 | h::l,i=>by have:=Jo6 h;have:=sm_he l (i+1);unfold Vj;exact smG
theorem sm_cc (l:List JU):sm (Ki l).1:=by have:=sm_he l 0;unfold Ki;exact smG
theorem sm_be:∀ (bs:List (List Kb)) (hs:List JU),sm (YG hs bs)
 | [],hs=>by unfold YG;exact (by decide:sm 0)
 | l::bs,hs=>by have:=sm_ta l [];have:=sm_be bs (hs.drop 1);unfold YG;exact smG
theorem sm_cb (c:KT):sm (Kh c):=by
 have:=sm_qc c.queue;have:=sm_cc c.heads;have:sm (QG c):=by
  have:=sm_be c.books c.heads;unfold QG;exact smG
 unfold Kh;exact smG
theorem sm_sl (c:KT) (n:Bb) (e:Int):sm (JL c n e).2:=by
 have:sm (KF c e).2:=by have:=sm_cb c;unfold KF;exact smG
 have:=sm_pm (KF c e).1 n;unfold JL;exact smG
theorem sm_nm:∀ l p:Bs,sm (nmE p l)
 | [],p=>by unfold nmE;exact (by decide:sm 0)
 | n::l,p=>by have:=sm_nm l (p++[n]);unfold nmE;exact smG
theorem JlP (s:Kx) (l:List K4):sm (Jt s l).2.2:=by
 have:sm (JbK s l):=by
  have:sm (QM s):=by
   have:sm (J6 s.most s.batch s.every).2:=by unfold J6;exact smG
   have:sm (KR s.least s.top s.lost).2:=by unfold KR;exact smG
   have:=sm_nm s.names []
   unfold QM;exact smG
  unfold JbK;exact smG
 unfold Jt;exact smG
theorem Jo7 (s:Bb):sm (Ka s).2:=by rcases Jjw s with h | h <;> rw [h] <;> decide
theorem JlQ (l:Bs):sm (KK l).2:=by unfold KK;exact smG
theorem JkP (t:KD) (s:Kx):sm (W6 t s).2:=by have:=JlP s [];unfold W6;exact smG
theorem JkQ (t:KD) (l:List K4):sm (ZG t l).2:=by unfold ZG;exact smG
theorem JjF (t:KD) (w:Bs) (f:List Int→Kx):sm (JeU t w f).2:=by have:=JlQ w;have:=JkP t (f (KK w).1);unfold JeU;exact smG
theorem sm_run (c:Nat) (t:KD) (w:Bs):sm (QH c t w).2.2:=by
 have hp:=JlP t.setup t.deeds;have n0:=Jo7 (V4 w 0);have n1:=Jo7 (V4 w 1);have nn:=JlQ w
 unfold QH
 split <;> dsimp only
 · exact JjF ..
 · exact JjF ..
 · unfold WO;have:=JkP t (JoZ t.setup (Ka (V4 w 0)).1);exact smG
 · unfold Wu;refine Jc4 n1 (JkP ..)
 · unfold Zq;exact Jc4 n0 (JkQ ..)
 · unfold Zr;exact Jc4 nn (JkQ ..)
 · unfold Zs;exact Jc4 n0 (JkQ ..)
 · unfold Jc1;exact smG
 · unfold ZA;have:=sm_sl (Jt t.setup t.deeds).1.clerk (V4 w 0) (Ka (V4 w 1)).1;have:=sm_st (JL (Jt t.setup t.deeds).1.clerk (V4 w 0) (Ka (V4 w 1)).1).1;exact smG
 · unfold Yw;exact smG
 · unfold YZ;refine Jc4 n0 (Jc4 hp ?_);split <;> (dsimp only [sm];omega)
 ·
  unfold Vq;have:sm (Kt (W8 (Jt t.setup t.deeds).1.clerk.heads)).2:=by rw [Ys];exact Jo6 _
  exact smG
 · decide
theorem JbF (t:KD) (s:Bb):-9223372036854775808≤Ja4 t s∧Ja4 t s<9223372036854775808:=by
 have:sm (Ja4 t s):=by have:=sm_run (KQ (V4 (JJ s) 0)) t ((JJ s).drop 1);unfold Ja4;exact smG
 omega
def ZP (t:KD) (s:Bb):KD:=if ¬ Ja4 t s=0 then t else (QH (KQ (V4 (JJ s) 0)) t ((JJ s).drop 1)).1
def JaL (t:KD) (s:Bb):Bb:=if ¬ Ja4 t s=0 then [101,114,114,32]++Lib.itoa (Ja4 t s) else Lib.join (okW::(QH (KQ (V4 (JJ s) 0)) t ((JJ s).drop 1)).2.1) [32]
set_option maxRecDepth 20000 in
theorem do_con (G:J4) (b:Nat) (t:KD) (a_0:Ba) (c_0:Nat) (a_1:Ba) (c_1:Nat) (a_9:Ba) (c_9:Nat) (r_9:Bg) (h_0:RS ES G a_0 c_0 t.setup.names) (h_1:RS EU G a_1 c_1 t.setup.keys) (h_2:rI t.setup.most) (h_3:rI t.setup.batch) (h_4:rI t.setup.every) (h_5:rI t.setup.least) (h_6:rI t.setup.top) (h_7:rI t.setup.lost) (h_8:rI t.setup.reach) (h_9:JX Wl G a_9 c_9 t.deeds r_9) (ht:t.deeds.length≤200) (hn:t.setup.names.length≤1000) (hk:t.setup.keys.length≤1000) (s:Bb) (hls:s.length≤1048576) (hS:dS (KQ (V4 (JJ s) 0))=true) (hsp:∀ x∈JJ s,x.length≤1048576):Ze Tryz.prog 27 #[Pt b 0,Sr s] G [[Sg b 0 [Sl a_0 t.setup.names.length c_0,Sl a_1 t.setup.keys.length c_1,I t.setup.most,I t.setup.batch,I t.setup.every,I t.setup.least,I t.setup.top,I t.setup.lost,I t.setup.reach,Sl a_9 t.deeds.length c_9]],r_9] (fun u G' L'=>u=Sr (JaL t s)∧JkO (ZP t s) G' b L') (fun _ _ _=>False):=by
 intro Lr
 refine JpZ Tryz.func27 35 [(0,Pt b 0),(1,Sr s)] rfl (fun w0 G0 hT=>?_)
 show TC _ _ _ _ _ ([Sg b 0 (J3 t a_0 c_0 a_1 c_1 a_9 c_9)]::r_9::Lr)
 refine Jf (Jd (Jv 4 #[Sr ([])] 9 (fun b1=>Je (Jc (Jf (Jd (Jb [0] [(7,Fv 45 #[Pt b1 0])] (JjX { target:=.fn (.func 45) #[Pt b1 0],args:=#[] } (Je (Jc (Jf (Jd (Jb [0] [(8,Sr s)] (JM 9 (Jl8 G s Kd) (fun v G1 L1 hl1 hp=>?_)))))))))))))))
 obtain ⟨a1,c1,_,rfl,hr1,rfl⟩:=hp
 refine Jb [0] [(5,Sl a1 ((JJ s).length) c1)] (Je (Jc (Jf (Jd (Jb [0] [(10,Sl a1 ((JJ s).length) c1)] (WB (E:=ES) 0 hr1 (by have q_:=Zd s;(try simp only [ES,Hd,He,Hf]);omega) (fun G2 hl2 hs1=>?_)))))))
 obtain ⟨b2,o1,rfl⟩:=RS.addr hs1 (k:=0) (by (have q_:=Vh s;have q2_:=Zd s;omega))
 obtain ⟨x1,hx1⟩:=QQ (l:=JJ s) (k:=0) (by (have q_:=Vh s;have q2_:=Zd s;omega))
 obtain ⟨_,⟨rfl,_⟩,hc1⟩:=RS.get hs1 hx1
 refine JW (b:=b2) (off:=o1) (len:=(JJ s).length) (cap:=c1) (ik:=.i64) 11 9 1 0 (by (have q_:=Vh s;have q2_:=Zd s;omega)) (JO 12 9 (cs:=[Sr x1]) 0 (Sr x1) hc1 (KE (Ls:=[]) (Lr:=([]::[Sg b1 0 [Sr ([])]]::[Sg b 0 (J3 t a_0 c_0 a_1 c_1 a_9 c_9)]::r_9::Lr)) 13 hT ((JoW G2 x1).frame) (fun v G3 L1 hl3 hp=>?_) (fun v G3 L1 hl3 hp=>?_)))
 obtain ⟨hc2,rfl,rfl⟩:=hp
 refine J7 (Jk 1 ?_)
 have hq1:Ja4 t s=1:=by
  exact dErr12 hx1 hc2
 refine Jcq ([Sg b1 0 [Sr ([101,114,114,32]++Lib.itoa 1)]]::([]::[Sg b 0 (J3 t a_0 c_0 a_1 c_1 a_9 c_9)]::r_9::Lr)) [0] [Sr ([101,114,114,32]++Lib.itoa 1)] (fun _=>by kernel_rfl) (fun w hw=>Jcr _ _ _ _ (by rw [← hq1];exact JbF t s) _ _ _ w hT hw) (V9 (KH (Lr:=Lr) [[Sg b 0 (J3 t a_0 c_0 a_1 c_1 a_9 c_9)],r_9] (Ja (Ja hl1 hl2) hl3) ⟨?_,?_⟩))
 rw [JaL,hq1,if_pos (by decide)];rfl
 rw [ZP,hq1,if_pos (by decide)];exact ⟨a_0,c_0,a_1,c_1,a_9,c_9,r_9,h_0.mono (Ja (Ja hl1 hl2) hl3),h_1.mono (Ja (Ja hl1 hl2) hl3),h_2,h_3,h_4,h_5,h_6,h_7,h_8,h_9.mono (Ja (Ja hl1 hl2) hl3),rfl⟩
 obtain ⟨_,rfl,rfl⟩:=hp
 refine Jv 6 #[I 0,.nilFunc] 127 (fun b3=>JT [3] [] ([Sg b3 0 [I (Ym (KQ x1)),Fv (V3 (KQ x1)) #[]]]::[]::[Sg b1 0 [Sr ([])]]::[Sg b 0 (J3 t a_0 c_0 a_1 c_1 a_9 c_9)]::r_9::Lr) (Je (Jc (Jf (Jf (Jd (Jb [0,2,0,0] [(17,Bo (decide (Ym (KQ x1) ≥ 0)))] (QU [17] (decide (Ym (KQ x1) ≥ 0)) (fun h1=>?_) (fun h1=>?_)))))))))
 refine Jb [0,0,0,0,2,0,0] [(24,Bo (!decide (Hk.wrap (((JJ s).length:Int)-1)=Ym (KQ x1))))] ?_
 have e1:Hk.wrap (((JJ s).length:Int)-1)=((JJ s).length:Int)-1:=IntWalk.i64_in _ (by (have q_:=Vh s;have q2_:=Zd s;omega))
 refine KG 24 (Bo (!decide (((JJ s).length:Int)-1=Ym (KQ x1)))) (show (Bo (!decide (Hk.wrap (((JJ s).length:Int)-1)=Ym (KQ x1))):Value)=Bo (!decide (((JJ s).length:Int)-1=Ym (KQ x1))) by simp only [e1]) ?_
 clear e1
 refine Je (Jc (Jm (!decide (((JJ s).length:Int)-1=Ym (KQ x1))) (fun h2=>?_) (fun h2=>?_)))
 refine Jd (KE (Ls:=[]) (Lr:=([Sg b3 0 [I (Ym (KQ x1)),Fv (V3 (KQ x1)) #[]]]::[]::[Sg b1 0 [Sr ([])]]::[Sg b 0 (J3 t a_0 c_0 a_1 c_1 a_9 c_9)]::r_9::Lr)) 25 hT ((ZF G3 3).frame) (fun v G4 L1 hl4 hp=>?_) (fun v G4 L1 hl4 hp=>?_))
 obtain ⟨_,rfl,rfl⟩:=hp
 refine J7 (Jk 2 ?_)
 have hq2:Ja4 t s=3:=by
  exact dErr3 hx1 Kd Kd (by omega)
 refine Jcq ([Sg b1 0 [Sr ([101,114,114,32]++Lib.itoa 3)]]::([Sg b3 0 [I (Ym (KQ x1)),Fv (V3 (KQ x1)) #[]]]::[]::[Sg b 0 (J3 t a_0 c_0 a_1 c_1 a_9 c_9)]::r_9::Lr)) [0] [Sr ([101,114,114,32]++Lib.itoa 3)] (fun _=>by kernel_rfl) (fun w hw=>Jcr _ _ _ _ (by rw [← hq2];exact JbF t s) _ _ _ w hT hw) (V9 (KH (Lr:=Lr) [[Sg b 0 (J3 t a_0 c_0 a_1 c_1 a_9 c_9)],r_9] (Ja (Ja (Ja hl1 hl2) hl3) hl4) ⟨?_,?_⟩))
 rw [JaL,hq2,if_pos (by decide)];rfl
 rw [ZP,hq2,if_pos (by decide)];exact ⟨a_0,c_0,a_1,c_1,a_9,c_9,r_9,h_0.mono (Ja (Ja (Ja hl1 hl2) hl3) hl4),h_1.mono (Ja (Ja (Ja hl1 hl2) hl3) hl4),h_2,h_3,h_4,h_5,h_6,h_7,h_8,h_9.mono (Ja (Ja (Ja hl1 hl2) hl3) hl4),rfl⟩
 obtain ⟨he1,rfl,rfl⟩:=hp
 exact absurd he1 (by decide)
 refine Jq (Jc ?_)
 refine Ya (σ:=Ba×Nat×Ba×Nat×Ba×Nat×Bg×J4) (fun q_=>(J4.le G3 q_.2.2.2.2.2.2.2)∧(RS ES q_.2.2.2.2.2.2.2 q_.1 q_.2.1 (((QH (KQ x1) t ((JJ s).drop 1)).1).setup.names))∧(RS EU q_.2.2.2.2.2.2.2 q_.2.2.1 q_.2.2.2.1 (((QH (KQ x1) t ((JJ s).drop 1)).1).setup.keys))∧(rI (((QH (KQ x1) t ((JJ s).drop 1)).1).setup.most))∧(rI (((QH (KQ x1) t ((JJ s).drop 1)).1).setup.batch))∧(rI (((QH (KQ x1) t ((JJ s).drop 1)).1).setup.every))∧(rI (((QH (KQ x1) t ((JJ s).drop 1)).1).setup.least))∧(rI (((QH (KQ x1) t ((JJ s).drop 1)).1).setup.top))∧(rI (((QH (KQ x1) t ((JJ s).drop 1)).1).setup.lost))∧(rI (((QH (KQ x1) t ((JJ s).drop 1)).1).setup.reach))∧(JX Wl q_.2.2.2.2.2.2.2 q_.2.2.2.2.1 q_.2.2.2.2.2.1 (((QH (KQ x1) t ((JJ s).drop 1)).1).deeds) q_.2.2.2.2.2.2.1)∧((QH (KQ x1) t ((JJ s).drop 1)).2.2=0)) (fun q_=>[(4,Pt b1 0)]) (fun q_=>q_.2.2.2.2.2.2.2) (fun q_=>([Sg b 0 (J3 (QH (KQ x1) t ((JJ s).drop 1)).1 q_.1 q_.2.1 q_.2.2.1 q_.2.2.2.1 q_.2.2.2.2.1 q_.2.2.2.2.2.1)]::q_.2.2.2.2.2.2.1::[]::[Sg b3 0 [I (Ym (KQ x1)),Fv (V3 (KQ x1)) #[]]]::[]::[Sg b1 0 [Sr (Lib.join (([[111,107]]:Bs)++((QH (KQ x1) t ((JJ s).drop 1)).2.1)) [32])]]::Lr)) ?_ (fun q_ hs=>?_)
 obtain ⟨a2,c2,ea1,ec1,en1,eh1,hs2⟩:=RS.reslXD (hs1.mono hl3) 1 (by omega)
 refine Kv [0,6,7,8,9] (Ws [(1,Pt b3 1),(2,Fv (V3 (KQ x1)) #[]),(3,Pt b 0),(4,Sl (At b2 o1) ((JJ s).length) c1),(5,Sl a2 (((JJ s).drop 1).length) c2)] (JF [] [(1,0),(2,2),(3,0),(4,0)] [5] [0,6] (Kf ?_ KY) (Kf ?_ (Kf ?_ KY))))
 refine Jr 5 31 (Sl a2 (((JJ s).drop 1).length) c2) [(30,Sl (At b2 o1) ((JJ s).length) c1)] (fun X=>?_)
 exact Wx (a:=At b2 o1) (len:=(JJ s).length) (cap:=c1) 31 1 (some (I 1)) none 1 ((JJ s).length) (.inr ⟨_,rfl⟩) (.inl ⟨rfl,rfl⟩) Kd ea1 ec1 en1 eh1 Jp
 refine Jz 0 [] (fun X=>?_)
 refine Kq 26 1 #[Sr ([111,107])] 9 (fun b4=>JA [(0,Sl (At b4 0) 1 1)] (JF [] [(1,0),(2,4),(3,0),(4,0)] [5] [6] (Kf ?_ KY) (Kf ?_ KY)))
 refine Jr 5 31 (Sl a2 (((JJ s).drop 1).length) c2) [(30,Sl (At b2 o1) ((JJ s).length) c1)] (fun X=>?_)
 exact Wx (a:=At b2 o1) (len:=(JJ s).length) (cap:=c1) 31 1 (some (I 1)) none 1 ((JJ s).length) (.inr ⟨_,rfl⟩) (.inl ⟨rfl,rfl⟩) Kd ea1 ec1 en1 eh1 Jp
 refine Jz 6 [(4,Pt b1 0),(28,Fv (V3 (KQ x1)) #[]),(29,Pt b 0),(31,Sl a2 (((JJ s).drop 1).length) c2)] (fun X=>?_)
 refine Jw 5 (Jw 5 ?_)
 have hB_:JkO t G3 b [[Sg b 0 (J3 t a_0 c_0 a_1 c_1 a_9 c_9)],r_9]:=⟨a_0,c_0,a_1,c_1,a_9,c_9,r_9,h_0.mono (Ja (Ja hl1 hl2) hl3),h_1.mono (Ja (Ja hl1 hl2) hl3),h_2,h_3,h_4,h_5,h_6,h_7,h_8,h_9.mono (Ja (Ja hl1 hl2) hl3),rfl⟩
 refine JaV (Ls:=[[Sg b 0 (J3 t a_0 c_0 a_1 c_1 a_9 c_9)],r_9]) (Lr:=([Sg b4 0 [Sr ([111,107])]]::[Sg b3 0 [I (Ym (KQ x1)),Fv (V3 (KQ x1)) #[]]]::[]::[Sg b1 0 [Sr ([])]]::Lr)) 32 (Jia _ Kd) hT (Jfk (KQ x1) Kd (by rw [Q0 hx1];exact hS) G3 b t _ hB_ ht hn hk a2 c2 ((JJ s).drop 1) hs2 (by intro hq_;rw [Hl];simp_all;omega) (by rw [Hl];have q2_:=Zd s;omega) (fun z_ hz_=>hsp z_ (Hm hz_))) (fun v G5 L1 hl5 hp=>?_) (fun v G5 L1 hl5 hp=>?_)
 obtain ⟨hne2,rfl,rfl⟩:=hp
 refine J7 (J7 (Jk 5 ?_))
 have hq3:Ja4 t s=(QH (KQ x1) t ((JJ s).drop 1)).2.2:=by
  exact Jhk hx1 Kd (by omega)
 refine Jcq ([Sg b1 0 [Sr ([101,114,114,32]++Lib.itoa ((QH (KQ x1) t ((JJ s).drop 1)).2.2))]]::([Sg b 0 (J3 t a_0 c_0 a_1 c_1 a_9 c_9)]::r_9::[Sg b4 0 [Sr ([111,107])]]::[Sg b3 0 [I (Ym (KQ x1)),Fv (V3 (KQ x1)) #[]]]::[]::Lr)) [0] [Sr ([101,114,114,32]++Lib.itoa ((QH (KQ x1) t ((JJ s).drop 1)).2.2))] (fun _=>by kernel_rfl) (fun w hw=>Jcr _ _ _ _ (by rw [← hq3];exact JbF t s) _ _ _ w hT hw) (V9 (KH (Lr:=Lr) [[Sg b 0 (J3 t a_0 c_0 a_1 c_1 a_9 c_9)],r_9] (Ja (Ja (Ja hl1 hl2) hl3) hl5) ⟨?_,?_⟩))
 rw [JaL,hq3,if_pos hne2];rfl
 rw [ZP,hq3,if_pos hne2];exact ⟨a_0,c_0,a_1,c_1,a_9,c_9,r_9,h_0.mono (Ja (Ja (Ja hl1 hl2) hl3) hl5),h_1.mono (Ja (Ja (Ja hl1 hl2) hl3) hl5),h_2,h_3,h_4,h_5,h_6,h_7,h_8,h_9.mono (Ja (Ja (Ja hl1 hl2) hl3) hl5),rfl⟩
 obtain ⟨he3,a4,c4,rfl,hs4,hB1⟩:=hp
 have dn_:=Jic (KQ x1) t ((JJ s).drop 1)
 obtain ⟨a5,c5,a6,c6,a7,c7,r2,hs5,hs6,w2,w3,w4,w5,w6,w7,w8,hr2,rfl⟩:=hB1
 refine JA [(6,Sl a4 ((QH (KQ x1) t ((JJ s).drop 1)).2.1.length) c4)] (JF [1,2,3,4,5] [] [] [7] (Hb _) (Kf ?_ KY))
 refine Jz 7 [(26,Sl (At b4 0) 1 1),(32,Sl a4 ((QH (KQ x1) t ((JJ s).drop 1)).2.1.length) c4)] (fun X=>?_)
 refine Jbc 33 9 2 (E:=ES) (JX.of_lit (E:=ES) (G:=G5) (b:=b4) [[Sr ([111,107])]] [[111,107]] ⟨⟨rfl,(Hc rfl)⟩,trivial⟩ (by simp)) hs4 (by have:=hs4.fit;simp only [ES] at this;(try simp only [Hd,He,Hf]);omega) (by have:=hs4.fit;simp only [ES] at this;(try simp only [ES,Hd,He,Hf]);omega) (fun a8 c8 r3 hr3=>JA [(7,Sl a8 ((([[111,107]]:Bs)++((QH (KQ x1) t ((JJ s).drop 1)).2.1)).length) c8)] (JF [1,2,3,4,5] [] [] [8] (Hb _) (Kf ?_ KY)))
 refine Jz 8 [(33,Sl a8 ((([[111,107]]:Bs)++((QH (KQ x1) t ((JJ s).drop 1)).2.1)).length) c8)] (fun X=>?_)
 refine WB (E:=ES) 2 hr3 (by have q_:=Zd s;(try simp only [ES,Hd,He,Hf]);omega) (fun G6 hl6 hs7=>?_)
 obtain ⟨b5,o2,rfl⟩:=RS.addr hs7 (k:=0) (by simp)
 refine Jl 34 (Sr (Lib.join (([[111,107]]:Bs)++((QH (KQ x1) t ((JJ s).drop 1)).2.1)) [32])) (Jdi G6 b5 o2 c8 (([[111,107]]:Bs)++((QH (KQ x1) t ((JJ s).drop 1)).2.1)) [32] hs7 (by simp) (by simp only [Hd,He,Hf];omega) (Jcs _ _ _ (JdL hs4))) (JA [(8,Sr (Lib.join (([[111,107]]:Bs)++((QH (KQ x1) t ((JJ s).drop 1)).2.1)) [32]))] (JF [1,2,3,4,5] [] [] [9] (Hb _) (Kf ?_ KY)))
 refine Jz 9 [(4,Pt b1 0),(34,Sr (Lib.join (([[111,107]]:Bs)++((QH (KQ x1) t ((JJ s).drop 1)).2.1)) [32]))] (fun X=>?_)
 exact KA 5 ([Sg b 0 (J3 (QH (KQ x1) t ((JJ s).drop 1)).1 a5 c5 a6 c6 a7 c7)]::r2::[]::[Sg b3 0 [I (Ym (KQ x1)),Fv (V3 (KQ x1)) #[]]]::[]::[Sg b1 0 [Sr (Lib.join (([[111,107]]:Bs)++((QH (KQ x1) t ((JJ s).drop 1)).2.1)) [32])]]::Lr) (J5 [] (Ko [1,2,3,4,5] [] [] [(4,Pt b1 0)] (Hb _) (QS (a5,c5,a6,c6,a7,c7,r2,G6) ⟨(Ja hl5 hl6),(hs5.mono hl6),(hs6.mono hl6),w2,w3,w4,w5,w6,w7,w8,(hr2.mono hl6),he3⟩)))
 refine Jz 6 [(4,Pt b1 0),(28,Fv (V3 (KQ x1)) #[]),(29,Pt b 0),(31,Sl a2 (((JJ s).drop 1).length) c2)] (fun X=>?_)
 refine Jw 4 (Jw 4 ?_)
 have hB_:JkO t G3 b [[Sg b 0 (J3 t a_0 c_0 a_1 c_1 a_9 c_9)],r_9]:=⟨a_0,c_0,a_1,c_1,a_9,c_9,r_9,h_0.mono (Ja (Ja hl1 hl2) hl3),h_1.mono (Ja (Ja hl1 hl2) hl3),h_2,h_3,h_4,h_5,h_6,h_7,h_8,h_9.mono (Ja (Ja hl1 hl2) hl3),rfl⟩
 refine JaV (Ls:=[[Sg b 0 (J3 t a_0 c_0 a_1 c_1 a_9 c_9)],r_9]) (Lr:=([Sg b3 0 [I (Ym (KQ x1)),Fv (V3 (KQ x1)) #[]]]::[]::[Sg b1 0 [Sr ([])]]::Lr)) 32 (Jia _ Kd) hT (Jfk (KQ x1) Kd (by rw [Q0 hx1];exact hS) G3 b t _ hB_ ht hn hk a2 c2 ((JJ s).drop 1) hs2 (by intro hq_;rw [Hl];simp_all;omega) (by rw [Hl];have q2_:=Zd s;omega) (fun z_ hz_=>hsp z_ (Hm hz_))) (fun v G7 L1 hl7 hp=>?_) (fun v G7 L1 hl7 hp=>?_)
 obtain ⟨hne3,rfl,rfl⟩:=hp
 refine J7 (J7 (Jk 4 ?_))
 have hq4:Ja4 t s=(QH (KQ x1) t ((JJ s).drop 1)).2.2:=by
  exact Jhk hx1 Kd (by omega)
 refine Jcq ([Sg b1 0 [Sr ([101,114,114,32]++Lib.itoa ((QH (KQ x1) t ((JJ s).drop 1)).2.2))]]::([Sg b 0 (J3 t a_0 c_0 a_1 c_1 a_9 c_9)]::r_9::[Sg b3 0 [I (Ym (KQ x1)),Fv (V3 (KQ x1)) #[]]]::[]::Lr)) [0] [Sr ([101,114,114,32]++Lib.itoa ((QH (KQ x1) t ((JJ s).drop 1)).2.2))] (fun _=>by kernel_rfl) (fun w hw=>Jcr _ _ _ _ (by rw [← hq4];exact JbF t s) _ _ _ w hT hw) (V9 (KH (Lr:=Lr) [[Sg b 0 (J3 t a_0 c_0 a_1 c_1 a_9 c_9)],r_9] (Ja (Ja (Ja hl1 hl2) hl3) hl7) ⟨?_,?_⟩))
 rw [JaL,hq4,if_pos hne3];rfl
 rw [ZP,hq4,if_pos hne3];exact ⟨a_0,c_0,a_1,c_1,a_9,c_9,r_9,h_0.mono (Ja (Ja (Ja hl1 hl2) hl3) hl7),h_1.mono (Ja (Ja (Ja hl1 hl2) hl3) hl7),h_2,h_3,h_4,h_5,h_6,h_7,h_8,h_9.mono (Ja (Ja (Ja hl1 hl2) hl3) hl7),rfl⟩
 obtain ⟨he4,a9,c9,rfl,hs8,hB2⟩:=hp
 have dn_:=Jic (KQ x1) t ((JJ s).drop 1)
 obtain ⟨a10,c10,a11,c11,a12,c12,r4,hs9,hs10,w9,w10,w11,w12,w13,w14,w15,hr4,rfl⟩:=hB2
 refine JA [(6,Sl a9 ((QH (KQ x1) t ((JJ s).drop 1)).2.1.length) c9)] (JF [1,2,3,4,5] [] [] [0] (Hb _) (Kf ?_ KY))
 refine Jz 0 [] (fun X=>?_)
 refine Kq 26 1 #[Sr ([111,107])] 9 (fun b6=>JA [(0,Sl (At b6 0) 1 1)] (JF [1,2,3,4,5] [] [] [7] (Hb _) (Kf ?_ KY)))
 refine Jz 7 [(26,Sl (At b6 0) 1 1),(32,Sl a9 ((QH (KQ x1) t ((JJ s).drop 1)).2.1.length) c9)] (fun X=>?_)
 refine Jbc 33 9 0 (E:=ES) (JX.of_lit (E:=ES) (G:=G7) (b:=b6) [[Sr ([111,107])]] [[111,107]] ⟨⟨rfl,(Hc rfl)⟩,trivial⟩ (by simp)) hs8 (by have:=hs8.fit;simp only [ES] at this;(try simp only [Hd,He,Hf]);omega) (by have:=hs8.fit;simp only [ES] at this;(try simp only [ES,Hd,He,Hf]);omega) (fun a13 c13 r5 hr5=>JA [(7,Sl a13 ((([[111,107]]:Bs)++((QH (KQ x1) t ((JJ s).drop 1)).2.1)).length) c13)] (JF [1,2,3,4,5] [] [] [8] (Hb _) (Kf ?_ KY)))
 refine Jz 8 [(33,Sl a13 ((([[111,107]]:Bs)++((QH (KQ x1) t ((JJ s).drop 1)).2.1)).length) c13)] (fun X=>?_)
 refine WB (E:=ES) 0 hr5 (by have q_:=Zd s;(try simp only [ES,Hd,He,Hf]);omega) (fun G8 hl8 hs11=>?_)
 obtain ⟨b7,o3,rfl⟩:=RS.addr hs11 (k:=0) (by simp)
 refine Jl 34 (Sr (Lib.join (([[111,107]]:Bs)++((QH (KQ x1) t ((JJ s).drop 1)).2.1)) [32])) (Jdi G8 b7 o3 c13 (([[111,107]]:Bs)++((QH (KQ x1) t ((JJ s).drop 1)).2.1)) [32] hs11 (by simp) (by simp only [Hd,He,Hf];omega) (Jcs _ _ _ (JdL hs8))) (JA [(8,Sr (Lib.join (([[111,107]]:Bs)++((QH (KQ x1) t ((JJ s).drop 1)).2.1)) [32]))] (JF [1,2,3,4,5] [] [] [9] (Hb _) (Kf ?_ KY)))
 refine Jz 9 [(4,Pt b1 0),(34,Sr (Lib.join (([[111,107]]:Bs)++((QH (KQ x1) t ((JJ s).drop 1)).2.1)) [32]))] (fun X=>?_)
 exact KA 5 ([]::[Sg b 0 (J3 (QH (KQ x1) t ((JJ s).drop 1)).1 a10 c10 a11 c11 a12 c12)]::r4::[Sg b3 0 [I (Ym (KQ x1)),Fv (V3 (KQ x1)) #[]]]::[]::[Sg b1 0 [Sr (Lib.join (([[111,107]]:Bs)++((QH (KQ x1) t ((JJ s).drop 1)).2.1)) [32])]]::Lr) (J5 [] (Ko [1,2,3,4,5] [] [] [(4,Pt b1 0)] (Hb _) (Jk 5 (Jk 5 (Jk 5 (Jk 3 (Jk 5 (Jk 5 (QS (a10,c10,a11,c11,a12,c12,r4,G8) ⟨(Ja hl7 hl8),(hs9.mono hl8),(hs10.mono hl8),w9,w10,w11,w12,w13,w14,w15,(hr4.mono hl8),he4⟩)))))))))
 obtain ⟨a5,c5,a6,c6,a7,c7,r2,G6⟩:=q_
 obtain ⟨hle1,hj1,hj2,hj3,hj4,hj5,hj6,hj7,hj8,hj9,hj10,he2⟩:=hs
 dsimp only at hle1 hj1 hj2 hj3 hj4 hj5 hj6 hj7 hj8 hj9 hj10 he2
 dsimp only
 refine Jn (Jk 1 (Jk 1 (Jk 5 ?_)))
 have hq5:Ja4 t s=0:=(Jhk hx1 (by omega) (by omega)).trans he2
 refine JlL [0] [Sr (Lib.join (([[111,107]]:Bs)++((QH (KQ x1) t ((JJ s).drop 1)).2.1)) [32])] (fun _=>by kernel_rfl) (fun w hw=>JlM _ b1 _ _ _ w hw) (V9 (KH (Lr:=Lr) [[Sg b 0 (J3 (QH (KQ x1) t ((JJ s).drop 1)).1 a5 c5 a6 c6 a7 c7)],r2] (Ja (Ja (Ja hl1 hl2) hl3) hle1) ⟨?_,?_⟩))
 rw [JaL,hq5,if_neg (by simp),Q0 hx1];rfl
 rw [ZP,hq5,if_neg (by simp),← Q0 hx1];exact ⟨a5,c5,a6,c6,a7,c7,r2,hj1,hj2,hj3,hj4,hj5,hj6,hj7,hj8,hj9,hj10,rfl⟩
 refine Jb [1,1,1,1,1,1,0] [(24,Bo false)] (Je (Jc (Qp (Jq (Jc ?_)))))
 refine Ya (σ:=Ba×Nat×Ba×Nat×Ba×Nat×Bg×J4) (fun q_=>(J4.le G3 q_.2.2.2.2.2.2.2)∧(RS ES q_.2.2.2.2.2.2.2 q_.1 q_.2.1 (((QH (KQ x1) t ((JJ s).drop 1)).1).setup.names))∧(RS EU q_.2.2.2.2.2.2.2 q_.2.2.1 q_.2.2.2.1 (((QH (KQ x1) t ((JJ s).drop 1)).1).setup.keys))∧(rI (((QH (KQ x1) t ((JJ s).drop 1)).1).setup.most))∧(rI (((QH (KQ x1) t ((JJ s).drop 1)).1).setup.batch))∧(rI (((QH (KQ x1) t ((JJ s).drop 1)).1).setup.every))∧(rI (((QH (KQ x1) t ((JJ s).drop 1)).1).setup.least))∧(rI (((QH (KQ x1) t ((JJ s).drop 1)).1).setup.top))∧(rI (((QH (KQ x1) t ((JJ s).drop 1)).1).setup.lost))∧(rI (((QH (KQ x1) t ((JJ s).drop 1)).1).setup.reach))∧(JX Wl q_.2.2.2.2.2.2.2 q_.2.2.2.2.1 q_.2.2.2.2.2.1 (((QH (KQ x1) t ((JJ s).drop 1)).1).deeds) q_.2.2.2.2.2.2.1)∧((QH (KQ x1) t ((JJ s).drop 1)).2.2=0)) (fun q_=>[(4,Pt b1 0)]) (fun q_=>q_.2.2.2.2.2.2.2) (fun q_=>([Sg b 0 (J3 (QH (KQ x1) t ((JJ s).drop 1)).1 q_.1 q_.2.1 q_.2.2.1 q_.2.2.2.1 q_.2.2.2.2.1 q_.2.2.2.2.2.1)]::q_.2.2.2.2.2.2.1::[]::[Sg b3 0 [I (Ym (KQ x1)),Fv (V3 (KQ x1)) #[]]]::[]::[Sg b1 0 [Sr (Lib.join (([[111,107]]:Bs)++((QH (KQ x1) t ((JJ s).drop 1)).2.1)) [32])]]::Lr)) ?_ (fun q_ hs=>?_)
 obtain ⟨a14,c14,ea3,ec3,en3,eh3,hs12⟩:=RS.reslXD (hs1.mono hl3) 1 (by (have q_:=Vh s;have q2_:=Zd s;omega))
 refine Kv [0,6,7,8,9] (Ws [(1,Pt b3 1),(2,Fv (V3 (KQ x1)) #[]),(3,Pt b 0),(4,Sl (At b2 o1) ((JJ s).length) c1),(5,Sl a14 (((JJ s).drop 1).length) c14)] (JF [] [(1,0),(2,2),(3,0),(4,0)] [5] [0,6] (Kf ?_ KY) (Kf ?_ (Kf ?_ KY))))
 refine Jr 5 31 (Sl a14 (((JJ s).drop 1).length) c14) [(30,Sl (At b2 o1) ((JJ s).length) c1)] (fun X=>?_)
 exact Wx (a:=At b2 o1) (len:=(JJ s).length) (cap:=c1) 31 1 (some (I 1)) none 1 ((JJ s).length) (.inr ⟨_,rfl⟩) (.inl ⟨rfl,rfl⟩) (by (have q_:=Vh s;have q2_:=Zd s;omega)) ea3 ec3 en3 eh3 Jp
 refine Jz 0 [] (fun X=>?_)
 refine Kq 26 1 #[Sr ([111,107])] 9 (fun b8=>JA [(0,Sl (At b8 0) 1 1)] (JF [] [(1,0),(2,4),(3,0),(4,0)] [5] [6] (Kf ?_ KY) (Kf ?_ KY)))
 refine Jr 5 31 (Sl a14 (((JJ s).drop 1).length) c14) [(30,Sl (At b2 o1) ((JJ s).length) c1)] (fun X=>?_)
 exact Wx (a:=At b2 o1) (len:=(JJ s).length) (cap:=c1) 31 1 (some (I 1)) none 1 ((JJ s).length) (.inr ⟨_,rfl⟩) (.inl ⟨rfl,rfl⟩) (by (have q_:=Vh s;have q2_:=Zd s;omega)) ea3 ec3 en3 eh3 Jp
 refine Jz 6 [(4,Pt b1 0),(28,Fv (V3 (KQ x1)) #[]),(29,Pt b 0),(31,Sl a14 (((JJ s).drop 1).length) c14)] (fun X=>?_)
 refine Jw 5 (Jw 5 ?_)
 have hB_:JkO t G3 b [[Sg b 0 (J3 t a_0 c_0 a_1 c_1 a_9 c_9)],r_9]:=⟨a_0,c_0,a_1,c_1,a_9,c_9,r_9,h_0.mono (Ja (Ja hl1 hl2) hl3),h_1.mono (Ja (Ja hl1 hl2) hl3),h_2,h_3,h_4,h_5,h_6,h_7,h_8,h_9.mono (Ja (Ja hl1 hl2) hl3),rfl⟩
 refine JaV (Ls:=[[Sg b 0 (J3 t a_0 c_0 a_1 c_1 a_9 c_9)],r_9]) (Lr:=([Sg b8 0 [Sr ([111,107])]]::[Sg b3 0 [I (Ym (KQ x1)),Fv (V3 (KQ x1)) #[]]]::[]::[Sg b1 0 [Sr ([])]]::Lr)) 32 (Jia _ Kd) hT (Jfk (KQ x1) Kd (by rw [Q0 hx1];exact hS) G3 b t _ hB_ ht hn hk a14 c14 ((JJ s).drop 1) hs12 (by intro hq_;rw [Hl];simp_all;omega) (by rw [Hl];have q2_:=Zd s;omega) (fun z_ hz_=>hsp z_ (Hm hz_))) (fun v G9 L1 hl9 hp=>?_) (fun v G9 L1 hl9 hp=>?_)
 obtain ⟨hne4,rfl,rfl⟩:=hp
 refine J7 (J7 (Jk 5 ?_))
 have hq6:Ja4 t s=(QH (KQ x1) t ((JJ s).drop 1)).2.2:=by
  exact Jhk hx1 Kd (by omega)
 refine Jcq ([Sg b1 0 [Sr ([101,114,114,32]++Lib.itoa ((QH (KQ x1) t ((JJ s).drop 1)).2.2))]]::([Sg b 0 (J3 t a_0 c_0 a_1 c_1 a_9 c_9)]::r_9::[Sg b8 0 [Sr ([111,107])]]::[Sg b3 0 [I (Ym (KQ x1)),Fv (V3 (KQ x1)) #[]]]::[]::Lr)) [0] [Sr ([101,114,114,32]++Lib.itoa ((QH (KQ x1) t ((JJ s).drop 1)).2.2))] (fun _=>by kernel_rfl) (fun w hw=>Jcr _ _ _ _ (by rw [← hq6];exact JbF t s) _ _ _ w hT hw) (V9 (KH (Lr:=Lr) [[Sg b 0 (J3 t a_0 c_0 a_1 c_1 a_9 c_9)],r_9] (Ja (Ja (Ja hl1 hl2) hl3) hl9) ⟨?_,?_⟩))
 rw [JaL,hq6,if_pos hne4];rfl
 rw [ZP,hq6,if_pos hne4];exact ⟨a_0,c_0,a_1,c_1,a_9,c_9,r_9,h_0.mono (Ja (Ja (Ja hl1 hl2) hl3) hl9),h_1.mono (Ja (Ja (Ja hl1 hl2) hl3) hl9),h_2,h_3,h_4,h_5,h_6,h_7,h_8,h_9.mono (Ja (Ja (Ja hl1 hl2) hl3) hl9),rfl⟩
 obtain ⟨he6,a16,c16,rfl,hs14,hB3⟩:=hp
 have dn_:=Jic (KQ x1) t ((JJ s).drop 1)
 obtain ⟨a17,c17,a18,c18,a19,c19,r6,hs15,hs16,w16,w17,w18,w19,w20,w21,w22,hr6,rfl⟩:=hB3
 refine JA [(6,Sl a16 ((QH (KQ x1) t ((JJ s).drop 1)).2.1.length) c16)] (JF [1,2,3,4,5] [] [] [7] (Hb _) (Kf ?_ KY))
 refine Jz 7 [(26,Sl (At b8 0) 1 1),(32,Sl a16 ((QH (KQ x1) t ((JJ s).drop 1)).2.1.length) c16)] (fun X=>?_)
 refine Jbc 33 9 2 (E:=ES) (JX.of_lit (E:=ES) (G:=G9) (b:=b8) [[Sr ([111,107])]] [[111,107]] ⟨⟨rfl,(Hc rfl)⟩,trivial⟩ (by simp)) hs14 (by have:=hs14.fit;simp only [ES] at this;(try simp only [Hd,He,Hf]);omega) (by have:=hs14.fit;simp only [ES] at this;(try simp only [ES,Hd,He,Hf]);omega) (fun a20 c20 r7 hr7=>JA [(7,Sl a20 ((([[111,107]]:Bs)++((QH (KQ x1) t ((JJ s).drop 1)).2.1)).length) c20)] (JF [1,2,3,4,5] [] [] [8] (Hb _) (Kf ?_ KY)))
 refine Jz 8 [(33,Sl a20 ((([[111,107]]:Bs)++((QH (KQ x1) t ((JJ s).drop 1)).2.1)).length) c20)] (fun X=>?_)
 refine WB (E:=ES) 2 hr7 (by have q_:=Zd s;(try simp only [ES,Hd,He,Hf]);omega) (fun G10 hl10 hs17=>?_)
 obtain ⟨b9,o4,rfl⟩:=RS.addr hs17 (k:=0) (by simp)
 refine Jl 34 (Sr (Lib.join (([[111,107]]:Bs)++((QH (KQ x1) t ((JJ s).drop 1)).2.1)) [32])) (Jdi G10 b9 o4 c20 (([[111,107]]:Bs)++((QH (KQ x1) t ((JJ s).drop 1)).2.1)) [32] hs17 (by simp) (by simp only [Hd,He,Hf];omega) (Jcs _ _ _ (JdL hs14))) (JA [(8,Sr (Lib.join (([[111,107]]:Bs)++((QH (KQ x1) t ((JJ s).drop 1)).2.1)) [32]))] (JF [1,2,3,4,5] [] [] [9] (Hb _) (Kf ?_ KY)))
 refine Jz 9 [(4,Pt b1 0),(34,Sr (Lib.join (([[111,107]]:Bs)++((QH (KQ x1) t ((JJ s).drop 1)).2.1)) [32]))] (fun X=>?_)
 exact KA 5 ([Sg b 0 (J3 (QH (KQ x1) t ((JJ s).drop 1)).1 a17 c17 a18 c18 a19 c19)]::r6::[]::[Sg b3 0 [I (Ym (KQ x1)),Fv (V3 (KQ x1)) #[]]]::[]::[Sg b1 0 [Sr (Lib.join (([[111,107]]:Bs)++((QH (KQ x1) t ((JJ s).drop 1)).2.1)) [32])]]::Lr) (J5 [] (Ko [1,2,3,4,5] [] [] [(4,Pt b1 0)] (Hb _) (QS (a17,c17,a18,c18,a19,c19,r6,G10) ⟨(Ja hl9 hl10),(hs15.mono hl10),(hs16.mono hl10),w16,w17,w18,w19,w20,w21,w22,(hr6.mono hl10),he6⟩)))
 refine Jz 6 [(4,Pt b1 0),(28,Fv (V3 (KQ x1)) #[]),(29,Pt b 0),(31,Sl a14 (((JJ s).drop 1).length) c14)] (fun X=>?_)
 refine Jw 4 (Jw 4 ?_)
 have hB_:JkO t G3 b [[Sg b 0 (J3 t a_0 c_0 a_1 c_1 a_9 c_9)],r_9]:=⟨a_0,c_0,a_1,c_1,a_9,c_9,r_9,h_0.mono (Ja (Ja hl1 hl2) hl3),h_1.mono (Ja (Ja hl1 hl2) hl3),h_2,h_3,h_4,h_5,h_6,h_7,h_8,h_9.mono (Ja (Ja hl1 hl2) hl3),rfl⟩
 refine JaV (Ls:=[[Sg b 0 (J3 t a_0 c_0 a_1 c_1 a_9 c_9)],r_9]) (Lr:=([Sg b3 0 [I (Ym (KQ x1)),Fv (V3 (KQ x1)) #[]]]::[]::[Sg b1 0 [Sr ([])]]::Lr)) 32 (Jia _ Kd) hT (Jfk (KQ x1) Kd (by rw [Q0 hx1];exact hS) G3 b t _ hB_ ht hn hk a14 c14 ((JJ s).drop 1) hs12 (by intro hq_;rw [Hl];simp_all;omega) (by rw [Hl];have q2_:=Zd s;omega) (fun z_ hz_=>hsp z_ (Hm hz_))) (fun v G11 L1 hl11 hp=>?_) (fun v G11 L1 hl11 hp=>?_)
 obtain ⟨hne5,rfl,rfl⟩:=hp
 refine J7 (J7 (Jk 4 ?_))
 have hq7:Ja4 t s=(QH (KQ x1) t ((JJ s).drop 1)).2.2:=by
  exact Jhk hx1 Kd (by omega)
 refine Jcq ([Sg b1 0 [Sr ([101,114,114,32]++Lib.itoa ((QH (KQ x1) t ((JJ s).drop 1)).2.2))]]::([Sg b 0 (J3 t a_0 c_0 a_1 c_1 a_9 c_9)]::r_9::[Sg b3 0 [I (Ym (KQ x1)),Fv (V3 (KQ x1)) #[]]]::[]::Lr)) [0] [Sr ([101,114,114,32]++Lib.itoa ((QH (KQ x1) t ((JJ s).drop 1)).2.2))] (fun _=>by kernel_rfl) (fun w hw=>Jcr _ _ _ _ (by rw [← hq7];exact JbF t s) _ _ _ w hT hw) (V9 (KH (Lr:=Lr) [[Sg b 0 (J3 t a_0 c_0 a_1 c_1 a_9 c_9)],r_9] (Ja (Ja (Ja hl1 hl2) hl3) hl11) ⟨?_,?_⟩))
 rw [JaL,hq7,if_pos hne5];rfl
 rw [ZP,hq7,if_pos hne5];exact ⟨a_0,c_0,a_1,c_1,a_9,c_9,r_9,h_0.mono (Ja (Ja (Ja hl1 hl2) hl3) hl11),h_1.mono (Ja (Ja (Ja hl1 hl2) hl3) hl11),h_2,h_3,h_4,h_5,h_6,h_7,h_8,h_9.mono (Ja (Ja (Ja hl1 hl2) hl3) hl11),rfl⟩
 obtain ⟨he7,a21,c21,rfl,hs18,hB4⟩:=hp
 have dn_:=Jic (KQ x1) t ((JJ s).drop 1)
 obtain ⟨a22,c22,a23,c23,a24,c24,r8,hs19,hs20,w23,w24,w25,w26,w27,w28,w29,hr8,rfl⟩:=hB4
 refine JA [(6,Sl a21 ((QH (KQ x1) t ((JJ s).drop 1)).2.1.length) c21)] (JF [1,2,3,4,5] [] [] [0] (Hb _) (Kf ?_ KY))
 refine Jz 0 [] (fun X=>?_)
 refine Kq 26 1 #[Sr ([111,107])] 9 (fun b10=>JA [(0,Sl (At b10 0) 1 1)] (JF [1,2,3,4,5] [] [] [7] (Hb _) (Kf ?_ KY)))
 refine Jz 7 [(26,Sl (At b10 0) 1 1),(32,Sl a21 ((QH (KQ x1) t ((JJ s).drop 1)).2.1.length) c21)] (fun X=>?_)
 refine Jbc 33 9 0 (E:=ES) (JX.of_lit (E:=ES) (G:=G11) (b:=b10) [[Sr ([111,107])]] [[111,107]] ⟨⟨rfl,(Hc rfl)⟩,trivial⟩ (by simp)) hs18 (by have:=hs18.fit;simp only [ES] at this;(try simp only [Hd,He,Hf]);omega) (by have:=hs18.fit;simp only [ES] at this;(try simp only [ES,Hd,He,Hf]);omega) (fun a25 c25 r9 hr9=>JA [(7,Sl a25 ((([[111,107]]:Bs)++((QH (KQ x1) t ((JJ s).drop 1)).2.1)).length) c25)] (JF [1,2,3,4,5] [] [] [8] (Hb _) (Kf ?_ KY)))
 refine Jz 8 [(33,Sl a25 ((([[111,107]]:Bs)++((QH (KQ x1) t ((JJ s).drop 1)).2.1)).length) c25)] (fun X=>?_)
 refine WB (E:=ES) 0 hr9 (by have q_:=Zd s;(try simp only [ES,Hd,He,Hf]);omega) (fun G12 hl12 hs21=>?_)
 obtain ⟨b11,o5,rfl⟩:=RS.addr hs21 (k:=0) (by simp)
 refine Jl 34 (Sr (Lib.join (([[111,107]]:Bs)++((QH (KQ x1) t ((JJ s).drop 1)).2.1)) [32])) (Jdi G12 b11 o5 c25 (([[111,107]]:Bs)++((QH (KQ x1) t ((JJ s).drop 1)).2.1)) [32] hs21 (by simp) (by simp only [Hd,He,Hf];omega) (Jcs _ _ _ (JdL hs18))) (JA [(8,Sr (Lib.join (([[111,107]]:Bs)++((QH (KQ x1) t ((JJ s).drop 1)).2.1)) [32]))] (JF [1,2,3,4,5] [] [] [9] (Hb _) (Kf ?_ KY)))
 refine Jz 9 [(4,Pt b1 0),(34,Sr (Lib.join (([[111,107]]:Bs)++((QH (KQ x1) t ((JJ s).drop 1)).2.1)) [32]))] (fun X=>?_)
 exact KA 5 ([]::[Sg b 0 (J3 (QH (KQ x1) t ((JJ s).drop 1)).1 a22 c22 a23 c23 a24 c24)]::r8::[Sg b3 0 [I (Ym (KQ x1)),Fv (V3 (KQ x1)) #[]]]::[]::[Sg b1 0 [Sr (Lib.join (([[111,107]]:Bs)++((QH (KQ x1) t ((JJ s).drop 1)).2.1)) [32])]]::Lr) (J5 [] (Ko [1,2,3,4,5] [] [] [(4,Pt b1 0)] (Hb _) (Jk 5 (Jk 5 (Jk 5 (Jk 3 (Jk 5 (Jk 5 (QS (a22,c22,a23,c23,a24,c24,r8,G12) ⟨(Ja hl11 hl12),(hs19.mono hl12),(hs20.mono hl12),w23,w24,w25,w26,w27,w28,w29,(hr8.mono hl12),he7⟩)))))))))
 obtain ⟨a17,c17,a18,c18,a19,c19,r6,G10⟩:=q_
 obtain ⟨hle2,hj11,hj12,hj13,hj14,hj15,hj16,hj17,hj18,hj19,hj20,he5⟩:=hs
 dsimp only at hle2 hj11 hj12 hj13 hj14 hj15 hj16 hj17 hj18 hj19 hj20 he5
 dsimp only
 refine Jn (Jk 1 (Jk 1 (Jk 5 ?_)))
 have hq8:Ja4 t s=0:=(Jhk hx1 (by omega) (by omega)).trans he5
 refine JlL [0] [Sr (Lib.join (([[111,107]]:Bs)++((QH (KQ x1) t ((JJ s).drop 1)).2.1)) [32])] (fun _=>by kernel_rfl) (fun w hw=>JlM _ b1 _ _ _ w hw) (V9 (KH (Lr:=Lr) [[Sg b 0 (J3 (QH (KQ x1) t ((JJ s).drop 1)).1 a17 c17 a18 c18 a19 c19)],r6] (Ja (Ja (Ja hl1 hl2) hl3) hle2) ⟨?_,?_⟩))
 rw [JaL,hq8,if_neg (by simp),Q0 hx1];rfl
 rw [ZP,hq8,if_neg (by simp),← Q0 hx1];exact ⟨a17,c17,a18,c18,a19,c19,r6,hj11,hj12,hj13,hj14,hj15,hj16,hj17,hj18,hj19,hj20,rfl⟩
theorem JjG (l:List Kb) (n:Bb):(YJ l n).1.length≤20:=by
 unfold YJ
 split
 · simp
 ·
  rename_i h
  have hc:Kn l=0:=by
   unfold JH at h
   split at h
   · exact absurd rfl h
   · rename_i h1;exact Hq.1 h1
  have ho:=Qd.1 hc
  cases e:l[(JH l n).1.toNat]? with
  | none=>simp
  | some x =>
   have h3:=ho.ok x (Ha e)
   have h4:x.value.length≤20:=by
    unfold KJ at h3
    split at h3
    · cases h3
    ·
     split at h3
     · cases h3
     · omega
   simpa using h4
theorem JgK (r:Q5):(JG r).1.length≤20:=by
 unfold JG ZE
 split
 · simp
 split
 · simp
 · exact JjG _ _
theorem JkR (c:Nat) (t:KD) (w:Bs):Ja3 (QH c t w).2.1:=by
 by_cases hc:c=8
 ·
  subst hc
  show Ja3 (ZA t w).1
  unfold ZA
  split
  · exact WK
  split
  · exact WK
  split
  · exact WK
  split
  · exact WK
  split
  · exact ⟨by simp,by simp⟩
  ·
   refine ⟨by simp,fun x hx=>?_⟩
   simp only [Hs,Hn,or_false] at hx
   rcases hx with rfl | rfl
   · simp
   · exact Hu (JgK _) (by decide)
 ·
  match c,hc with
  | 0,_ | 1,_ | 2,_ | 3,_ | 4,_ | 5,_ | 6,_=>exact WK
  | 7,_=>exact Jgf t w
  | 8,h=>exact absurd rfl h
  | 9,_=>exact JcI t w
  | 10,_=>exact JeV t w
  | 11,_=>exact JeW t w
  | _+12,_=>exact WK
theorem Jo8 (t:KD) (s:Bb):(JaL t s).length≤1000:=by
 unfold JaL
 split
 · have:=Jcm _ (JbF t s);simp;omega
 ·
  rw [Lib.join_length]
  have h:=JkR (KQ (V4 (JJ s) 0)) t ((JJ s).drop 1)
  have:=Jib _ h.2
  have:=h.1
  simp [Lib.lens,okW] at *
  omega
theorem Jm8 (t:KD) (s:Bb):(JaL t s).length≤140737488351232:=Hu (Jo8 t s) (by decide)
theorem JjH (s:Bb) (h:s.length≤1048576):∀ x∈JJ s,x.length≤1048576:=fun _ hx=>Hu (JfB hx) h
def Jc5 (t:KD):Prop:=t.deeds.length≤200∧t.setup.names.length≤1000∧t.setup.keys.length≤1000
theorem JdM {t:KD} (s:Kx) (h:Jc5 t):Jc5 (W6 t s).1:=by
 unfold W6
 split
 · exact h
 split
 · exact h
 ·
  rename_i h2
  have:=Jan (Jh3 (Hq.1 h2)).1
  exact ⟨h.1,by simp only;omega,by simp only;omega⟩
theorem Jgh {t:KD} (l:List K4) (h:Jc5 t):Jc5 (ZG t l).1:=by
 unfold ZG
 split
 · exact h
 · exact ⟨by simp only [Hd];omega,h.2⟩
theorem Jc6 {α:Type} {p:Prop} [Decidable p] {a b:KD×α} (ha:Jc5 a.1) (hb:Jc5 b.1):Jc5 (if p then a else b).1:=by split <;> assumption
theorem Jo9 (c:Nat) {t:KD} (w:Bs) (h:Jc5 t):Jc5 (QH c t w).1:=by
 unfold QH
 split <;> dsimp only
 · exact Jc6 h (JdM _ h)
 · exact Jc6 h (JdM _ h)
 · exact Jc6 h (JdM _ h)
 · exact Jc6 h (JdM _ h)
 · exact Jc6 h (Jgh _ h)
 · exact Jc6 h (Jgh _ h)
 · exact Jc6 h (Jgh _ h)
 all_goals exact h
theorem Jpa {t:KD} (s:Bb) (h:Jc5 t):Jc5 (ZP t s):=by
 unfold ZP
 split
 · exact h
 · exact Jo9 _ _ h
def JjI (t:KD) (l:Bs):KD:=l.foldl ZP t
def JdN:KD→Bs→Bs
 | _,[]=>[]
 | t,s::l=>JaL t s::JdN (ZP t s) l
theorem JjJ:∀ (l:Bs) {t:KD},Jc5 t→Jc5 (JjI t l)
 | [],_,h=>h
 | s::l,_,h=>JjJ l (Jpa s h)
theorem Jeq:∀ (l m:Bs) (t:KD),JdN t (l++m)=JdN t l++JdN (JjI t l) m
 | [],_,_=>rfl
 | s::l,m,t=>congrArg (JaL t s::·) (Jeq l m (ZP t s))
theorem VR:∀ (l:Bs) (t:KD),(JdN t l).length=l.length
 | [],_=>rfl
 | s::l,t=>congrArg (·+1) (VR l (ZP t s))
theorem Jm9 {t:KD} {l:Bs} {i:Nat} {x:Bb} (hx:l[i]? = some x):ZP (JjI t (l.take i)) x=JjI t (l.take (i+1)):=by
 rw [Hv,hx];simp [JjI]
theorem JkS {t:KD} {l:Bs} {i:Nat} {x:Bb} (hx:l[i]? = some x):JdN t (l.take i)++[JaL (JjI t (l.take i)) x]=JdN t (l.take (i+1)):=by
 rw [Hv,hx,Jeq];rfl
def Jhl:KD:=⟨⟨[],[],10,3,5,2,8,3,10⟩,[]⟩
theorem Jna:Jc5 Jhl:=⟨by decide,by decide,by decide⟩
def J9 (l:Bs):Bs×Int:=if l.length > 100 then ([],2) else (JdN Jhl l,0)
theorem do_c (G:J4) (b:Nat) (t:KD) (a_0:Ba) (c_0:Nat) (a_1:Ba) (c_1:Nat) (a_9:Ba) (c_9:Nat) (r_9:Bg) (h_0:RS ES G a_0 c_0 t.setup.names) (h_1:RS EU G a_1 c_1 t.setup.keys) (h_2:-9223372036854775808≤t.setup.most∧t.setup.most<9223372036854775808) (h_3:-9223372036854775808≤t.setup.batch∧t.setup.batch<9223372036854775808) (h_4:-9223372036854775808≤t.setup.every∧t.setup.every<9223372036854775808) (h_5:-9223372036854775808≤t.setup.least∧t.setup.least<9223372036854775808) (h_6:-9223372036854775808≤t.setup.top∧t.setup.top<9223372036854775808) (h_7:-9223372036854775808≤t.setup.lost∧t.setup.lost<9223372036854775808) (h_8:-9223372036854775808≤t.setup.reach∧t.setup.reach<9223372036854775808) (h_9:JX Wl G a_9 c_9 t.deeds r_9) (s:Bb) (hI:Jc5 t) (hls:s.length≤1048576) (hS:dS (KQ (V4 (JJ s) 0))=true):Ze Tryz.prog 27 #[Pt b 0,Sr s] G [[Sg b 0 [Sl a_0 t.setup.names.length c_0,Sl a_1 t.setup.keys.length c_1,I t.setup.most,I t.setup.batch,I t.setup.every,I t.setup.least,I t.setup.top,I t.setup.lost,I t.setup.reach,Sl a_9 t.deeds.length c_9]],r_9] (fun u G' L'=>((0:Int)=0)∧∃ (az1:Ba) (cz2:Nat) (az3:Ba) (cz4:Nat) (az5:Ba) (cz6:Nat) (rz7:Bg),u=Sr (JaL t s)∧((JaL t s).length≤140737488351232)∧(RS ES G' az1 cz2 ((ZP t s).setup.names))∧(RS EU G' az3 cz4 ((ZP t s).setup.keys))∧(-9223372036854775808≤((ZP t s).setup.most)∧((ZP t s).setup.most)<9223372036854775808)∧(-9223372036854775808≤((ZP t s).setup.batch)∧((ZP t s).setup.batch)<9223372036854775808)∧(-9223372036854775808≤((ZP t s).setup.every)∧((ZP t s).setup.every)<9223372036854775808)∧(-9223372036854775808≤((ZP t s).setup.least)∧((ZP t s).setup.least)<9223372036854775808)∧(-9223372036854775808≤((ZP t s).setup.top)∧((ZP t s).setup.top)<9223372036854775808)∧(-9223372036854775808≤((ZP t s).setup.lost)∧((ZP t s).setup.lost)<9223372036854775808)∧(-9223372036854775808≤((ZP t s).setup.reach)∧((ZP t s).setup.reach)<9223372036854775808)∧(JX Wl G' az5 cz6 ((ZP t s).deeds) rz7)∧L'=[[Sg b 0 [Sl az1 (((ZP t s).setup.names).length) cz2,Sl az3 (((ZP t s).setup.keys).length) cz4,I ((ZP t s).setup.most),I ((ZP t s).setup.batch),I ((ZP t s).setup.every),I ((ZP t s).setup.least),I ((ZP t s).setup.top),I ((ZP t s).setup.lost),I ((ZP t s).setup.reach),Sl az5 (((ZP t s).deeds).length) cz6]],rz7]) (fun _ _ _=>False):=by
 exact Ze.mono (do_con G b t a_0 c_0 a_1 c_1 a_9 c_9 r_9 h_0 h_1 h_2 h_3 h_4 h_5 h_6 h_7 h_8 h_9 hI.1 hI.2.1 hI.2.2 s hls hS (JjH s hls)) (fun u G' L' hle ⟨hu,a_0z,c_0z,a_1z,c_1z,a_9z,c_9z,r_9z,q_0,q_1,q_2,q_3,q_4,q_5,q_6,q_7,q_8,q_9,hL⟩=>⟨rfl,a_0z,c_0z,a_1z,c_1z,a_9z,c_9z,r_9z,hu,Jm8 t s,q_0,q_1,q_2,q_3,q_4,q_5,q_6,q_7,q_8,q_9,hL⟩) (fun _ _ _ h=>h)
theorem Jgi (G:J4)  (a_l:Ba) (c_l:Nat) (l:Bs) (h_l:RS ES G a_l c_l l) (hs:∀ s∈l,s.length≤1048576) (hS:∀ s∈l,dS (KQ (V4 (JJ s) 0))=true):V5 Tryz.prog 9 #[Sl a_l l.length c_l] G [] (fun u G' L'=>((0:Int)=0)∧∃ (az1:Ba) (cz2:Nat),u=.tuple #[Sl az1 (((J9 l).1).length) cz2,I ((J9 l).2)]∧(RS ES G' az1 cz2 ((J9 l).1))∧L'=[]) (fun _ _ _=>False):=by
 refine W4 Tryz.func9 28 [(0,Sl a_l l.length c_l)] rfl (fun w0 G0 hT=>Jg [0,0] [] (Jf (Jg [0,0,0] [(10,Bo (decide ((l.length:Int) > 100)))] (Jm (decide ((l.length:Int) > 100)) (fun h1=>?_) (fun h1=>?_)))))
 refine Jg [0,0] [(2,Sl none 0 0),(3,I 2)] (Jn (Jj ?_))
 have hf1:(0:Int)=0∧J9 l=([],2):=by
  first | (unfold J9;rw [if_pos (by omega)];exact ⟨rfl,rfl⟩) | (unfold J9;rw [if_neg (by omega)];have q_:=Hr (i:=i) (l:=l) (by omega);rw [q_] at hxx;exact ⟨rfl,by rw [hxx]⟩)
 refine Jo [0,0] [Sl none 0 0,I 2] (V9 (JD [] (Jh _) ?_))
 rw [hf1.2]
 try dsimp only
 exact ⟨hf1.1,none,0,rfl,(J2 ES G),rfl⟩
 refine Jq (Jc (Jf (Jd (Jb [0,0] [(12,.agg #[Sl none 0 0,Sl none 0 0,I 10,I 3,I 5,I 2,I 8,I 3,I 10,Sl none 0 0])] (Jv 13 #[Sl none 0 0,Sl none 0 0,I 10,I 3,I 5,I 2,I 8,I 3,I 10,Sl none 0 0] 91 (fun b1=>Jb [0] [(4,Pt b1 0)] (Je (Jc (Jg [0] [(5,Sl none 0 0)] (Jf (Jg [0,0,0] [(14,Sl a_l l.length c_l),(15,I (l.length:Int)),(16,I 0)] (Jy (ZU (ZU ?_))))))))))))))
 have hlm_h_l:l.length≤9223372036854775807:=Hu (h_l).le (h_l).max
 refine Qe (σ:=Nat×Ba×Nat×Bg×Bs×KD×Ba×Nat×Ba×Nat×Ba×Nat×Bg×J4) (fun q_=>(J4.le G q_.2.2.2.2.2.2.2.2.2.2.2.2.2)∧(q_.1≤l.length)∧(JX ES q_.2.2.2.2.2.2.2.2.2.2.2.2.2 q_.2.1 q_.2.2.1 q_.2.2.2.2.1 q_.2.2.2.1)∧(q_.2.2.2.2.1=JdN Jhl (l.take q_.1))∧(RS ES q_.2.2.2.2.2.2.2.2.2.2.2.2.2 q_.2.2.2.2.2.2.1 q_.2.2.2.2.2.2.2.1 q_.2.2.2.2.2.1.setup.names)∧(RS EU q_.2.2.2.2.2.2.2.2.2.2.2.2.2 q_.2.2.2.2.2.2.2.2.1 q_.2.2.2.2.2.2.2.2.2.1 q_.2.2.2.2.2.1.setup.keys)∧(JX Wl q_.2.2.2.2.2.2.2.2.2.2.2.2.2 q_.2.2.2.2.2.2.2.2.2.2.1 q_.2.2.2.2.2.2.2.2.2.2.2.1 q_.2.2.2.2.2.1.deeds q_.2.2.2.2.2.2.2.2.2.2.2.2.1)∧(rI q_.2.2.2.2.2.1.setup.most)∧(rI q_.2.2.2.2.2.1.setup.batch)∧(rI q_.2.2.2.2.2.1.setup.every)∧(rI q_.2.2.2.2.2.1.setup.least)∧(rI q_.2.2.2.2.2.1.setup.top)∧(rI q_.2.2.2.2.2.1.setup.lost)∧(rI q_.2.2.2.2.2.1.setup.reach)∧(q_.2.2.2.2.2.1=JjI Jhl (l.take q_.1))) (fun q_=>[(4,Pt b1 0),(5,Sl q_.2.1 q_.2.2.2.2.1.length q_.2.2.1),(14,Sl a_l l.length c_l),(15,I (l.length:Int)),(16,I (q_.1:Int))]) (fun q_=>q_.2.2.2.2.2.2.2.2.2.2.2.2.2) (fun q_=>[q_.2.2.2.2.2.2.2.2.2.2.2.2.1,q_.2.2.2.1,[Sg b1 0 (J3 q_.2.2.2.2.2.1 q_.2.2.2.2.2.2.1 q_.2.2.2.2.2.2.2.1 q_.2.2.2.2.2.2.2.2.1 q_.2.2.2.2.2.2.2.2.2.1 q_.2.2.2.2.2.2.2.2.2.2.1 q_.2.2.2.2.2.2.2.2.2.2.2.1)]]) (fun q_=>l.length-q_.1) (0,none,0,[],[],(⟨(⟨[],[],10,3,5,2,8,3,10⟩:Kx),([]:List K4)⟩:KD),none,0,none,0,none,0,[],G) ⟨(Jh _),(by (try dsimp only);first | exact Hx _ | omega | simp),(JX.none ES _),rfl,(J2 ES G),(J2 EU G),(JX.none Wl _),(by (try dsimp only);first | assumption | omega | (simp;done) | (simp;omega)),(by (try dsimp only);first | assumption | omega | (simp;done) | (simp;omega)),(by (try dsimp only);first | assumption | omega | (simp;done) | (simp;omega)),(by (try dsimp only);first | assumption | omega | (simp;done) | (simp;omega)),(by (try dsimp only);first | assumption | omega | (simp;done) | (simp;omega)),(by (try dsimp only);first | assumption | omega | (simp;done) | (simp;omega)),(by (try dsimp only);first | assumption | omega | (simp;done) | (simp;omega)),(by (try dsimp only);first | rfl | simp [JjI,Jhl])⟩ (fun q_ hs=>?_)
 obtain ⟨i,ax,cx,rx,xx,dt,adt0,cdt0,adt1,cdt1,adt2,cdt2,rdt9,g⟩:=q_
 obtain ⟨hle,hi,hrx,hxx,hdt0,hdt1,hdt9,hdt2,hdt3,hdt4,hdt5,hdt6,hdt7,hdt8,hD⟩:=hs
 dsimp only at hle hi hrx hxx hdt0 hdt1 hdt9 hdt2 hdt3 hdt4 hdt5 hdt6 hdt7 hdt8 hD
 dsimp only
 refine Jg [0] [(17,Bo (decide ((i:Int)<(l.length:Int))))] (Jf (Jm (decide ((i:Int)<(l.length:Int))) (fun h2=>?_) (fun h2=>?_)))
 refine Jq (Jc (Jf (Jy (Jf (Jd ?_)))))
 obtain ⟨b2,o1,rfl⟩:=RS.addr (h_l.mono hle) (k:=i) (by omega)
 obtain ⟨x1,hx1⟩:=QQ (l:=l) (k:=i) (by omega)
 obtain ⟨_,⟨rfl,_⟩,hc1⟩:=RS.get (h_l.mono hle) hx1
 refine JW (b:=b2) (off:=o1) (len:=l.length) (cap:=c_l) (ik:=.i64) 18 9 1 i Kd (JO 19 9 (cs:=[Sr x1]) 0 (Sr x1) hc1 (Jb [0] [(7,Sr x1)] (Je (Jc (Jd (Jb [0,0,0] [(20,Sl ax xx.length cx),(21,Pt b1 0),(22,Sr x1)] (Jw 0 (Jw 2 (Z4 (Ls:=[[Sg b1 0 (J3 dt adt0 cdt0 adt1 cdt1 adt2 cdt2)],rdt9]) (Lr:=[rx]) 23 hT (do_c g b1 dt adt0 cdt0 adt1 cdt1 adt2 cdt2 rdt9 hdt0 hdt1 hdt2 hdt3 hdt4 hdt5 hdt6 hdt7 hdt8 hdt9 x1 (hD ▸ JjJ (l.take i) Jna) (hs _ (Ha hx1)) (hS _ (Ha hx1))) (fun v G1 L1 hl1 hp=>?_))))))))))
 obtain ⟨_,a1,c1,a2,c2,a3,c3,r1,rfl,w2,hs1,hs2,_,_,_,_,_,_,_,hr1,rfl⟩:=hp
 refine Kq 24 1 #[Sr (JaL dt x1)] 9 (fun b3=>Qm (b:=b3) (cs:=[Sr (JaL dt x1)]) 25 9 3 0 (E:=ES) (JaL dt x1) (hrx.mono hl1) ⟨rfl,w2⟩ (by have q_:=congrArg Hy hxx;simp only [VR,Ho] at q_;(try simp only [ES]);omega) (by have q_:=congrArg Hy hxx;simp only [VR,Ho] at q_;(try simp only [ES]);omega) (fun a4 c4 r2 hr2=>Jb [0] [(5,Sl a4 ((xx++[JaL dt x1]).length) c4)] (Je (JN (Jc (Jd (Jb [0,0] [(16,I (Hk.wrap ((i:Int)+1)))] (Ku 16 ((i:Int)+1) Kd (Je (Jk 1 (Jk 3 (Jk 3 ?_))))))))))))
 exact QA [r1,r2,[Sg b1 0 (J3 (ZP dt x1) a1 c1 a2 c2 a3 c3)]] (Ql (i+1,a4,c4,r2,xx++[JaL dt x1],(ZP dt x1),a1,c1,a2,c2,a3,c3,r1,G1) ⟨(Ja hle hl1),Kd,hr2,(by (try dsimp only);rw [hxx,hD,JkS hx1]),hs1,hs2,hr1,(by first | assumption | omega | (simp;done) | (simp;omega)),(by first | assumption | omega | (simp;done) | (simp;omega)),(by first | assumption | omega | (simp;done) | (simp;omega)),(by first | assumption | omega | (simp;done) | (simp;omega)),(by first | assumption | omega | (simp;done) | (simp;omega)),(by first | assumption | omega | (simp;done) | (simp;omega)),(by first | assumption | omega | (simp;done) | (simp;omega)),(by (try dsimp only);rw [hD,Jm9 hx1])⟩ (by (try dsimp only);omega))
 refine KX (J1 (Ke (JV (Jc (Jg [0,0,0] [(2,Sl ax xx.length cx),(3,I 0)] (Jn (Wv (E:=ES) 1 hrx (by have q_:=congrArg Hy hxx;simp only [VR,Ho] at q_;(try simp only [ES]);omega) (fun G2 hl2 hs3=>?_))))))))
 have hf2:(0:Int)=0∧J9 l=(xx,0):=by
  first | (unfold J9;rw [if_pos (by omega)];exact ⟨rfl,rfl⟩) | (unfold J9;rw [if_neg (by omega)];have q_:=Hr (i:=i) (l:=l) (by omega);rw [q_] at hxx;exact ⟨rfl,by rw [hxx]⟩)
 refine Jo [0,0] [Sl ax xx.length cx,I 0] (V9 (JD [] (Ja hle hl2) ?_))
 rw [hf2.2]
 try dsimp only
 exact ⟨hf2.1,ax,cx,rfl,hs3,rfl⟩
theorem JjK:J9 [[110,111,119]]=([[111,107,32,48,32,49,32,48]],0):=by decide +kernel
theorem Jhm {l:Bs} {k:Nat} (h:(J9 l).2=0) (hk:k≤l.length):J9 (l.take k)=((J9 l).1.take k,0)∧(J9 l).1.length=l.length:=by
 unfold J9 at *
 split at h
 · cases h
 ·
  rename_i hl
  rw [if_neg hl,if_neg (by rw [Ho];omega)]
  refine ⟨?_,VR _ _⟩
  have:=Jeq (l.take k) (l.drop k) Jhl
  rw [List.take_append_drop] at this
  rw [this,List.take_left' (by rw [VR,Ho];omega)]
theorem Jpb (l:Bs):(J9 l).2=0∧(J9 l).1.length=l.length∨(J9 l).2=2∧(J9 l).1=[]:=by
 unfold J9
 split
 · exact .inr ⟨rfl,rfl⟩
 · exact .inl ⟨rfl,VR _ _⟩
theorem Jnb (G:J4)   :V5 Tryz.prog 8 #[] G [] (fun u G' L'=>((0:Int)=0)∧u=Bo true∧L'=[]) (fun _ _ _=>False):=by
 refine W4 Tryz.func8 21 [] rfl (fun w0 G0 hT=>Jg [0] [] (Jf (Jd (Kq 4 1 #[Sr ([110,111,119])] 9 (fun b1=>QK (b:=b1) (o:=0) (cs:=[Sr ([110,111,119])]) 0 (fun G1 hl1 hz1=>?_))))))
 have hs1:RS ES G1 (At b1 0) 1 [[110,111,119]]:=RS.lit [[Sr ([110,111,119])]] [[110,111,119]] ⟨⟨rfl,(Hc rfl)⟩,trivial⟩ hz1 (Hc rfl) (Hc rfl)
 refine Z4 (Ls:=[]) (Lr:=[[]]) 5 hT ((Jgi G1 (At b1 0) 1 ([[110,111,119]]) hs1 (by simp) (by decide +kernel)).frame) (fun v G2 L1 hl2 hp=>?_)
 obtain ⟨_,a1,c1,rfl,hs2,rfl⟩:=hp
 refine Jb [0,0,0,0,0] [(1,Sl a1 (((J9 ([[110,111,119]])).1).length) c1),(2,I ((J9 ([[110,111,119]])).2))] (Je (Jc (Jf (Jd (Jb [0,0,0] [(10,Bo (decide ((J9 ([[110,111,119]])).2=0)))] (Kr (decide ((J9 ([[110,111,119]])).2=0)) [10] [0,0,0,0] [1,1,1,0] (fun bb=>[(14,Bo (bb && (decide ((((J9 ([[110,111,119]])).1).length:Int)=1))))]) (Jb [0] [(15,Bo ((decide ((J9 ([[110,111,119]])).2=0)) && (decide ((((J9 ([[110,111,119]])).1).length:Int)=1))))] (QU [15] ((decide ((J9 ([[110,111,119]])).2=0)) && (decide ((((J9 ([[110,111,119]])).1).length:Int)=1))) (fun h1=>?_) (fun h1=>?_)))))))))
 refine Jb [0] [(16,Sl a1 (((J9 ([[110,111,119]])).1).length) c1)] ?_
 obtain ⟨b2,o1,rfl⟩:=RS.addr hs2 (k:=0) (by omega)
 obtain ⟨x1,hx1⟩:=QQ (l:=(J9 ([[110,111,119]])).1) (k:=0) (by omega)
 obtain ⟨_,⟨rfl,_⟩,hc1⟩:=RS.get hs2 hx1
 refine JW (b:=b2) (off:=o1) (len:=((J9 ([[110,111,119]])).1).length) (cap:=c1) (ik:=.i64) 17 9 1 0 Kd (JO 18 9 (cs:=[Sr x1]) 0 (Sr x1) hc1 (Jb [0,0,0] [(0,Bo ((B x1).toList == (B ([111,107,32,48,32,49,32,48])).toList))] (KG 0 (Bo (x1 == [111,107,32,48,32,49,32,48])) (show (Bo ((B x1).toList == (B ([111,107,32,48,32,49,32,48])).toList):Value)=Bo (x1 == [111,107,32,48,32,49,32,48]) by simp only [QY]) (Je (Jc (Jn ?_))))))
 have hf1:(0:Int)=0∧(x1 == [111,107,32,48,32,49,32,48])=true:=by
  (have q_:=hx1;rw [JjK] at q_;cases q_;exact ⟨rfl,rfl⟩)
 refine Jo [0] [Bo (x1 == [111,107,32,48,32,49,32,48])] (V9 (JD [] (Ja hl1 hl2) ?_))
 rw [hf1.2]
 try dsimp only
 exact ⟨hf1.1,rfl,rfl⟩
 refine Jb [1,1,1,1,0,0] [(0,Bo false)] (Je (Jc (Jn ?_)))
 have hf2:(0:Int)=0∧false=true:=by
  (have q_:=h1;rw [JjK] at q_;exact absurd rfl (q_ rfl))
 refine Jo [0] [Bo false] (V9 (JD [] (Ja hl1 hl2) ?_))
 rw [hf2.2]
 try dsimp only
 exact ⟨hf2.1,rfl,rfl⟩
theorem JgL (G:J4)  (a_l:Ba) (c_l:Nat) (l:Bs) (h_l:RS ES G a_l c_l l) (k:Int) (hw_k:rI k) (hs:∀ s∈l,s.length≤1048576):V5 Tryz.prog 3 #[Sl a_l l.length c_l,I k] G [] (fun u G' L'=>((0:Int)=0)∧u=Bo true∧L'=[]) (fun _ _ _=>False):=by
 refine W4 Tryz.func3 75 [(0,Sl a_l l.length c_l),(1,I k)] rfl (fun w0 G0 hT=>Jg [0] [] (Jf (Jf (Jd (Z4 (Ls:=[]) (Lr:=[]) 9 hT ((Jnb G).frame) (fun v G1 L1 hl1 hp=>?_))))))
 obtain ⟨_,rfl,rfl⟩:=hp
 refine Jb [0] [(10,Bo false)] (Je (Jc (Qp (Jq (Jc (Jf (Jd (Jb [0] [(12,Sl a_l l.length c_l)] (Z4 (Ls:=[]) (Lr:=[]) 13 hT ((Jgi G1 a_l c_l l (h_l.mono hl1) hs (fun _ _=>rfl)).frame) (fun v G2 L1 hl2 hp=>?_))))))))))
 obtain ⟨_,a1,c1,rfl,hs1,rfl⟩:=hp
 refine Jb [0,0,0,0,0] [(5,Sl a1 (((J9 l).1).length) c1),(6,I ((J9 l).2))] (Je (Jc (Jf (Jf (Jd (Jb [0,0,0] [(18,Bo (!decide ((J9 l).2=0)))] (Kr (!decide ((J9 l).2=0)) [18] [1,1,0] [0,0,0] (fun bb=>[(21,Bo (bb || (decide (k<0))))]) (Jb [0] [(22,Bo ((!decide ((J9 l).2=0)) || (decide (k<0))))] (Kr ((!decide ((J9 l).2=0)) || (decide (k<0))) [22] [1,1,1,1,0] [0,0,0,0,0] (fun bb=>[(27,Bo (bb || (decide (k > (l.length:Int)))))]) (Je (Jc (Jm (((!decide ((J9 l).2=0)) || (decide (k<0))) || (decide (k > (l.length:Int)))) (fun h1=>?_) (fun h1=>?_)))))))))))))
 refine Jf (Jd (Jb [0,0,0] [(30,Bo (decide ((J9 l).2=0)))] (Kr (decide ((J9 l).2=0)) [30] [0,0,0,0,0,0] [1,1,1,1,1,0] (fun bb=>[(36,Bo (bb && (decide ((((J9 l).1).length:Int)=(l.length:Int)))))]) (Jb [0] [(37,Bo ((decide ((J9 l).2=0)) && (decide ((((J9 l).1).length:Int)=(l.length:Int)))))] (QU [37] ((decide ((J9 l).2=0)) && (decide ((((J9 l).1).length:Int)=(l.length:Int)))) (fun h2=>?_) (fun h2=>?_))))))
 refine Jb [1,1,1,1,1,1,1,0,0] [(4,Bo true)] (Je (Jc (Jn (Jj ?_))))
 have hf1:(0:Int)=0∧true=true:=by
  exact ⟨rfl,rfl⟩
 refine Jo [0] [Bo true] (V9 (JD [] (Ja hl1 hl2) ?_))
 rw [hf1.2]
 try dsimp only
 exact ⟨hf1.1,rfl,rfl⟩
 refine Jb [0,0,0] [(40,Bo (decide ((J9 l).2=2)))] (Kr (decide ((J9 l).2=2)) [40] [0,0,0,0] [1,1,1,0] (fun bb=>[(44,Bo (bb && (decide ((((J9 l).1).length:Int)=0))))]) (Jb [0,0] [(4,Bo ((decide ((J9 l).2=2)) && (decide ((((J9 l).1).length:Int)=0))))] (Je (Jc (Jn (Jj ?_))))))
 have hf2:(0:Int)=0∧((decide ((J9 l).2=2)) && (decide ((((J9 l).1).length:Int)=0)))=true:=by
  (rcases Jpb l with ⟨qa,qb⟩ | ⟨qa,qb⟩ <;> simp_all;done)
 refine Jo [0] [Bo ((decide ((J9 l).2=2)) && (decide ((((J9 l).1).length:Int)=0)))] (V9 (JD [] (Ja hl1 hl2) ?_))
 rw [hf2.2]
 try dsimp only
 exact ⟨hf2.1,rfl,rfl⟩
 refine Jq (Jc ?_)
 obtain ⟨kn1,hkn1⟩:∃ k_:Nat,k=(k_:Int):=⟨(k).toNat,by omega⟩
 have e1:k=(kn1:Int):=hkn1
 refine QW 1 (I (kn1:Int)) (congrArg I e1) (Jf (Jd (Jb [0,0] [(47,Sl a_l l.length c_l),(48,I (kn1:Int))] ?_)))
 obtain ⟨a2,c2,ea1,ec1,en1,eh1,hs2⟩:=RS.reslXT (h_l.mono (Ja hl1 hl2)) kn1 (by omega)
 refine Wx (a:=a_l) (len:=l.length) (cap:=c_l) 49 1 none (some (I (kn1:Int))) 0 kn1 (.inl ⟨rfl,rfl⟩) (.inr ⟨_,rfl⟩) (by exact Hx _) ea1 ec1 en1 eh1 (Z4 (Ls:=[]) (Lr:=[]) 50 hT ((Jgi G2 a2 c2 (l.take kn1) hs2 (fun z_ hz_=>hs z_ (List.mem_of_mem_take hz_)) (fun _ _=>rfl)).frame) (fun v G3 L1 hl3 hp=>?_))
 obtain ⟨_,a3,c3,rfl,hs3,rfl⟩:=hp
 refine Jb [0,0,0,0,0] [(7,Sl a3 (((J9 (l.take kn1)).1).length) c3),(8,I ((J9 (l.take kn1)).2))] (Je (Jc (Jf (Jd (Jb [0,0,0] [(55,Bo (decide ((J9 (l.take kn1)).2=0)))] (Kr (decide ((J9 (l.take kn1)).2=0)) [55] [0,0,0,0,0] [1,1,1,1,0] (fun bb=>[(60,Bo (bb && (decide ((((J9 (l.take kn1)).1).length:Int)=(kn1:Int)))))]) (Jb [0] [(61,Bo ((decide ((J9 (l.take kn1)).2=0)) && (decide ((((J9 (l.take kn1)).1).length:Int)=(kn1:Int)))))] (Kr ((decide ((J9 (l.take kn1)).2=0)) && (decide ((((J9 (l.take kn1)).1).length:Int)=(kn1:Int)))) [61] [0,0,0,0,0,0] [1,1,1,1,1,0] (fun bb=>[(67,Bo (bb && (decide ((((J9 l).1).length:Int)=(l.length:Int)))))]) (Jb [0] [(68,Bo (((decide ((J9 (l.take kn1)).2=0)) && (decide ((((J9 (l.take kn1)).1).length:Int)=(kn1:Int)))) && (decide ((((J9 l).1).length:Int)=(l.length:Int)))))] (QU [68] (((decide ((J9 (l.take kn1)).2=0)) && (decide ((((J9 (l.take kn1)).1).length:Int)=(kn1:Int)))) && (decide ((((J9 l).1).length:Int)=(l.length:Int)))) (fun h3=>?_) (fun h3=>?_)))))))))))
 refine Jb [0,0] [(69,Sl a1 (((J9 l).1).length) c1),(70,I (kn1:Int))] ?_
 obtain ⟨a4,c4,ea2,ec2,en2,eh2,hs4⟩:=RS.reslXT (hs1.mono hl3) kn1 (by omega)
 refine Wx (a:=a1) (len:=((J9 l).1).length) (cap:=c1) 71 1 none (some (I (kn1:Int))) 0 kn1 (.inl ⟨rfl,rfl⟩) (.inr ⟨_,rfl⟩) (by exact Hx _) ea2 ec2 en2 eh2 (Jb [0] [(72,Sl a3 (((J9 (l.take kn1)).1).length) c3)] (Jl 73 (Bo (decide (((J9 l).1).take kn1=(J9 (l.take kn1)).1))) (seq_ES G3 a4 c4 (((J9 l).1).take kn1) hs4 a3 c3 ((J9 (l.take kn1)).1) hs3) (Jb [0,0] [(4,Bo (decide (((J9 l).1).take kn1=(J9 (l.take kn1)).1)))] (Je (Jc (Jn ?_))))))
 have hf3:(0:Int)=0∧(decide (((J9 l).1).take kn1=(J9 (l.take kn1)).1))=true:=by
  (have q_:=Jhm (l:=l) (k:=kn1) (by omega) (by omega);rw [q_.1] at *;simp_all;done)
 refine Jo [0] [Bo (decide (((J9 l).1).take kn1=(J9 (l.take kn1)).1))] (V9 (JD [] (Ja (Ja hl1 hl2) hl3) ?_))
 rw [hf3.2]
 try dsimp only
 exact ⟨hf3.1,rfl,rfl⟩
 refine Jb [1,1,1,1,1,0,0] [(4,Bo false)] (Je (Jc (Jn ?_)))
 have hf4:(0:Int)=0∧false=true:=by
  (have q_:=Jhm (l:=l) (k:=kn1) (by omega) (by omega);simp_all;done)
 refine Jo [0] [Bo false] (V9 (JD [] (Ja (Ja hl1 hl2) hl3) ?_))
 rw [hf4.2]
 try dsimp only
 exact ⟨hf4.1,rfl,rfl⟩
open Go.ChangeShapes Go.WideShapes Go.ChangeAt Go.RowKit
theorem JcJ {P:Program} {W:World} {n nm:String} {d:DataW Unit} {r:List (String×DataW Unit)} {g:Nat} {ti:TypeId} {ms:Array (String×TypeId)} (h:laidMet P ((n,.iface nm d)::r) W)
  (hg:P.globalNamed n=some g) (ht:(P.globals[g]?).map (·.type)=some ti) (hi:P.underlying ti=some (.interface ms)):Jis P W n:=by
 obtain ⟨ps,⟨g0,t0,cs0,f0,p0,q0,hg0,ht0,hv0,hd0,_,e0⟩,_,_⟩:=h
 obtain rfl:=Option.some.inj (hg.symm.trans hg0)
 obtain rfl:=Option.some.inj (ht.symm.trans ht0)
 obtain ⟨f1,u,v,hc,hn,h1⟩:=iface_of_trod hi hd0
 refine ⟨g,.iface u v,hg,?_,.inr ⟨u,v,rfl⟩⟩
 have:=World.var?_cell hg0 hv0 0
 rw [← Array.getElem?_toList,hc] at this
 simpa using this
section
variable {P:Program} {G:J4}
theorem JkT {P:Program} {f:FuncId} {args:Array Value} {W:World} (hT:TW P W) (hc:V5 P f args (JbH W) [] (fun u _ _=>u=Bo true) (fun _ _ _=>False)) :
  Calls P f args W fun e W'=>e=.returned (.bool true)∧Below W.heap.size W W':=by
 refine (hc W (JbH W) W hT (St.start fun b o v h=>h)).mono ?_
 rintro e W' ⟨v,G',L',hS,_,⟨rfl,rfl⟩ | ⟨_,h⟩⟩
 · exact ⟨rfl,hS.below⟩
 · exact h.elim
theorem JgM {H:Type} {enc:TypeId×Value→H} {f:Func} {k:FuncId} {s:ChangeSpec} {t:TypeId} {fresh handsOn again:Bool} (N:Nat) (hlo:laidOutB P=true)
  (hr:Jiu P f.params.toList=true) (hv:s.vars=[])
  (ho:∀ ds:List (DataW H),ds.length=f.params.toList.length→s.fn H ds={ results:=[.lit (.bool true)],args:=ds }) (ht:f.resultTypes=#[t]) (hu:P.underlying t=some .bool)
  (W:World) (base:Nat) (args:Array Value) (ds gs:List (DataW H)) (before:List MemPlace)
  (hval:∀ (j:Nat) t v,f.params[j]? = some t→args[j]? = some v→Value.okWide P W .any base t v)
  (hW:DataW.Whole enc P f.params.toList s.vars false W args.toList ds gs before)
  (hcon:∀ n,n≤N→RdA P (JbH W) f.params.toList args.toList n→Calls P k args W fun e W'=>e=.returned (.bool true)∧Below W.heap.size W W')
  (hN:Rows.uptoBulkAll (ds++gs)≤N)
  (hsz:(DataW.weightsEach P (f.params.toList++s.plain.varTypes P) (ds++gs)).all (·≤reachBytes)=true) :
  Calls P k args W fun e W'=>∃ v,e=.returned v∧s.post enc P f false fresh handsOn again W args v W':=by
 have hW':=hW
 obtain ⟨p,q,hA,hV,rfl,hfz,hnd⟩:=hW
 rw [hv] at hV
 obtain ⟨rfl,rfl⟩:=trodVars_none hV
 have hvt:s.plain.varTypes P=[]:=by simp [DataSpec.varTypes,ChangeSpec.plain,hv]
 rw [hvt,Hw,Hw] at hsz
 rw [Hw] at hN
 have hlen:∀ (ts:List TypeId) (vs:Bv) (ds:List (DataW H)) (ps:List MemPlace),DataW.TrodAll enc P W 0 (fun _=>true) true ts vs ds ps→ds.length=ts.length:=by
  intro ts
  induction ts with
  | nil=>intro vs ds ps h;have:=(trodAll_nil h).2.1;subst this;rfl
  | cons t ts ih =>
   intro vs ds ps h
   obtain ⟨v,vs',d,ds',p,q,rfl,rfl,rfl,h1,h2⟩:=trodAll_cons h
   simp [ih _ _ _ h2]
 have hR:=JnF (base:=base) _ _ _ _ hA (JnG hval) (all_le hsz)
 refine (hcon _ hN hR).mono ?_
 rintro e W' ⟨rfl,hb⟩
 exact ⟨_,rfl,JnC hlo hr hv hW' (ho ds (hlen _ _ _ _ hA)) ht hu hb⟩
end
end Go.Proofs.YteaampgpgokjmaaGreatDoor
