import Derived.Test.YteaampgpgokjmaaGreatDoorTqE
import Derived.Stop.LaidErr
set_option linter.unusedVariables false
set_option linter.unusedSimpArgs false
namespace Go.Proofs.YteaampgpgokjmaaGreatDoor
open Go.Tx
open Go.Proofs
open _root_.Nat renaming le_of_ble_eq_true → Ha, le_trans → Hy
open _root_.List renaming mem_of_getElem? → Hb, forall_mem_nil → Hc, length_append → Hd, getElem?_cons_zero → He, length_cons → Hf, length_nil → Hg, replicate → Hi, drop_succ_cons → Hj, drop_zero → Hl, getElem?_cons_succ → Hm, length_drop → Hn, length_replicate → Hq, length_map → Hr, mem_nil_iff → Hs, take_of_length_le → Ht, mem_of_mem_drop → Hv, mem_cons → Hw, getElem?_eq_some_iff → Hx, cons_append → HA, nil_append → HC, mem_singleton → HD, length → HE, take_add_one → HF, getElem?_eq_getElem → HG, length_take → HH, length_set → HI, isPrefixOf → HJ, append_nil → HK
open _root_.Option renaming getD_some → Hh, some → Hp
open IntKind renaming i64 → Hk, i32 → HB
open _root_.UInt8 renaming ofNat → Ho
open _root_.Int renaming toNat_natCast → Hu
open _root_.Decidable renaming not_not → Hz
open IntWalk renaming i64_in → HL
def Zz (t:KD) (w:Bs):Bs×Int :=
 if ¬ (Ka (Y9 w 1)).2=0 then ([],(Ka (Y9 w 1)).2) else if ¬ (Js t.setup t.deeds).2.2=0 then ([],(Js t.setup t.deeds).2.2)
 else if ¬ (JH (Js t.setup t.deeds).1.clerk (Y9 w 0) (Ka (Y9 w 1)).1).2=0 then ([],(JH (Js t.setup t.deeds).1.clerk (Y9 w 0) (Ka (Y9 w 1)).1).2)
 else if ¬ (JF (JH (Js t.setup t.deeds).1.clerk (Y9 w 0) (Ka (Y9 w 1)).1).1).2.2=0 then ([],(JF (JH (Js t.setup t.deeds).1.clerk (Y9 w 0) (Ka (Y9 w 1)).1).1).2.2)
 else if (JF (JH (Js t.setup t.deeds).1.clerk (Y9 w 0) (Ka (Y9 w 1)).1).1).2.1=false then ([[45]],0) else ([[43],(JF (JH (Js t.setup t.deeds).1.clerk (Y9 w 0) (Ka (Y9 w 1)).1).1).1],0)
section
variable {t:KD} {w:Bs} {x y:Bb}
theorem JqV (h:w[1]? = some y) (h1:¬ (Ka y).2=0):(Zz t w).2=(Ka y).2:=by unfold Zz;rw [← Wn h,if_pos h1]
theorem JqW (h:w[1]? = some y) (h1:(Ka y).2=0) (h2:¬ (Js t.setup t.deeds).2.2=0):(Zz t w).2=(Js t.setup t.deeds).2.2:=by unfold Zz;rw [← Wn h,if_neg (by omega),if_pos h2]
theorem JmB (h:w[1]? = some y) (h0:w[0]? = some x) (h1:(Ka y).2=0) (h2:(Js t.setup t.deeds).2.2=0) (h3:¬ (JH (Js t.setup t.deeds).1.clerk x (Ka y).1).2=0):(Zz t w).2=(JH (Js t.setup t.deeds).1.clerk x (Ka y).1).2:=by
 unfold Zz;rw [← Wn h,← Wn h0,if_neg (by omega),if_neg (by omega),if_pos h3]
theorem JqX (h:w[1]? = some y) (h0:w[0]? = some x) (h1:(Ka y).2=0) (h2:(Js t.setup t.deeds).2.2=0) (h3:(JH (Js t.setup t.deeds).1.clerk x (Ka y).1).2=0) (h4:¬ (JF (JH (Js t.setup t.deeds).1.clerk x (Ka y).1).1).2.2=0) :
  (Zz t w).2=(JF (JH (Js t.setup t.deeds).1.clerk x (Ka y).1).1).2.2:=by
 unfold Zz;rw [← Wn h,← Wn h0,if_neg (by omega),if_neg (by omega),if_neg (by omega),if_pos h4]
theorem JqY (h:w[1]? = some y) (h0:w[0]? = some x) (h1:(Ka y).2=0) (h2:(Js t.setup t.deeds).2.2=0) (h3:(JH (Js t.setup t.deeds).1.clerk x (Ka y).1).2=0) (h4:(JF (JH (Js t.setup t.deeds).1.clerk x (Ka y).1).1).2.2=0)
  (h5:(JF (JH (Js t.setup t.deeds).1.clerk x (Ka y).1).1).2.1=false):Zz t w=([[45]],0):=by
 unfold Zz;rw [← Wn h,← Wn h0,if_neg (by omega),if_neg (by omega),if_neg (by omega),if_neg (by omega),if_pos h5]
theorem JmC (h:w[1]? = some y) (h0:w[0]? = some x) (h1:(Ka y).2=0) (h2:(Js t.setup t.deeds).2.2=0) (h3:(JH (Js t.setup t.deeds).1.clerk x (Ka y).1).2=0) (h4:(JF (JH (Js t.setup t.deeds).1.clerk x (Ka y).1).1).2.2=0)
  (h5:(JF (JH (Js t.setup t.deeds).1.clerk x (Ka y).1).1).2.1=true):Zz t w=([[43],(JF (JH (Js t.setup t.deeds).1.clerk x (Ka y).1).1).1],0):=by
 unfold Zz;rw [← Wn h,← Wn h0,if_neg (by omega),if_neg (by omega),if_neg (by omega),if_neg (by omega),if_neg (by rw [h5];simp)]
end
def Jka (t:KD) (w:Bs):Bs×Int :=
 if ¬ (Js t.setup t.deeds).2.2=0 then ([],(Js t.setup t.deeds).2.2) else if ¬ (KZ (Zg (Js t.setup t.deeds).1.clerk.heads)).2=0 then ([],(KZ (Zg (Js t.setup t.deeds).1.clerk.heads)).2)
 else ([Lib.itoa (KZ (Zg (Js t.setup t.deeds).1.clerk.heads)).1],0)
section
variable {t:KD} {w:Bs} {x:JV} {k:Nat}
end
def YJ (t:KD) (w:Bs):Bs×Int :=
 if ¬ (Ka (Y9 w 0)).2=0 then ([],(Ka (Y9 w 0)).2) else if ¬ (Js t.setup t.deeds).2.2=0 then ([],(Js t.setup t.deeds).2.2)
 else match (Js t.setup t.deeds).1.owners[(Ka (Y9 w 0)).1.toNat]? with
  | some o=>([o.head.epoch,o.had].map Lib.itoa,0)
  | none=>([],5)
section
variable {t:KD} {w:Bs} {y:Bb}
theorem JqZ (h:w[0]? = some y) (h1:¬ (Ka y).2=0):(YJ t w).2=(Ka y).2:=by unfold YJ;rw [← Wn h,if_pos h1]
theorem Jq0 (h:w[0]? = some y) (h1:(Ka y).2=0) (h2:¬ (Js t.setup t.deeds).2.2=0):(YJ t w).2=(Js t.setup t.deeds).2.2:=by unfold YJ;rw [← Wn h,if_neg (by omega),if_pos h2]
theorem Jq1 (h:w[0]? = some y) (h1:(Ka y).2=0) (h2:(Js t.setup t.deeds).2.2=0) (h3:(Ka y).1 ≥ ((Js t.setup t.deeds).1.owners.length:Int)):(YJ t w).2=5:=by
 unfold YJ;rw [← Wn h,if_neg (by omega),if_neg (by omega),List.getElem?_eq_none (by omega)]
theorem JmD {k:Nat} {o:Qh} (h:w[0]? = some y) (h1:(Ka y).2=0) (h2:(Js t.setup t.deeds).2.2=0) (hk:(Ka y).1=(k:Int)) (ho:(Js t.setup t.deeds).1.owners[k]? = some o):YJ t w=([o.head.epoch,o.had].map Lib.itoa,0):=by
 unfold YJ;rw [← Wn h,if_neg (by omega),if_neg (by omega),hk,Hu,ho]
end
set_option maxRecDepth 20000 in
theorem JnZ (G:J4) (b:Nat) (t:KD) (a_0:Ba) (c_0:Nat) (a_1:Ba) (c_1:Nat) (a_9:Ba) (c_9:Nat) (r_9:Bg) (h_0:RS ES G a_0 c_0 t.setup.names) (h_1:RS EU G a_1 c_1 t.setup.keys) (h_2:rI t.setup.most) (h_3:rI t.setup.batch) (h_4:rI t.setup.every) (h_5:rI t.setup.least) (h_6:rI t.setup.top) (h_7:rI t.setup.lost) (h_8:rI t.setup.reach) (h_9:J0 Wr G a_9 c_9 t.deeds r_9) (a_w:Ba) (c_w:Nat) (w:Bs) (h_w:RS ES G a_w c_w w) (hw:w.length=2) (hs:∀ s∈w,s.length≤1048576) (ht:t.deeds.length≤200):ZV Tryz.prog 86 #[Pt b 0,Sl a_w w.length c_w] G [[Sg b 0 [Sl a_0 t.setup.names.length c_0,Sl a_1 t.setup.keys.length c_1,I t.setup.most,I t.setup.batch,I t.setup.every,I t.setup.least,I t.setup.top,I t.setup.lost,I t.setup.reach,Sl a_9 t.deeds.length c_9]],r_9] (fun u G' L'=>((Zz t w).2=0)∧∃ (az1:Ba) (cz2:Nat),u=Sl az1 (((Zz t w).1).length) cz2∧(RS ES G' az1 cz2 ((Zz t w).1))∧L'=[[Sg b 0 [Sl a_0 t.setup.names.length c_0,Sl a_1 t.setup.keys.length c_1,I t.setup.most,I t.setup.batch,I t.setup.every,I t.setup.least,I t.setup.top,I t.setup.lost,I t.setup.reach,Sl a_9 t.deeds.length c_9]],r_9]) (fun u _ L'=>(¬ (Zz t w).2=0)∧u=VM ((Zz t w).2)∧L'=[[Sg b 0 [Sl a_0 t.setup.names.length c_0,Sl a_1 t.setup.keys.length c_1,I t.setup.most,I t.setup.batch,I t.setup.every,I t.setup.least,I t.setup.top,I t.setup.lost,I t.setup.reach,Sl a_9 t.deeds.length c_9]],r_9]):=by
 intro Lr
 refine ZG Tryz.func86 46 [(0,Pt b 0),(1,Sl a_w w.length c_w)] rfl (fun w0 G0 hT=>?_)
 show TC _ _ _ _ _ ([Sg b 0 (Kj t a_0 c_0 a_1 c_1 a_9 c_9)]::r_9::Lr)
 refine Jg [0] [] (Jf (Jd (Jb [0] [(12,Sl a_w w.length c_w)] ?_)))
 obtain ⟨b1,o1,rfl⟩:=RS.addr h_w (k:=1) (by omega)
 obtain ⟨x1,hx1⟩:=QW (l:=w) (k:=1) (by omega)
 obtain ⟨_,⟨rfl,_⟩,hc1⟩:=RS.get h_w hx1
 refine JY (b:=b1) (off:=o1) (len:=w.length) (cap:=c_w) (ik:=.i64) 13 9 1 1 J5 (JR 14 9 (cs:=[Sr x1]) 0 (Sr x1) hc1 (K2 (Ls:=[]) (Lr:=([Sg b 0 (Kj t a_0 c_0 a_1 c_1 a_9 c_9)]::r_9::Lr)) 15 hT ((Y1 G x1 (by have q_:=hs _ (Hb hx1);omega)).frame) (fun v G1 L1 hl1 hp=>?_) (fun v G1 L1 hl1 hp=>?_)))
 obtain ⟨hne1,rfl,rfl⟩:=hp
 refine Km ?_
 have hp1:(Zz t w).2=(Ka x1).2:=by
  exact JqV ‹_› ‹_›
 refine Zb (WF (Lr:=Lr) [[Sg b 0 (Kj t a_0 c_0 a_1 c_1 a_9 c_9)],r_9] hl1 ?_)
 rw [hp1];exact ⟨hne1,rfl,rfl⟩
 obtain ⟨_,rfl,rfl⟩:=hp
 refine Jb [0] [(5,I ((Ka x1).1))] (Je (Jc (Jf (Jd (Jb [0] [(17,Pt b 0)] (Jw 1 (Jw 1 (K2 (Ls:=[[Sg b 0 (Kj t a_0 c_0 a_1 c_1 a_9 c_9)],r_9]) (Lr:=Lr) 18 hT (JcH G1 b t a_0 c_0 a_1 c_1 a_9 c_9 r_9 (h_0.mono hl1) (h_1.mono hl1) h_2 h_3 h_4 h_5 h_6 h_7 h_8 (h_9.mono hl1) ‹_›) (fun v G2 L1 hl2 hp=>?_) (fun v G2 L1 hl2 hp=>?_)))))))))
 obtain ⟨hne2,rfl,rfl⟩:=hp
 refine Km ?_
 have hp3:(Zz t w).2=(Js t.setup t.deeds).2.2:=by
  exact JqW ‹_› ‹_› ‹_›
 refine Zb (WF (Lr:=Lr) [[Sg b 0 (Kj t a_0 c_0 a_1 c_1 a_9 c_9)],r_9] (Ja hl1 hl2) ?_)
 rw [hp3];exact ⟨hne2,rfl,rfl⟩
 obtain ⟨_,a1,c1,a2,c2,a3,c3,a4,c4,a5,c5,a6,c6,a7,c7,rfl,w2,hs1,w3,w4,w5,hs2,hs3,_,_,_,_,_,rfl⟩:=hp
 refine Jb [0,0,0] [(19,(Vf (Js t.setup t.deeds).1 a1 c1 a2 c2 a3 c3 a4 c4 a5 c5 a6 c6)),(20,Sl a7 (((Js t.setup t.deeds).2.1).length) c7)] (Jv 6 #[I 0,Sl none 0 0,I 0,I 0,I 0,Sl none 0 0,Sl none 0 0,Sl none 0 0,Sl none 0 0,I 0,Sl none 0 0] 67 (fun b2=>JX [3,0] [] ([Sg b2 0 (ZW (Js t.setup t.deeds).1 a1 c1 a2 c2 a3 c3 a4 c4 a5 c5 a6 c6)]::[Sg b 0 (Kj t a_0 c_0 a_1 c_1 a_9 c_9)]::r_9::Lr) (Je (Jc ?_))))
 obtain ⟨x2,hx2⟩:=QW (l:=w) (k:=0) (by omega)
 obtain ⟨_,⟨rfl,w7⟩,hc2⟩:=RS.get (h_w.mono (Ja hl1 hl2)) hx2
 refine Ym (σ:=Nat×Ba×Nat×Ba×Nat×J4) (fun q_=>(J4.le G2 q_.2.2.2.2.2)∧(rI (((JH (((Js t.setup t.deeds).1).clerk) x2 ((Ka x1).1)).1).head.epoch))∧(rU (((JH (((Js t.setup t.deeds).1).clerk) x2 ((Ka x1).1)).1).head.root))∧(rU (((JH (((Js t.setup t.deeds).1).clerk) x2 ((Ka x1).1)).1).head.prev))∧(rI (((JH (((Js t.setup t.deeds).1).clerk) x2 ((Ka x1).1)).1).head.at_))∧((((JH (((Js t.setup t.deeds).1).clerk) x2 ((Ka x1).1)).1).proof.name).length≤140737488351232)∧(RS QJ q_.2.2.2.2.2 q_.2.1 q_.2.2.1 (((JH (((Js t.setup t.deeds).1).clerk) x2 ((Ka x1).1)).1).proof.entries))∧(RS EU q_.2.2.2.2.2 q_.2.2.2.1 q_.2.2.2.2.1 (((JH (((Js t.setup t.deeds).1).clerk) x2 ((Ka x1).1)).1).proof.sides))) (fun q_=>[(8,Pt q_.1 0),(9,I ((JH (((Js t.setup t.deeds).1).clerk) x2 ((Ka x1).1)).2))]) (fun q_=>q_.2.2.2.2.2) (fun q_=>([Sg q_.1 0 (ZO (JH (((Js t.setup t.deeds).1).clerk) x2 ((Ka x1).1)).1 q_.2.1 q_.2.2.1 q_.2.2.2.1 q_.2.2.2.2.1)]::[Sg b2 0 (ZW (Js t.setup t.deeds).1 a1 c1 a2 c2 a3 c3 a4 c4 a5 c5 a6 c6)]::[Sg b 0 (Kj t a_0 c_0 a_1 c_1 a_9 c_9)]::r_9::Lr)) ?_ (fun q_ hs=>?_)
 refine Kt [6,10,11] (Wz [(0,Pt b2 0),(1,(QH (Js t.setup t.deeds).1.clerk a1 c1 a2 c2 a3 c3)),(2,Sl (At b1 o1) w.length c_w),(3,Pt b1 (o1+0*1)),(4,Sr x2),(5,I ((Ka x1).1))] (JL [] [(0,0),(1,2),(2,0),(5,0)] [3,4] [6,10] (Kb ?_ (Kb ?_ K4)) (Kb ?_ (Kb ?_ K4))))
 refine Jr 3 25 (Pt b1 (o1+0*1)) [(24,Sl (At b1 o1) w.length c_w)] (fun X=>?_)
 exact JY (b:=b1) (off:=o1) (len:=w.length) (cap:=c_w) (ik:=.i64) 25 9 1 0 J5 Jn
 refine Jr 4 26 (Sr x2) [(25,Pt b1 (o1+0*1))] (fun X=>?_)
 exact JR 26 9 (cs:=[Sr x2]) 0 (Sr x2) hc2 Jn
 refine JA 6 [(23,(QH (Js t.setup t.deeds).1.clerk a1 c1 a2 c2 a3 c3)),(26,Sr x2),(27,I ((Ka x1).1))] (fun X=>?_)
 refine JM 28 (V5 G2 (KX (Js t.setup t.deeds).1.clerk a1 c1 a2 c2 a3 c3) (((Js t.setup t.deeds).1).clerk) (⟨a1,c1,a2,c2,a3,c3,rfl,w2,hs1,w3,w4,w5,hs2,hs3⟩) x2 w7 ((Ka x1).1) (by have q_:=Y0 x1;omega)) (fun v G3 L1 hl3 hp=>?_)
 obtain ⟨a8,c8,a9,c9,rfl,w8,w9,w10,w11,w12,hs8,hs9,rfl⟩:=hp
 refine JC [(6,.tuple #[(W2 (JH (((Js t.setup t.deeds).1).clerk) x2 ((Ka x1).1)).1 a8 c8 a9 c9),I ((JH (((Js t.setup t.deeds).1).clerk) x2 ((Ka x1).1)).2)]),(7,.tuple #[(W2 (JH (((Js t.setup t.deeds).1).clerk) x2 ((Ka x1).1)).1 a8 c8 a9 c9),I ((JH (((Js t.setup t.deeds).1).clerk) x2 ((Ka x1).1)).2)]),(8,(W2 (JH (((Js t.setup t.deeds).1).clerk) x2 ((Ka x1).1)).1 a8 c8 a9 c9)),(9,I ((JH (((Js t.setup t.deeds).1).clerk) x2 ((Ka x1).1)).2))] (JL [0,1,2,3,4,5] [(7,0),(8,0),(9,0)] [] [10] (Hc _) (Kb ?_ K4))
 refine JA 10 [] (fun X=>?_)
 refine Jv 8 #[I 0,U 0,U 0,I 0,Sr ([]),Sl none 0 0,Sl none 0 0] 49 (fun b3=>JC [(10,Pt b3 0)] (JL [0,1,2,3,4,5] [(7,0),(8,0),(9,0)] [] [11] (Hc _) (Kb ?_ K4)))
 refine JA 11 [(8,Pt b3 0),(29,(W2 (JH (((Js t.setup t.deeds).1).clerk) x2 ((Ka x1).1)).1 a8 c8 a9 c9))] (fun X=>?_)
 exact KI 0 ([Sg b3 0 (ZO (JH (((Js t.setup t.deeds).1).clerk) x2 ((Ka x1).1)).1 a8 c8 a9 c9)]::[Sg b2 0 (ZW (Js t.setup t.deeds).1 a1 c1 a2 c2 a3 c3 a4 c4 a5 c5 a6 c6)]::[Sg b 0 (Kj t a_0 c_0 a_1 c_1 a_9 c_9)]::r_9::Lr) (J9 [(12,I ((JH (((Js t.setup t.deeds).1).clerk) x2 ((Ka x1).1)).2))] (Kq [0,1,2,3,4,5,7,8] [(9,0),(12,0)] [] [(8,Pt b3 0),(9,I ((JH (((Js t.setup t.deeds).1).clerk) x2 ((Ka x1).1)).2))] (Hc _) (Q3 (b3,a8,c8,a9,c9,G3) ⟨hl3,w8,w9,w10,w11,w12,hs8,hs9⟩)))
 refine JA 10 [] (fun X=>?_)
 refine Jv 8 #[I 0,U 0,U 0,I 0,Sr ([]),Sl none 0 0,Sl none 0 0] 49 (fun b4=>JC [(10,Pt b4 0)] (JL [] [(0,0),(1,4),(2,0),(5,0)] [3,4] [6] (Kb ?_ (Kb ?_ K4)) (Kb ?_ K4)))
 refine Jr 3 25 (Pt b1 (o1+0*1)) [(24,Sl (At b1 o1) w.length c_w)] (fun X=>?_)
 exact JY (b:=b1) (off:=o1) (len:=w.length) (cap:=c_w) (ik:=.i64) 25 9 1 0 J5 Jn
 refine Jr 4 26 (Sr x2) [(25,Pt b1 (o1+0*1))] (fun X=>?_)
 exact JR 26 9 (cs:=[Sr x2]) 0 (Sr x2) hc2 Jn
 refine JA 6 [(23,(QH (Js t.setup t.deeds).1.clerk a1 c1 a2 c2 a3 c3)),(26,Sr x2),(27,I ((Ka x1).1))] (fun X=>?_)
 refine JM 28 (V5 G2 (KX (Js t.setup t.deeds).1.clerk a1 c1 a2 c2 a3 c3) (((Js t.setup t.deeds).1).clerk) (⟨a1,c1,a2,c2,a3,c3,rfl,w2,hs1,w3,w4,w5,hs2,hs3⟩) x2 w7 ((Ka x1).1) (by have q_:=Y0 x1;omega)) (fun v G4 L1 hl4 hp=>?_)
 obtain ⟨a10,c10,a11,c11,rfl,w13,w14,w15,w16,w17,hs10,hs11,rfl⟩:=hp
 refine JC [(6,.tuple #[(W2 (JH (((Js t.setup t.deeds).1).clerk) x2 ((Ka x1).1)).1 a10 c10 a11 c11),I ((JH (((Js t.setup t.deeds).1).clerk) x2 ((Ka x1).1)).2)]),(7,.tuple #[(W2 (JH (((Js t.setup t.deeds).1).clerk) x2 ((Ka x1).1)).1 a10 c10 a11 c11),I ((JH (((Js t.setup t.deeds).1).clerk) x2 ((Ka x1).1)).2)]),(8,(W2 (JH (((Js t.setup t.deeds).1).clerk) x2 ((Ka x1).1)).1 a10 c10 a11 c11)),(9,I ((JH (((Js t.setup t.deeds).1).clerk) x2 ((Ka x1).1)).2))] (JL [0,1,2,3,4,5] [(7,0),(8,0),(9,0)] [] [11] (Hc _) (Kb ?_ K4))
 refine JA 11 [(8,Pt b4 0),(29,(W2 (JH (((Js t.setup t.deeds).1).clerk) x2 ((Ka x1).1)).1 a10 c10 a11 c11))] (fun X=>?_)
 exact KI 0 ([Sg b4 0 (ZO (JH (((Js t.setup t.deeds).1).clerk) x2 ((Ka x1).1)).1 a10 c10 a11 c11)]::[Sg b2 0 (ZW (Js t.setup t.deeds).1 a1 c1 a2 c2 a3 c3 a4 c4 a5 c5 a6 c6)]::[Sg b 0 (Kj t a_0 c_0 a_1 c_1 a_9 c_9)]::r_9::Lr) (J9 [(12,I ((JH (((Js t.setup t.deeds).1).clerk) x2 ((Ka x1).1)).2))] (Kq [0,1,2,3,4,5,7,8] [(9,0),(12,0)] [] [(8,Pt b4 0),(9,I ((JH (((Js t.setup t.deeds).1).clerk) x2 ((Ka x1).1)).2))] (Hc _) (Q3 (b4,a10,c10,a11,c11,G4) ⟨hl4,w13,w14,w15,w16,w17,hs10,hs11⟩)))
 obtain ⟨b3,a8,c8,a9,c9,G3⟩:=q_
 obtain ⟨hle1,hj1,hj2,hj3,hj4,hj5,hj6,hj7⟩:=hs
 dsimp only at hle1 hj1 hj2 hj3 hj4 hj5 hj6 hj7
 dsimp only
 refine Jf (Jd (Jb [0] [(31,I ((JH (((Js t.setup t.deeds).1).clerk) x2 ((Ka x1).1)).2))] (K2 (Ls:=[]) (Lr:=([Sg b3 0 (ZO (JH (((Js t.setup t.deeds).1).clerk) x2 ((Ka x1).1)).1 a8 c8 a9 c9)]::[Sg b2 0 (ZW (Js t.setup t.deeds).1 a1 c1 a2 c2 a3 c3 a4 c4 a5 c5 a6 c6)]::[Sg b 0 (Kj t a_0 c_0 a_1 c_1 a_9 c_9)]::r_9::Lr)) 32 hT ((Z2 G3 ((JH (((Js t.setup t.deeds).1).clerk) x2 ((Ka x1).1)).2)).frame) (fun v G5 L1 hl5 hp=>?_) (fun v G5 L1 hl5 hp=>?_))))
 obtain ⟨hne3,rfl,rfl⟩:=hp
 refine Km ?_
 have hp5:(Zz t w).2=(JH (((Js t.setup t.deeds).1).clerk) x2 ((Ka x1).1)).2:=by
  exact JmB ‹_› ‹_› ‹_› ‹_› ‹_›
 refine Zb (WF (Lr:=Lr) [[Sg b 0 (Kj t a_0 c_0 a_1 c_1 a_9 c_9)],r_9] (Ja (Ja (Ja hl1 hl2) hle1) hl5) ?_)
 rw [hp5];exact ⟨hne3,rfl,rfl⟩
 obtain ⟨_,rfl,rfl⟩:=hp
 refine Je (Jc (Jf (Jd (Jb [2] [(34,(W2 (JH (((Js t.setup t.deeds).1).clerk) x2 ((Ka x1).1)).1 a8 c8 a9 c9))] (JM 35 (JcU G5 (ZO (JH (((Js t.setup t.deeds).1).clerk) x2 ((Ka x1).1)).1 a8 c8 a9 c9) ((JH (((Js t.setup t.deeds).1).clerk) x2 ((Ka x1).1)).1) (⟨a8,c8,a9,c9,rfl,hj1,hj2,hj3,hj4,hj5,(hj6.mono hl5),(hj7.mono hl5)⟩)) (fun v G6 L1 hl6 hp=>?_))))))
 obtain ⟨rfl,w18,rfl⟩:=hp
 refine Jb [0,0,0,0,0,0,0] [(9,I ((JF ((JH (((Js t.setup t.deeds).1).clerk) x2 ((Ka x1).1)).1)).2.2)),(10,Sr ((JF ((JH (((Js t.setup t.deeds).1).clerk) x2 ((Ka x1).1)).1)).1)),(11,Bo ((JF ((JH (((Js t.setup t.deeds).1).clerk) x2 ((Ka x1).1)).1)).2.1))] (Je (Jc (Jf (Jd (Jb [0] [(39,I ((JF ((JH (((Js t.setup t.deeds).1).clerk) x2 ((Ka x1).1)).1)).2.2))] (K2 (Ls:=[]) (Lr:=([Sg b3 0 (ZO (JH (((Js t.setup t.deeds).1).clerk) x2 ((Ka x1).1)).1 a8 c8 a9 c9)]::[Sg b2 0 (ZW (Js t.setup t.deeds).1 a1 c1 a2 c2 a3 c3 a4 c4 a5 c5 a6 c6)]::[Sg b 0 (Kj t a_0 c_0 a_1 c_1 a_9 c_9)]::r_9::Lr)) 40 hT ((Z2 G6 ((JF ((JH (((Js t.setup t.deeds).1).clerk) x2 ((Ka x1).1)).1)).2.2)).frame) (fun v G7 L1 hl7 hp=>?_) (fun v G7 L1 hl7 hp=>?_)))))))
 obtain ⟨hne4,rfl,rfl⟩:=hp
 refine Km ?_
 have hp7:(Zz t w).2=(JF ((JH (((Js t.setup t.deeds).1).clerk) x2 ((Ka x1).1)).1)).2.2:=by
  exact JqX ‹_› ‹_› ‹_› ‹_› ‹_› ‹_›
 refine Zb (WF (Lr:=Lr) [[Sg b 0 (Kj t a_0 c_0 a_1 c_1 a_9 c_9)],r_9] (Ja (Ja (Ja (Ja (Ja hl1 hl2) hle1) hl5) hl6) hl7) ?_)
 rw [hp7];exact ⟨hne4,rfl,rfl⟩
 obtain ⟨_,rfl,rfl⟩:=hp
 refine Je (Jc (Jf (Jg [0,0] [(42,Bo (!((JF ((JH (((Js t.setup t.deeds).1).clerk) x2 ((Ka x1).1)).1)).2.1)))] (Jm (!((JF ((JH (((Js t.setup t.deeds).1).clerk) x2 ((Ka x1).1)).1)).2.1)) (fun h1=>?_) (fun h1=>?_)))))
 refine Jf (Jd (Ki 43 1 #[Sr ([45])] 9 (fun b5=>Jb [0] [(4,Sl (At b5 0) 1 1)] (Je (Jc (Jo (Jj (JfE (b:=b5) (o:=0) (cs:=[Sr ([45])]) 0 (fun G8 hl8 hz1=>?_)))))))))
 have hs12:RS ES G8 (At b5 0) 1 [[45]]:=RS.lit [[Sr ([45])]] [[45]] ⟨⟨rfl,(Ha rfl)⟩,trivial⟩ hz1 (Ha rfl) (Ha rfl)
 refine Jk 4 (Jk 4 ?_)
 have hf1:(Zz t w).2=0∧(Zz t w).1=[[45]]:=by
  (have q_:=JqY (t:=t) (w:=w) ‹_› ‹_› ‹_› ‹_› ‹_› ‹_› ‹_›;rw [q_];exact ⟨rfl,rfl⟩)
 refine Jp [0] [Sl (At b5 0) 1 1] (bpx (KQ (Lr:=Lr) [[Sg b 0 (Kj t a_0 c_0 a_1 c_1 a_9 c_9)],r_9] (Ja (Ja (Ja (Ja (Ja (Ja hl1 hl2) hle1) hl5) hl6) hl7) hl8) ?_))
 rw [hf1.2]
 try dsimp only
 exact ⟨hf1.1,(At b5 0),1,rfl,hs12,rfl⟩
 refine Jq (Jc (Jf (Jd (Jb [0] [(44,Sr ((JF ((JH (((Js t.setup t.deeds).1).clerk) x2 ((Ka x1).1)).1)).1))] (Ki 45 2 #[Sr ([43]),Sr ((JF ((JH (((Js t.setup t.deeds).1).clerk) x2 ((Ka x1).1)).1)).1)] 9 (fun b6=>Jb [0] [(4,Sl (At b6 0) 2 2)] (Je (Jc (Jo (JfE (b:=b6) (o:=0) (cs:=[Sr ([43]),Sr ((JF ((JH (((Js t.setup t.deeds).1).clerk) x2 ((Ka x1).1)).1)).1)]) 0 (fun G9 hl9 hz2=>?_)))))))))))
 have hs13:RS ES G9 (At b6 0) 2 [[43],(JF ((JH (((Js t.setup t.deeds).1).clerk) x2 ((Ka x1).1)).1)).1]:=RS.lit [[Sr ([43])],[Sr ((JF ((JH (((Js t.setup t.deeds).1).clerk) x2 ((Ka x1).1)).1)).1)]] [[43],(JF ((JH (((Js t.setup t.deeds).1).clerk) x2 ((Ka x1).1)).1)).1] ⟨⟨rfl,(Ha rfl)⟩,⟨⟨rfl,w18⟩,trivial⟩⟩ hz2 (Ha rfl) (Ha rfl)
 refine Jk 4 (Jk 4 ?_)
 have hf2:(Zz t w).2=0∧(Zz t w).1=[[43],(JF ((JH (((Js t.setup t.deeds).1).clerk) x2 ((Ka x1).1)).1)).1]:=by
  (have q_:=JmC (t:=t) (w:=w) ‹_› ‹_› ‹_› ‹_› ‹_› ‹_› ‹_›;rw [q_];exact ⟨rfl,rfl⟩)
 refine Jp [0] [Sl (At b6 0) 2 2] (bpx (KQ (Lr:=Lr) [[Sg b 0 (Kj t a_0 c_0 a_1 c_1 a_9 c_9)],r_9] (Ja (Ja (Ja (Ja (Ja (Ja hl1 hl2) hle1) hl5) hl6) hl7) hl9) ?_))
 rw [hf2.2]
 try dsimp only
 exact ⟨hf2.1,(At b6 0),2,rfl,hs13,rfl⟩
theorem Jn0 (G:J4) (b:Nat) (t:KD) (a_0:Ba) (c_0:Nat) (a_1:Ba) (c_1:Nat) (a_9:Ba) (c_9:Nat) (r_9:Bg) (h_0:RS ES G a_0 c_0 t.setup.names) (h_1:RS EU G a_1 c_1 t.setup.keys) (h_2:rI t.setup.most) (h_3:rI t.setup.batch) (h_4:rI t.setup.every) (h_5:rI t.setup.least) (h_6:rI t.setup.top) (h_7:rI t.setup.lost) (h_8:rI t.setup.reach) (h_9:J0 Wr G a_9 c_9 t.deeds r_9) (a_w:Ba) (c_w:Nat) (w:Bs) (h_w:RS ES G a_w c_w w) (hw:w.length=1) (hs:∀ s∈w,s.length≤1048576) (ht:t.deeds.length≤200):ZV Tryz.prog 88 #[Pt b 0,Sl a_w w.length c_w] G [[Sg b 0 [Sl a_0 t.setup.names.length c_0,Sl a_1 t.setup.keys.length c_1,I t.setup.most,I t.setup.batch,I t.setup.every,I t.setup.least,I t.setup.top,I t.setup.lost,I t.setup.reach,Sl a_9 t.deeds.length c_9]],r_9] (fun u G' L'=>((YJ t w).2=0)∧∃ (az1:Ba) (cz2:Nat),u=Sl az1 (((YJ t w).1).length) cz2∧(RS ES G' az1 cz2 ((YJ t w).1))∧L'=[[Sg b 0 [Sl a_0 t.setup.names.length c_0,Sl a_1 t.setup.keys.length c_1,I t.setup.most,I t.setup.batch,I t.setup.every,I t.setup.least,I t.setup.top,I t.setup.lost,I t.setup.reach,Sl a_9 t.deeds.length c_9]],r_9]) (fun u _ L'=>(¬ (YJ t w).2=0)∧u=VM ((YJ t w).2)∧L'=[[Sg b 0 [Sl a_0 t.setup.names.length c_0,Sl a_1 t.setup.keys.length c_1,I t.setup.most,I t.setup.batch,I t.setup.every,I t.setup.least,I t.setup.top,I t.setup.lost,I t.setup.reach,Sl a_9 t.deeds.length c_9]],r_9]):=by
 intro Lr
 refine ZG Tryz.func88 38 [(0,Pt b 0),(1,Sl a_w w.length c_w)] rfl (fun w0 G0 hT=>?_)
 show TC _ _ _ _ _ ([Sg b 0 (Kj t a_0 c_0 a_1 c_1 a_9 c_9)]::r_9::Lr)
 refine Jg [0] [] (Jf (Jd (Jb [0] [(8,Sl a_w w.length c_w)] ?_)))
 obtain ⟨b1,o1,rfl⟩:=RS.addr h_w (k:=0) (by omega)
 obtain ⟨x1,hx1⟩:=QW (l:=w) (k:=0) (by omega)
 obtain ⟨_,⟨rfl,_⟩,hc1⟩:=RS.get h_w hx1
 refine JY (b:=b1) (off:=o1) (len:=w.length) (cap:=c_w) (ik:=.i64) 9 9 1 0 J5 (JR 10 9 (cs:=[Sr x1]) 0 (Sr x1) hc1 (K2 (Ls:=[]) (Lr:=([Sg b 0 (Kj t a_0 c_0 a_1 c_1 a_9 c_9)]::r_9::Lr)) 11 hT ((Y1 G x1 (by have q_:=hs _ (Hb hx1);omega)).frame) (fun v G1 L1 hl1 hp=>?_) (fun v G1 L1 hl1 hp=>?_)))
 obtain ⟨hne1,rfl,rfl⟩:=hp
 refine Km ?_
 have hp1:(YJ t w).2=(Ka x1).2:=by
  exact JqZ ‹_› ‹_›
 refine Zb (WF (Lr:=Lr) [[Sg b 0 (Kj t a_0 c_0 a_1 c_1 a_9 c_9)],r_9] hl1 ?_)
 rw [hp1];exact ⟨hne1,rfl,rfl⟩
 obtain ⟨_,rfl,rfl⟩:=hp
 refine Jb [0] [(5,I ((Ka x1).1))] (Je (Jc (Jf (Jd (Jb [0] [(13,Pt b 0)] (Jw 1 (Jw 1 (K2 (Ls:=[[Sg b 0 (Kj t a_0 c_0 a_1 c_1 a_9 c_9)],r_9]) (Lr:=Lr) 14 hT (JcH G1 b t a_0 c_0 a_1 c_1 a_9 c_9 r_9 (h_0.mono hl1) (h_1.mono hl1) h_2 h_3 h_4 h_5 h_6 h_7 h_8 (h_9.mono hl1) ‹_›) (fun v G2 L1 hl2 hp=>?_) (fun v G2 L1 hl2 hp=>?_)))))))))
 obtain ⟨hne2,rfl,rfl⟩:=hp
 refine Km ?_
 have hp3:(YJ t w).2=(Js t.setup t.deeds).2.2:=by
  exact Jq0 ‹_› ‹_› ‹_›
 refine Zb (WF (Lr:=Lr) [[Sg b 0 (Kj t a_0 c_0 a_1 c_1 a_9 c_9)],r_9] (Ja hl1 hl2) ?_)
 rw [hp3];exact ⟨hne2,rfl,rfl⟩
 obtain ⟨_,a1,c1,a2,c2,a3,c3,a4,c4,a5,c5,a6,c6,a7,c7,rfl,_,_,_,_,_,_,_,hs4,_,_,_,_,rfl⟩:=hp
 refine Jb [0,0,0] [(15,(Vf (Js t.setup t.deeds).1 a1 c1 a2 c2 a3 c3 a4 c4 a5 c5 a6 c6)),(16,Sl a7 (((Js t.setup t.deeds).2.1).length) c7)] (Jv 6 #[I 0,Sl none 0 0,I 0,I 0,I 0,Sl none 0 0,Sl none 0 0,Sl none 0 0,Sl none 0 0,I 0,Sl none 0 0] 67 (fun b2=>JX [3,0] [] ([Sg b2 0 (ZW (Js t.setup t.deeds).1 a1 c1 a2 c2 a3 c3 a4 c4 a5 c5 a6 c6)]::[Sg b 0 (Kj t a_0 c_0 a_1 c_1 a_9 c_9)]::r_9::Lr) (Je (Jc (Jf (Jg [0,0,2,0,0] [(21,Bo (decide ((Ka x1).1 ≥ ((((Js t.setup t.deeds).1).owners).length:Int))))] (Jm (decide ((Ka x1).1 ≥ ((((Js t.setup t.deeds).1).owners).length:Int))) (fun h1=>?_) (fun h1=>?_))))))))
 refine Jd (K2 (Ls:=[]) (Lr:=([Sg b2 0 (ZW (Js t.setup t.deeds).1 a1 c1 a2 c2 a3 c3 a4 c4 a5 c5 a6 c6)]::[Sg b 0 (Kj t a_0 c_0 a_1 c_1 a_9 c_9)]::r_9::Lr)) 22 hT ((Z2 G2 5).frame) (fun v G3 L1 hl3 hp=>?_) (fun v G3 L1 hl3 hp=>?_))
 obtain ⟨hne3,rfl,rfl⟩:=hp
 refine Km ?_
 have hp5:(YJ t w).2=5:=by
  exact Jq1 ‹_› ‹_› ‹_› (by omega)
 refine Zb (WF (Lr:=Lr) [[Sg b 0 (Kj t a_0 c_0 a_1 c_1 a_9 c_9)],r_9] (Ja (Ja hl1 hl2) hl3) ?_)
 rw [hp5];exact ⟨hne3,rfl,rfl⟩
 obtain ⟨he3,rfl,rfl⟩:=hp
 exact absurd he3 (by decide)
 refine Jq (Jc ?_)
 obtain ⟨kn1,hkn1⟩:∃ k_:Nat,(Ka x1).1=(k_:Int):=⟨((Ka x1).1).toNat,by (have q_:=Y0 x1;omega)⟩
 have e1:(Ka x1).1=(kn1:Int):=hkn1
 refine Wa 5 (I (kn1:Int)) (congrArg I e1) (Jf ?_)
 obtain ⟨b3,o2,rfl⟩:=RS.addr hs4 (k:=kn1) (by omega)
 obtain ⟨x2,hx2⟩:=QW (l:=((Js t.setup t.deeds).1).owners) (k:=kn1) (by omega)
 obtain ⟨_,⟨a8,c8,rfl,_,_,w9,_,_,_,_,w13⟩,hc2⟩:=RS.get hs4 hx2
 refine Kt [13,14] (Wz [(0,Pt b2 7),(1,Sl (At b3 o2) ((((Js t.setup t.deeds).1).owners).length) c4),(2,I (kn1:Int)),(3,Pt b3 (o2+kn1*8)),(4,Pt b3 (o2+kn1*8+2)),(5,Pt b3 (o2+kn1*8+2)),(6,I x2.head.epoch),(7,Pt b2 7),(8,Sl (At b3 o2) ((((Js t.setup t.deeds).1).owners).length) c4),(9,I (kn1:Int)),(10,Pt b3 (o2+kn1*8)),(11,Pt b3 (o2+kn1*8+7)),(12,I x2.had)] (JL [] [(0,0),(1,2),(2,0),(4,0),(5,0),(7,0),(8,2),(9,0),(11,0)] [3,6,10,12] [13] (Kb ?_ (Kb ?_ (Kb ?_ (Kb ?_ K4)))) (Kb ?_ K4)))
 refine Jr 3 26 (Pt b3 (o2+kn1*8)) [(24,Sl (At b3 o2) ((((Js t.setup t.deeds).1).owners).length) c4),(25,I (kn1:Int))] (fun X=>?_)
 exact JY (b:=b3) (off:=o2) (len:=(((Js t.setup t.deeds).1).owners).length) (cap:=c4) (ik:=.i64) 26 76 8 kn1 J5 Jn
 refine Jr 6 29 (I x2.head.epoch) [(28,Pt b3 (o2+kn1*8+2))] (fun X=>?_)
 exact JR 29 2 (cs:=(KT x2 a8 c8)) 2 (I x2.head.epoch) hc2 Jn
 refine Jr 10 33 (Pt b3 (o2+kn1*8)) [(31,Sl (At b3 o2) ((((Js t.setup t.deeds).1).owners).length) c4),(32,I (kn1:Int))] (fun X=>?_)
 exact JY (b:=b3) (off:=o2) (len:=(((Js t.setup t.deeds).1).owners).length) (cap:=c4) (ik:=.i64) 33 76 8 kn1 J5 Jn
 refine Jr 12 35 (I x2.had) [(34,Pt b3 (o2+kn1*8+7))] (fun X=>?_)
 exact JR 35 3 (cs:=(KT x2 a8 c8)) 7 (I x2.had) hc2 Jn
 refine JA 13 [(29,I x2.head.epoch),(35,I x2.had)] (fun X=>?_)
 refine Ki 36 2 #[I x2.head.epoch,I x2.had] 3 (fun b4=>JC [(13,Sl (At b4 0) 2 2)] (JL [0,1,2,3,4,5,6,7,8,9,10,11,12] [] [] [14] (Hc _) (Kb ?_ K4)))
 refine JA 14 [(36,Sl (At b4 0) 2 2)] (fun X=>?_)
 refine Qu (b:=b4) (o:=0) (cs:=[I x2.head.epoch,I x2.had]) 0 (fun G4 hl4 hz1=>?_)
 have hs9:RS EI G4 (At b4 0) 2 [x2.head.epoch,x2.had]:=RS.lit [[I x2.head.epoch],[I x2.had]] [x2.head.epoch,x2.had] ⟨⟨rfl,w9⟩,⟨⟨rfl,w13⟩,trivial⟩⟩ hz1 (Ha rfl) (Ha rfl)
 refine Ye (Ls:=[]) (Lr:=([]::[Sg b2 0 (ZW (Js t.setup t.deeds).1 a1 c1 a2 c2 a3 c3 (At b3 o2) c4 a5 c5 a6 c6)]::[Sg b 0 (Kj t a_0 c_0 a_1 c_1 a_9 c_9)]::r_9::Lr)) 37 hT ((JgB G4 (At b4 0) 2 ([x2.head.epoch,x2.had]) hs9 (by simp)).frame) (fun v G5 L1 hl5 hp=>?_)
 obtain ⟨_,a9,c9,_,rfl,hr1,rfl⟩:=hp
 refine JC [(14,Sl a9 ((([x2.head.epoch,x2.had]).map Lib.itoa).length) c9),(15,Sl a9 ((([x2.head.epoch,x2.had]).map Lib.itoa).length) c9)] (Kq [0,1,2,3,4,5,6,7,8,9,10,11,12] [(15,0)] [] [(4,Sl a9 ((([x2.head.epoch,x2.had]).map Lib.itoa).length) c9)] (Hc _) (Jc (Jo (Wm (E:=ES) 0 hr1 (by (try simp only [ES,EI,Hr,Hf,Hg]);omega) (fun G6 hl6 hs10=>Jk 4 (Jk 4 ?_))))))
 have hf1:(YJ t w).2=0∧(YJ t w).1=([x2.head.epoch,x2.had]).map Lib.itoa:=by
  (have q_:=JmD (t:=t) (w:=w) ‹_› ‹_› ‹_› ‹_› ‹_›;rw [q_];exact ⟨rfl,rfl⟩)
 refine Jp [0] [Sl a9 ((([x2.head.epoch,x2.had]).map Lib.itoa).length) c9] (bpx (KQ (Lr:=Lr) [[Sg b 0 (Kj t a_0 c_0 a_1 c_1 a_9 c_9)],r_9] (Ja (Ja (Ja (Ja hl1 hl2) hl4) hl5) hl6) ?_))
 rw [hf1.2]
 try dsimp only
 exact ⟨hf1.1,a9,c9,rfl,hs10,rfl⟩
def JbZ (x:ZC):Prop:=1≤x.kind∧x.kind≤3∧(x.kind=2→0≤x.n∧x.n≤6)
abbrev Jdm (t:JK):Prop:=∀ x∈t.events,JbZ x
theorem see_06 (o:Qh) (l:List JV) (r:QL):0≤(JD o l r).2.1∧(JD o l r).2.1≤6:=by
 have hv:0≤(J2 o l r).1∧(J2 o l r).1≤6:=by
  unfold J2 K9
  (repeat' split) <;> simp_all <;> omega
 unfold JD
 (repeat' split) <;> simp only <;> omega
theorem Jlw {t:JK} {es:List ZC} {y:ZC} (h:Jdm t) (e:es=t.events++[y]) (hy:JbZ y):∀ x∈es,JbZ x:=by
 intro x hx
 rw [e] at hx
 rcases List.mem_append.1 hx with hx | hx
 · exact h x hx
 · rw [HD.1 hx];exact hy
theorem ev_see {t:JK} (h:Jdm t) (l:JQ):Jdm (Yj t l):=Jlw (y:=⟨2,l.to_,(JD (Jt t l.to_) l.heads l.reply).2.1,_⟩) h rfl ⟨by simp only;omega,by simp only;omega,fun _=>see_06 _ _ _⟩
theorem Jn1 {t:JK} (h:Jdm t) (l:JQ):Jdm (ZH t l):=by
 unfold ZH
 split
 ·
  unfold Ql;split
  · exact h
  · exact h
 · exact ev_see h l
theorem JgE:∀ (ls:List JQ) {t:JK},Jdm t→Jdm (Zh t ls)
 | [],_,h=>h
 | l::ls,_,h=>JgE ls (Jn1 h l)
theorem ev_ask {t:JK} (h:Jdm t) (k:Int):Jdm (Zv t k):=by
 unfold Zv
 split
 · exact h
 ·
  split
  · exact Jlw (t:=Ja3 t k) h rfl ⟨by simp only;omega,by simp only;omega,fun hc=>by simp at hc⟩
  · exact h
theorem JmE:∀ (ks:List Nat) {t:JK},Jdm t→Jdm (ks.foldl (fun t (k:Nat)=>Zv t (k:Int)) t)
 | [],_,h=>h
 | k::ks,_,h=>JmE ks (ev_ask h k)
theorem ev_do {t:JK} (h:Jdm t) (d:KV):Jdm (YB t d):=by
 unfold YB
 split
 ·
  unfold Wq
  split
  · exact h
  ·
   split
   · exact h
   ·
    split
    · exact h
    · exact Jlw h rfl ⟨by simp only;omega,by simp only;omega,fun hc=>by simp at hc⟩
 ·
  split
  · exact h
  ·
   split
   ·
    unfold Jgs;split
    · exact h
    · exact h
   ·
    split
    ·
     unfold WA
     split
     · exact h
     · exact JmE _ (JgE _ h)
    · exact h
theorem JpZ:∀ (l:List KV) {t:JK},Jdm t→Jdm (Jav t l)
 | [],_,h=>h
 | d::l,_,h=>JpZ l (ev_do h d)
theorem YK (s:Ky) (l:List KV):∀ x∈(Js s l).2.1,JbZ x:=by
 unfold Js
 split
 · intro x hx;simp at hx
 · exact JpZ l (t:=K0 s) (by intro x hx;simp [K0] at hx)
def bump (m:List Int) (k:Nat):List Int:=m.set k (m[k]?.getD 0+1)
def VN (m:List Int) (x:ZC):List Int:=if x.kind=2 then bump (bump m (x.kind-1).toNat) (3+x.n).toNat else bump m (x.kind-1).toNat
def Jp0 (l:List ZC):List Int:=l.foldl VN (Hi 10 0)
def EvI (n:Nat) (m:List Int):Prop:=m.length=10∧∀ c∈m,0≤c∧c≤n
theorem EvI.bump {n:Nat} {m:List Int} (h:EvI n m) (k:Nat):EvI (n+1) (bump m k):=by
 refine ⟨by simp [Go.Proofs.YteaampgpgokjmaaGreatDoor.bump,h.1],fun c hc=>?_⟩
 unfold Go.Proofs.YteaampgpgokjmaaGreatDoor.bump at hc
 rcases List.mem_or_eq_of_mem_set hc with hc | hc
 · have:=h.2 c hc;omega
 ·
  rw [hc]
  cases hk:m[k]? with
  | none=>simp;omega
  | some v=>have:=h.2 v (Hb hk);simp;omega
theorem Jd2 {n:Nat} {m:List Int} {k:Nat} {v:Int} (h:EvI n m) (hk:m[k]? = some v):EvI (n+1) (m.set k (v+1)):=by
 have:=h.bump k
 unfold Go.Proofs.YteaampgpgokjmaaGreatDoor.bump at this
 rw [hk] at this;exact this
theorem Jd3 {n n':Nat} {m:List Int} (h:EvI n m) (hn:n≤n'):EvI n' m:=⟨h.1,fun c hc=>by have:=h.2 c hc;omega⟩
theorem Jkb {l:List ZC} {i:Nat} {x:ZC} (hx:l[i]? = some x):(l.take (i+1)).foldl VN (Hi 10 0)=VN ((l.take i).foldl VN (Hi 10 0)) x:=by
 rw [HF,hx];simp [List.foldl_append]
theorem Jp1 {l:List ZC} {i:Nat} {x:ZC} {m:List Int} {k:Nat} {v:Int} (hx:l[i]? = some x) (hm:m=(l.take i).foldl VN (Hi 10 0)∧EvI (2*i) m) (hk:x.kind-1=(k:Int)) (hv:m[k]? = some v) (h2:¬ x.kind=2) :
  m.set k (v+1)=(l.take (i+1)).foldl VN (Hi 10 0)∧EvI (2*(i+1)) (m.set k (v+1)):=by
 refine ⟨?_,Jd3 (Jd2 hm.2 hv) (by omega)⟩
 rw [Jkb hx,← hm.1]
 unfold VN bump
 rw [if_neg h2,hk,Hu,hv];rfl
theorem Jp2 {l:List ZC} {i:Nat} {x:ZC} {m:List Int} {k k2:Nat} {v v2:Int} (hx:l[i]? = some x) (hm:m=(l.take i).foldl VN (Hi 10 0)∧EvI (2*i) m) (hk:x.kind-1=(k:Int)) (hv:m[k]? = some v) (h2:x.kind=2) (hk2:3+x.n=(k2:Int)) (hv2:(m.set k (v+1))[k2]? = some v2) :
  (m.set k (v+1)).set k2 (v2+1)=(l.take (i+1)).foldl VN (Hi 10 0)∧EvI (2*(i+1)) ((m.set k (v+1)).set k2 (v2+1)):=by
 refine ⟨?_,Jd3 (Jd2 (Jd2 hm.2 hv) hv2) (by omega)⟩
 rw [Jkb hx,← hm.1]
 unfold VN bump
 rw [if_pos h2,hk,hk2,Hu,Hu,hv]
 simp only [Hh]
 rw [hv2];rfl
theorem EvI.start:EvI 0 (Hi 10 0):=⟨by simp,fun c hc=>by have:=List.eq_of_mem_replicate hc;omega⟩
def Yz (t:KD) (w:Bs):Bs×Int:=if ¬ (Js t.setup t.deeds).2.2=0 then ([],(Js t.setup t.deeds).2.2) else ((Jp0 (Js t.setup t.deeds).2.1).map Lib.itoa,0)
theorem Jkc (G:J4) (b:Nat) (t:KD) (a_0:Ba) (c_0:Nat) (a_1:Ba) (c_1:Nat) (a_9:Ba) (c_9:Nat) (r_9:Bg) (h_0:RS ES G a_0 c_0 t.setup.names) (h_1:RS EU G a_1 c_1 t.setup.keys) (h_2:rI t.setup.most) (h_3:rI t.setup.batch) (h_4:rI t.setup.every) (h_5:rI t.setup.least) (h_6:rI t.setup.top) (h_7:rI t.setup.lost) (h_8:rI t.setup.reach) (h_9:J0 Wr G a_9 c_9 t.deeds r_9) (a_w:Ba) (c_w:Nat) (w:Bs) (h_w:RS ES G a_w c_w w) (ht:t.deeds.length≤200):ZV Tryz.prog 87 #[Pt b 0,Sl a_w w.length c_w] G [[Sg b 0 [Sl a_0 t.setup.names.length c_0,Sl a_1 t.setup.keys.length c_1,I t.setup.most,I t.setup.batch,I t.setup.every,I t.setup.least,I t.setup.top,I t.setup.lost,I t.setup.reach,Sl a_9 t.deeds.length c_9]],r_9] (fun u G' L'=>((Yz t w).2=0)∧∃ (az1:Ba) (cz2:Nat),u=Sl az1 (((Yz t w).1).length) cz2∧(RS ES G' az1 cz2 ((Yz t w).1))∧L'=[[Sg b 0 [Sl a_0 t.setup.names.length c_0,Sl a_1 t.setup.keys.length c_1,I t.setup.most,I t.setup.batch,I t.setup.every,I t.setup.least,I t.setup.top,I t.setup.lost,I t.setup.reach,Sl a_9 t.deeds.length c_9]],r_9]) (fun u _ L'=>(¬ (Yz t w).2=0)∧u=VM ((Yz t w).2)∧L'=[[Sg b 0 [Sl a_0 t.setup.names.length c_0,Sl a_1 t.setup.keys.length c_1,I t.setup.most,I t.setup.batch,I t.setup.every,I t.setup.least,I t.setup.top,I t.setup.lost,I t.setup.reach,Sl a_9 t.deeds.length c_9]],r_9]):=by
 intro Lr
 refine ZG Tryz.func87 44 [(0,Pt b 0),(1,Sl a_w w.length c_w)] rfl (fun w0 G0 hT=>?_)
 show TC _ _ _ _ _ ([Sg b 0 (Kj t a_0 c_0 a_1 c_1 a_9 c_9)]::r_9::Lr)
 refine Jg [0] [] (Jf (Jd (Jb [0] [(11,Pt b 0)] (Jw 1 (Jw 1 (K2 (Ls:=[[Sg b 0 (Kj t a_0 c_0 a_1 c_1 a_9 c_9)],r_9]) (Lr:=Lr) 12 hT (JcH G b t a_0 c_0 a_1 c_1 a_9 c_9 r_9 h_0 h_1 h_2 h_3 h_4 h_5 h_6 h_7 h_8 h_9 ‹_›) (fun v G1 L1 hl1 hp=>?_) (fun v G1 L1 hl1 hp=>?_)))))))
 obtain ⟨hne1,rfl,rfl⟩:=hp
 refine Km ?_
 have hp1:(Yz t w).2=(Js t.setup t.deeds).2.2:=by
  unfold Yz;rw [if_pos ‹_›]
 refine Zb (WF (Lr:=Lr) [[Sg b 0 (Kj t a_0 c_0 a_1 c_1 a_9 c_9)],r_9] hl1 ?_)
 rw [hp1];exact ⟨hne1,rfl,rfl⟩
 obtain ⟨_,a1,c1,a2,c2,a3,c3,a4,c4,a5,c5,a6,c6,a7,c7,rfl,_,_,_,_,_,_,_,_,_,_,_,hs7,rfl⟩:=hp
 refine Jb [0,0,0] [(13,(Vf (Js t.setup t.deeds).1 a1 c1 a2 c2 a3 c3 a4 c4 a5 c5 a6 c6)),(14,Sl a7 (((Js t.setup t.deeds).2.1).length) c7)] (Jv 5 #[I 0,Sl none 0 0,I 0,I 0,I 0,Sl none 0 0,Sl none 0 0,Sl none 0 0,Sl none 0 0,I 0,Sl none 0 0] 67 (fun b1=>JX [3,0] [(6,Sl a7 (((Js t.setup t.deeds).2.1).length) c7)] ([Sg b1 0 (ZW (Js t.setup t.deeds).1 a1 c1 a2 c2 a3 c3 a4 c4 a5 c5 a6 c6)]::[Sg b 0 (Kj t a_0 c_0 a_1 c_1 a_9 c_9)]::r_9::Lr) (Je (Jc (Jf (Jd (Jgh (E:=EI) (bytes:=8) 15 39 3 10 (0:Int) ⟨rfl,rfl,fun G=>⟨rfl,by omega⟩⟩ J5 J5 (by kernel_rfl) (fun a8 r1 hr1=>Jb [0] [(7,Sl a8 ((Hi 10 (0:Int)).length) 10)] (Je (Jc (Jf (Jg [0,0,0] [(16,Sl a7 (((Js t.setup t.deeds).2.1).length) c7),(17,I (((Js t.setup t.deeds).2.1).length:Int)),(18,I 0)] (Jx ?_)))))))))))))
 have hlm_hs7:((Js t.setup t.deeds).2.1).length≤9223372036854775807:=Hy (hs7).le (hs7).max
 refine Qb (σ:=Nat×Ba×Nat×Bg×List Int×J4) (fun q_=>(J4.le G1 q_.2.2.2.2.2)∧(q_.1≤((Js t.setup t.deeds).2.1).length)∧(J0 EI q_.2.2.2.2.2 q_.2.1 q_.2.2.1 q_.2.2.2.2.1 q_.2.2.2.1)∧(q_.2.2.2.2.1=((Js t.setup t.deeds).2.1.take q_.1).foldl VN (Hi 10 0)∧EvI (2*q_.1) q_.2.2.2.2.1)∧((Js t.setup t.deeds).2.1.length≤1000000000000000)) (fun q_=>[(7,Sl q_.2.1 q_.2.2.2.2.1.length q_.2.2.1),(16,Sl a7 (((Js t.setup t.deeds).2.1).length) c7),(17,I (((Js t.setup t.deeds).2.1).length:Int)),(18,I (q_.1:Int))]) (fun q_=>q_.2.2.2.2.2) (fun q_=>(q_.2.2.2.1::[Sg b1 0 (ZW (Js t.setup t.deeds).1 a1 c1 a2 c2 a3 c3 a4 c4 a5 c5 a6 c6)]::[Sg b 0 (Kj t a_0 c_0 a_1 c_1 a_9 c_9)]::r_9::Lr)) (fun q_=>((Js t.setup t.deeds).2.1).length-q_.1) (0,a8,10,r1,(Hi 10 (0:Int)),G1) ⟨(Jh _),(by (try dsimp only);exact Nat.zero_le _),hr1,⟨rfl,EvI.start⟩,(by (try dsimp only);have q_:=(by assumption:RS QR _ _ _ (Js t.setup t.deeds).2.1).fit;simp only [QR] at q_;omega)⟩ (fun q_ hs=>?_)
 obtain ⟨i,ax,cx,rx,xx,g⟩:=q_
 obtain ⟨hle,hi,hrx,hxx,hfi⟩:=hs
 dsimp only at hle hi hrx hxx hfi
 dsimp only
 refine Jg [0] [(19,Bo (decide ((i:Int)<(((Js t.setup t.deeds).2.1).length:Int))))] (Jf (Jm (decide ((i:Int)<(((Js t.setup t.deeds).2.1).length:Int))) (fun h1=>?_) (fun h1=>?_)))
 refine Jq (Jc (Jf (Jx (Jf (Jd ?_)))))
 obtain ⟨b2,o1,rfl⟩:=RS.addr (hs7.mono hle) (k:=i) (by omega)
 obtain ⟨x1,hx1⟩:=QW (l:=(Js t.setup t.deeds).2.1) (k:=i) (by omega)
 obtain ⟨_,⟨rfl,_,_,_,_⟩,hc1⟩:=RS.get (hs7.mono hle) hx1
 refine JY (b:=b2) (off:=o1) (len:=((Js t.setup t.deeds).2.1).length) (cap:=c7) (ik:=.i64) 20 74 4 i J5 (JR 21 74 (cs:=[I x1.kind,I x1.who,I x1.n,I x1.at_]) 0 (.agg #[I x1.kind,I x1.who,I x1.n,I x1.at_]) hc1 (Jv 9 #[I 0,I 0,I 0,I 0] 74 (fun b3=>JX [3] [] ([Sg b3 0 [I x1.kind,I x1.who,I x1.n,I x1.at_]]::rx::[Sg b1 0 (ZW (Js t.setup t.deeds).1 a1 c1 a2 c2 a3 c3 a4 c4 a5 c5 a6 c6)]::[Sg b 0 (Kj t a_0 c_0 a_1 c_1 a_9 c_9)]::r_9::Lr) (Je (Jc (Jf (Jd (Jb [0,0,2,0] [(22,Sl ax xx.length cx),(25,I (Hk.wrap (x1.kind-1)))] (Kp 25 (x1.kind-1) (by (have q_:=YK _ _ _ (Hb hx1);unfold JbZ at q_;have q2_:=hxx.2.1;omega)) ?_)))))))))
 obtain ⟨kn1,hkn1⟩:∃ k_:Nat,x1.kind-1=(k_:Int):=⟨(x1.kind-1).toNat,by (have q_:=YK _ _ _ (Hb hx1);unfold JbZ at q_;have q2_:=hxx.2.1;omega)⟩
 have e1:x1.kind-1=(kn1:Int):=hkn1
 refine KE 25 (I (kn1:Int)) (congrArg I e1) ?_
 obtain ⟨x2,hx2⟩:=QW (l:=xx) (k:=kn1) (by (have q_:=YK _ _ _ (Hb hx1);unfold JbZ at q_;have q2_:=hxx.2.1;omega))
 obtain ⟨b4,o2,_,_,⟨rfl,_⟩,ha1,hre1,hc2⟩:=J0.ix hrx hx2
 refine Qv (b:=b4) (off:=o2) (len:=xx.length) (cap:=cx) (ik:=.i64) 26 3 1 kn1 ha1 (by (have q_:=YK _ _ _ (Hb hx1);unfold JbZ at q_;have q2_:=hxx.2.1;omega)) (W8 (off:=o2) (p:=kn1*1) (cs:=[I x2]) 27 3 1 0 (I x2) hre1 hc2 (Jb [0] [(28,I (Hk.wrap (x2+1)))] (Kp 28 (x2+1) (by (have q_:=hxx.2.2 _ (Hb hx2);omega)) ?_)))
 obtain ⟨_,hx3⟩:=QW (l:=xx) (k:=kn1) (by (have q_:=YK _ _ _ (Hb hx1);unfold JbZ at q_;have q2_:=hxx.2.1;omega))
 obtain ⟨b5,o3,_,_,⟨rfl,_⟩,ha2,_,_⟩:=J0.ix hrx hx3
 refine Qv (b:=b5) (off:=o3) (len:=xx.length) (cap:=cx) (ik:=.i64) 29 3 1 kn1 ha2 (by (have q_:=YK _ _ _ (Hb hx1);unfold JbZ at q_;have q2_:=hxx.2.1;omega)) (YA (b:=b5) (off:=o3) 1 hrx kn1 (x2+1) ha2 (by (have q_:=YK _ _ _ (Hb hx1);unfold JbZ at q_;have q2_:=hxx.2.1;omega)) (I (x2+1)) [I (x2+1)] ⟨rfl,(by (have q_:=hxx.2.2 _ (Hb hx2);omega))⟩ (fun r2 hr2=>?_))
 have e2:xx.length=(xx.set kn1 (x2+1)).length:=(HI ..).symm
 refine KE 7 (Sl ax ((xx.set kn1 (x2+1)).length) cx) (congrArg (Sl ax · cx) e2) (KE 22 (Sl ax ((xx.set kn1 (x2+1)).length) cx) (congrArg (Sl ax · cx) e2) (Je (Jc (Jg [0,2,0] [(32,Bo (decide (x1.kind=2)))] (Jm (decide (x1.kind=2)) (fun h2=>?_) (fun h2=>?_))))))
 refine Jd (Jb [0,0,2,0] [(33,Sl ax ((xx.set kn1 (x2+1)).length) cx),(36,I (Hk.wrap (3+x1.n)))] (Kp 36 (3+x1.n) (by (have q_:=YK _ _ _ (Hb hx1);unfold JbZ at q_;have q2_:=hxx.2.1;omega)) ?_))
 obtain ⟨kn2,hkn2⟩:∃ k_:Nat,3+x1.n=(k_:Int):=⟨(3+x1.n).toNat,by (have q_:=YK _ _ _ (Hb hx1);unfold JbZ at q_;have q2_:=hxx.2.1;omega)⟩
 have e3:3+x1.n=(kn2:Int):=hkn2
 refine KE 36 (I (kn2:Int)) (congrArg I e3) ?_
 obtain ⟨x4,hx4⟩:=QW (l:=xx.set kn1 (x2+1)) (k:=kn2) (by (have q_:=YK _ _ _ (Hb hx1);unfold JbZ at q_;have q2_:=hxx.2.1;omega))
 obtain ⟨b6,o4,_,_,⟨rfl,_⟩,ha3,hre3,hc4⟩:=J0.ix hr2 hx4
 refine Qv (b:=b6) (off:=o4) (len:=(xx.set kn1 (x2+1)).length) (cap:=cx) (ik:=.i64) 37 3 1 kn2 ha3 (by (have q_:=YK _ _ _ (Hb hx1);unfold JbZ at q_;have q2_:=hxx.2.1;omega)) (W8 (off:=o4) (p:=kn2*1) (cs:=[I x4]) 38 3 1 0 (I x4) hre3 hc4 (Jb [0] [(39,I (Hk.wrap (x4+1)))] (Kp 39 (x4+1) (by (have q_:=(Jd2 hxx.2 hx2).2 _ (Hb hx4);omega)) ?_)))
 obtain ⟨_,hx5⟩:=QW (l:=xx.set kn1 (x2+1)) (k:=kn2) (by (have q_:=YK _ _ _ (Hb hx1);unfold JbZ at q_;have q2_:=hxx.2.1;omega))
 obtain ⟨b7,o5,_,_,⟨rfl,_⟩,ha4,_,_⟩:=J0.ix hr2 hx5
 refine Qv (b:=b7) (off:=o5) (len:=(xx.set kn1 (x2+1)).length) (cap:=cx) (ik:=.i64) 40 3 1 kn2 ha4 (by (have q_:=YK _ _ _ (Hb hx1);unfold JbZ at q_;have q2_:=hxx.2.1;omega)) (YA (b:=b7) (off:=o5) 1 hr2 kn2 (x4+1) ha4 (by (have q_:=YK _ _ _ (Hb hx1);unfold JbZ at q_;have q2_:=hxx.2.1;omega)) (I (x4+1)) [I (x4+1)] ⟨rfl,(by (have q_:=(Jd2 hxx.2 hx2).2 _ (Hb hx4);omega))⟩ (fun r3 hr3=>?_))
 have e4:(xx.set kn1 (x2+1)).length=((xx.set kn1 (x2+1)).set kn2 (x4+1)).length:=(HI ..).symm
 exact KE 7 (Sl ax (((xx.set kn1 (x2+1)).set kn2 (x4+1)).length) cx) (congrArg (Sl ax · cx) e4) (KE 33 (Sl ax (((xx.set kn1 (x2+1)).set kn2 (x4+1)).length) cx) (congrArg (Sl ax · cx) e4) (Je (JN (Jc (Jd (Jb [0,0] [(18,I (Hk.wrap ((i:Int)+1)))] (Kp 18 ((i:Int)+1) J5 (Je (QA (r3::[Sg b1 0 (ZW (Js t.setup t.deeds).1 a1 c1 a2 c2 a3 c3 a4 c4 a5 c5 a6 c6)]::[Sg b 0 (Kj t a_0 c_0 a_1 c_1 a_9 c_9)]::r_9::Lr) (Qf (i+1,ax,cx,r3,(xx.set kn1 (x2+1)).set kn2 (x4+1),g) ⟨(Ja hle (Jh _)),J5,hr3,(by (try dsimp only);exact Jp2 hx1 hxx ‹_› ‹_› ‹_› ‹_› ‹_›),hfi⟩ (by (try dsimp only);omega)))))))))))
 exact Jq (JN (Jc (Jd (Jb [0,0] [(18,I (Hk.wrap ((i:Int)+1)))] (Kp 18 ((i:Int)+1) J5 (Je (QA (r2::[Sg b1 0 (ZW (Js t.setup t.deeds).1 a1 c1 a2 c2 a3 c3 a4 c4 a5 c5 a6 c6)]::[Sg b 0 (Kj t a_0 c_0 a_1 c_1 a_9 c_9)]::r_9::Lr) (Qf (i+1,ax,cx,r2,xx.set kn1 (x2+1),g) ⟨(Ja hle (Jh _)),J5,hr2,(by (try dsimp only);exact Jp1 hx1 hxx ‹_› ‹_› ‹_›),hfi⟩ (by (try dsimp only);omega)))))))))
 refine KW (J1 (J8 (JT (Jc (Jf (Jd (Jb [0] [(42,Sl ax xx.length cx)] (WC (E:=EI) 0 hrx (by have q_:=hxx.2.1;(try simp only [ES,EI,Hr]);omega) (fun G2 hl2 hs8=>Ye (Ls:=[]) (Lr:=([]::[Sg b1 0 (ZW (Js t.setup t.deeds).1 a1 c1 a2 c2 a3 c3 a4 c4 a5 c5 a6 c6)]::[Sg b 0 (Kj t a_0 c_0 a_1 c_1 a_9 c_9)]::r_9::Lr)) 43 hT ((JgB G2 ax cx xx hs8 (by (have q_:=hxx.2.1;omega))).frame) (fun v G3 L1 hl3 hp=>?_))))))))))
 obtain ⟨_,a9,c8,_,rfl,hr4,rfl⟩:=hp
 refine Jb [0] [(4,Sl a9 ((xx.map Lib.itoa).length) c8)] (Je (Jc (Jo (Wm (E:=ES) 0 hr4 (by have q_:=hxx.2.1;(try simp only [ES,EI,Hr]);omega) (fun G4 hl4 hs9=>Jk 4 (Jk 4 ?_))))))
 have hf1:(Yz t w).2=0∧(Yz t w).1=xx.map Lib.itoa:=by
  have q_:=Ht (i:=i) (l:=(Js t.setup t.deeds).2.1) (by omega);rw [q_] at hxx;unfold Yz;rw [if_neg (by omega)];exact ⟨rfl,by rw [Jp0,← hxx.1]⟩
 refine Jp [0] [Sl a9 ((xx.map Lib.itoa).length) c8] (bpx (KQ (Lr:=Lr) [[Sg b 0 (Kj t a_0 c_0 a_1 c_1 a_9 c_9)],r_9] (Ja (Ja (Ja (Ja hl1 hle) hl2) hl3) hl4) ?_))
 rw [hf1.2]
 try dsimp only
 exact ⟨hf1.1,a9,c8,rfl,hs9,rfl⟩
theorem ZV.mono {P:Program} {f:FuncId} {args:Array Value} {G:J4} {Ls:Bl} {Post PP Post' PP':Value→J4→Bl→Prop} (h:ZV P f args G Ls Post PP) (h1:∀ v G' L',J4.le G G'→Post v G' L'→Post' v G' L') (h2:∀ v G' L',PP v G' L'→PP' v G' L'):ZV P f args G Ls Post' PP':=fun Lr w0 G0 w hT hw =>
 (h Lr w0 G0 w hT hw).mono fun _ _ ⟨v,G',L',a,b,c⟩=>⟨v,G',L',a,b,c.imp (fun ⟨q,L1,e,p⟩=>⟨q,L1,e,h1 _ _ _ b p⟩) (fun ⟨q,L1,e,p⟩=>⟨q,L1,e,h2 _ _ _ p⟩)⟩
def Qw (c:Nat) (t:KD) (w:Bs):KD×Bs×Int:=match c with
 | 0=>((W4 t w).1,[],(W4 t w).2)
 | 1=>((JpW t w).1,[],(JpW t w).2)
 | 2=>((Jlr t w).1,[],(Jlr t w).2)
 | 3=>((WB t w).1,[],(WB t w).2)
 | 4=>((Zx t w).1,[],(Zx t w).2)
 | 5=>((JpX t w).1,[],(JpX t w).2)
 | 6=>((Zy t w).1,[],(Zy t w).2)
 | 7=>(t,(Jcr t w).1,(Jcr t w).2)
 | 8=>(t,(Zz t w).1,(Zz t w).2)
 | 9=>(t,(Yz t w).1,(Yz t w).2)
 | 10=>(t,(YJ t w).1,(YJ t w).2)
 | 11=>(t,(Jka t w).1,(Jka t w).2)
 | _=>(t,[],0)
def dS (c:Nat):Bool:=[0,3,4,6,7,8,9,10,12].contains c
def Jlx (t:KD) (G:J4) (b:Nat) (L:Bl):Prop:=∃ (a_0:Ba) (c_0:Nat) (a_1:Ba) (c_1:Nat) (a_9:Ba) (c_9:Nat) (r_9:Bg),(RS ES G a_0 c_0 t.setup.names)∧(RS EU G a_1 c_1 t.setup.keys)∧(-9223372036854775808≤t.setup.most∧t.setup.most<9223372036854775808)∧(-9223372036854775808≤t.setup.batch∧t.setup.batch<9223372036854775808)∧(-9223372036854775808≤t.setup.every∧t.setup.every<9223372036854775808)∧(-9223372036854775808≤t.setup.least∧t.setup.least<9223372036854775808)∧(-9223372036854775808≤t.setup.top∧t.setup.top<9223372036854775808)∧(-9223372036854775808≤t.setup.lost∧t.setup.lost<9223372036854775808)∧(-9223372036854775808≤t.setup.reach∧t.setup.reach<9223372036854775808)∧(J0 Wr G a_9 c_9 t.deeds r_9)∧L=[[Sg b 0 [Sl a_0 t.setup.names.length c_0,Sl a_1 t.setup.keys.length c_1,I t.setup.most,I t.setup.batch,I t.setup.every,I t.setup.least,I t.setup.top,I t.setup.lost,I t.setup.reach,Sl a_9 t.deeds.length c_9]],r_9]
theorem JfI (c:Nat) (hc:c<12) (hS:dS c=true) (G:J4) (b:Nat) (t:KD) (L:Bl) (hB:Jlx t G b L) (ht:t.deeds.length≤200) (hn:t.setup.names.length≤1000) (hk:t.setup.keys.length≤1000) (a_w:Ba) (c_w:Nat) (w:Bs) (h_w:RS ES G a_w c_w w) (hw:0≤ZY c→(w.length:Int)=ZY c) (hw2:w.length≤1048577) (hs:∀ s∈w,s.length≤1048576) :
  ZV Tryz.prog (Jag c) #[Pt b 0,Sl a_w w.length c_w] G L (fun u G' L'=>(Qw c t w).2.2=0∧∃ a1 c2,u=Sl a1 (Qw c t w).2.1.length c2∧RS ES G' a1 c2 (Qw c t w).2.1∧Jlx (Qw c t w).1 G' b L') (fun u _ L'=>¬ (Qw c t w).2.2=0∧u=VM (Qw c t w).2.2∧L'=L):=by
 obtain ⟨a_0,c_0,a_1,c_1,a_9,c_9,r_9,h_0,h_1,h_2,h_3,h_4,h_5,h_6,h_7,h_8,h_9,rfl⟩:=hB
 match c,hc with
 | 0,_=>exact ZV.mono (Jlt G b t a_0 c_0 a_1 c_1 a_9 c_9 r_9 h_0 h_1 h_2 h_3 h_4 h_5 h_6 h_7 h_8 h_9 a_w c_w w h_w (by have q_:=hw (by decide);simp only [ZY,He,Hm,Hh] at q_;omega) hs ht hn hk) (fun u G' L' hle ⟨he,a1,c2,a3,c4,a5,c6,a7,c8,r9,hu,ho,hB⟩=>⟨he,a1,c2,hu,ho,a3,c4,a5,c6,a7,c8,r9,hB⟩) (fun _ _ _ h=>h)
 | 1,_=>exact absurd hS (by decide)
 | 2,_=>exact absurd hS (by decide)
 | 3,_=>exact ZV.mono (Jlu G b t a_0 c_0 a_1 c_1 a_9 c_9 r_9 h_0 h_1 h_2 h_3 h_4 h_5 h_6 h_7 h_8 h_9 a_w c_w w h_w (by have q_:=hw (by decide);simp only [ZY,He,Hm,Hh] at q_;omega) hs ht hn hk) (fun u G' L' hle ⟨he,a1,c2,a3,c4,a5,c6,a7,c8,r9,hu,ho,hB⟩=>⟨he,a1,c2,hu,ho,a3,c4,a5,c6,a7,c8,r9,hB⟩) (fun _ _ _ h=>h)
 | 4,_=>exact ZV.mono (JnX G b t a_0 c_0 a_1 c_1 a_9 c_9 r_9 h_0 h_1 h_2 h_3 h_4 h_5 h_6 h_7 h_8 h_9 a_w c_w w h_w (by have q_:=hw (by decide);simp only [ZY,He,Hm,Hh] at q_;omega) hs ht hn hk) (fun u G' L' hle ⟨he,a1,c2,a3,c4,a5,c6,a7,c8,r9,hu,ho,hB⟩=>⟨he,a1,c2,hu,ho,a3,c4,a5,c6,a7,c8,r9,hB⟩) (fun _ _ _ h=>h)
 | 5,_=>exact absurd hS (by decide)
 | 6,_=>exact ZV.mono (JnY G b t a_0 c_0 a_1 c_1 a_9 c_9 r_9 h_0 h_1 h_2 h_3 h_4 h_5 h_6 h_7 h_8 h_9 a_w c_w w h_w (by have q_:=hw (by decide);simp only [ZY,He,Hm,Hh] at q_;omega) hs ht hn hk) (fun u G' L' hle ⟨he,a1,c2,a3,c4,a5,c6,a7,c8,r9,hu,ho,hB⟩=>⟨he,a1,c2,hu,ho,a3,c4,a5,c6,a7,c8,r9,hB⟩) (fun _ _ _ h=>h)
 | 7,_=>exact ZV.mono (JpY G b t a_0 c_0 a_1 c_1 a_9 c_9 r_9 h_0 h_1 h_2 h_3 h_4 h_5 h_6 h_7 h_8 h_9 a_w c_w w h_w ht) (fun u G' L' hle ⟨he,a1,c2,hu,ho,hB⟩=>⟨he,a1,c2,hu,ho,a_0,c_0,a_1,c_1,a_9,c_9,r_9,h_0.mono hle,h_1.mono hle,h_2,h_3,h_4,h_5,h_6,h_7,h_8,h_9.mono hle,hB⟩) (fun _ _ _ h=>h)
 | 8,_=>exact ZV.mono (JnZ G b t a_0 c_0 a_1 c_1 a_9 c_9 r_9 h_0 h_1 h_2 h_3 h_4 h_5 h_6 h_7 h_8 h_9 a_w c_w w h_w (by have q_:=hw (by decide);simp only [ZY,He,Hm,Hh] at q_;omega) hs ht) (fun u G' L' hle ⟨he,a1,c2,hu,ho,hB⟩=>⟨he,a1,c2,hu,ho,a_0,c_0,a_1,c_1,a_9,c_9,r_9,h_0.mono hle,h_1.mono hle,h_2,h_3,h_4,h_5,h_6,h_7,h_8,h_9.mono hle,hB⟩) (fun _ _ _ h=>h)
 | 9,_=>exact ZV.mono (Jkc G b t a_0 c_0 a_1 c_1 a_9 c_9 r_9 h_0 h_1 h_2 h_3 h_4 h_5 h_6 h_7 h_8 h_9 a_w c_w w h_w ht) (fun u G' L' hle ⟨he,a1,c2,hu,ho,hB⟩=>⟨he,a1,c2,hu,ho,a_0,c_0,a_1,c_1,a_9,c_9,r_9,h_0.mono hle,h_1.mono hle,h_2,h_3,h_4,h_5,h_6,h_7,h_8,h_9.mono hle,hB⟩) (fun _ _ _ h=>h)
 | 10,_=>exact ZV.mono (Jn0 G b t a_0 c_0 a_1 c_1 a_9 c_9 r_9 h_0 h_1 h_2 h_3 h_4 h_5 h_6 h_7 h_8 h_9 a_w c_w w h_w (by have q_:=hw (by decide);simp only [ZY,He,Hm,Hh] at q_;omega) hs ht) (fun u G' L' hle ⟨he,a1,c2,hu,ho,hB⟩=>⟨he,a1,c2,hu,ho,a_0,c_0,a_1,c_1,a_9,c_9,r_9,h_0.mono hle,h_1.mono hle,h_2,h_3,h_4,h_5,h_6,h_7,h_8,h_9.mono hle,hB⟩) (fun _ _ _ h=>h)
 | 11,_=>exact absurd hS (by decide)
theorem Jq2 {P:Program} {n:Nat} {w0:World} {G0 G:J4} {fn:Func} {c₀:Frame} {cs:List Frame} {u:FrameMode} {R:Ending→FrameMode→World→Prop} {fr:Bf} {L:Bl} (hr:fn.results=#[]) (hR:∀ w,St w0 G0 w G L→R (.returned (.tuple #[])) u w) :
  TQ ⟨P,n,[],w0,G0⟩ (fun e a w=>bodyPostS P fn c₀ cs R e a ({ c₀ with mode:=u }::cs) w) .normal fr G L:=fun a w ha hw=>⟨ha.defers,u,rfl,_,results_none hr _ _ _,hR w hw⟩
theorem JmF {P:Program} {n:Nat} {w0:World} {G0 G:J4} {fn:Func} {R:Ending→World→Prop} {fr:Bf} {L:Bl} {fv:Fn} {cap dargs:Array Value} {f:FuncId} {args:Array Value} (is:List Nat) (vs:Bv)
  (hi:∀ w,(invoke (.fn fv cap) dargs).run P w=.ok (.enter f args) w)
  (hD:∀ w,St w0 G0 w G L→CallsD P f args .returning w fun e u' w'=>e=.returned (.tuple #[])∧u'=.returning∧St w0 G0 w' G L)
  (hR:∀ w,St w0 G0 w G L→R (.returned (QD vs)) w)
  (h:(fn.results.toList.length,fn.results.toList.length,(fn.results.toList.zip is).map (JiU P fr L))=(is.length,vs.length,((fn.results.toList.zip is).zip vs).map (JiV L)):=by as_aux_lemma=>kernel_rfl) :
  TQ ⟨P,n,[{ target:=.fn fv cap,args:=dargs }],w0,G0⟩ (bodyPostD P fn R) .ret fr G L:=fun a w ha hw=>by
 show Leaves P fn a.tmps R a.defers .returning w
 rw [ha.defers]
 refine leaves_cons (f:=f) (args:=args) (by simp) (hi w) ((hD w hw).mono ?_)
 rintro e u' w' ⟨rfl,rfl,hw'⟩
 exact ⟨QD vs,Jal (a:=a) ⟨ha.size,ha.defers,ha.slot⟩ hw' fn is vs h,hR w' hw'⟩
theorem JcI {P:Program} {n:Nat} {w0:World} {G0 G:J4} {fn:Func} {R:Ending→World→Prop} {fr:Bf} {L:Bl} (L':Bl) {fv:Fn} {cap dargs:Array Value} {f:FuncId} {args:Array Value} {v:Value} (is:List Nat) (vs:Bv)
  (hi:∀ w,(invoke (.fn fv cap) dargs).run P w=.ok (.enter f args) w)
  (hD:∀ w,St w0 G0 w G L→CallsD P f args (.panicking (JfS v)) w fun e u' w'=>e=.returned (.tuple #[])∧u'=.panicking [{ v:=v,recovered:=true }]∧St w0 G0 w' G L')
  (hR:∀ w,St w0 G0 w G L'→R (.returned (QD vs)) w)
  (h:(fn.results.toList.length,fn.results.toList.length,(fn.results.toList.zip is).map (JiU P fr L'))=(is.length,vs.length,((fn.results.toList.zip is).zip vs).map (JiV L')):=by as_aux_lemma=>kernel_rfl) :
  TQ ⟨P,n,[{ target:=.fn fv cap,args:=dargs }],w0,G0⟩ (bodyPostD P fn R) (.panic (JfS v)) fr G L:=fun a w ha hw=>by
 show Leaves P fn a.tmps R a.defers (.panicking (JfS v)) w
 rw [ha.defers]
 refine leaves_cons (f:=f) (args:=args) (by simp) (hi w) ((hD w hw).mono ?_)
 rintro e u' w' ⟨rfl,rfl,hw'⟩
 exact ⟨QD vs,Jal (a:=a) ⟨ha.size,ha.defers,ha.slot⟩ hw' fn is vs h,hR w' hw'⟩
theorem Jq3 {P:Program} {f:FuncId} {args:Array Value} {G:J4} {L:Bl} {Post PP:Value→J4→Bl→Prop} {fn:Func} {c:Code}
  (hf:P.funcs[f]? = some fn) (n:Nat) (fr:Bf) (hb:fn.body=some c)
  (h:∀ w0 G0,TW P w0→TC ⟨P,n,[],w0,G0⟩ c (bodyPostD P fn (BPX w0 G0 G Post PP)) fr G L)
  (hn:fn.ntmps=n:=by rfl) (ha:Nat.ble args.size n=true:=by rfl)
  (hfr:(fr.map fun p=>args[p.1]?)=fr.map fun p=>some p.2:=by as_aux_lemma=>kernel_rfl):JaG P f args G L Post PP:=fun w0 G0 w hT hw =>
 calls_of_wp_defers hf hb (h w0 G0 hT _ w (by rw [hn];exact JfL fr hfr (Ha ha)) hw)
theorem JcJ (G:J4) (b:Nat) (e:Int) (x:Bb) (he:-9223372036854775808≤e∧e<9223372036854775808) (Lr:Bl) (w0:World) (G0:J4) (w:World) (hT:TW Tryz.prog w0) (hw:St w0 G0 w G ([Sg b 0 [Sr x]]::Lr)) :
  CallsD Tryz.prog 45 #[Pt b 0] (.panicking (JfS (VM e))) w (fun en u' w'=>en=.returned (.tuple #[])∧u'=.panicking [{ v:=VM e,recovered:=true }]∧St w0 G0 w' G ([Sg b 0 [Sr ([101,114,114,32]++Lib.itoa e)]]::Lr)):=by
 have hq_:=JbS e he
 refine callsD_of_wpS Tryz.func45 rfl (fun c₀ cs hu=>?_)
 apply wpS_seq
 apply wpS_region
 rw [show List.range (Array.size _)=[0,1] from rfl]
 simp [wpOpsS,go_sem,recoverD,hu,Exit.thenS]
 refine wpS_of_wp ?_
 refine (show TC ⟨Tryz.prog,19,[],w0,G0⟩ _ _ [(0,Pt b 0),(1,VM e)] G ([Sg b 0 [Sr x]]::Lr) from ?_) _ w ⟨by simp,rfl,fun t v h=>?_⟩ hw
 rotate_left
 ·
  obtain ⟨p,hp,rfl,rfl⟩:=Jb2 h
  simp only [Hw,Hs,or_false] at hp
  rcases hp with rfl | rfl <;> simp
 refine Jg [0,0] [(6,Bo true)] ?_
 refine JZ ?_
 refine Jf ?_
 refine Jd ?_
 refine Jb [0,0,0,0,0] [(10,.agg #[I e]),(11,Bo true)] ?_
 refine Jv 2 #[I 0] 122 (fun b1=>?_)
 refine JX [3,0] [(3,Bo true)] ([Sg b1 0 [I e]]::[Sg b 0 [Sr x]]::Lr) ?_
 refine Je ?_
 refine Jc ?_
 refine Jf ?_
 refine Jg [0,0] [(13,Bo false)] ?_
 refine Qt ?_
 refine Jq ?_
 refine Jc ?_
 refine Jd ?_
 refine Jb [0,2] [(16,I e)] ?_
 refine Jb3 17 (Sr (Lib.itoa e)) hT (JfY G e he) ?_
 refine Wi 18 ([101,114,114,32]) (Lib.itoa e) (by simp;omega) ?_
 refine JX [5] [] ([Sg b1 0 [I e]]::[Sg b 0 [Sr (([101,114,114,32])++(Lib.itoa e))]]::Lr) ?_
 refine Je ?_
 refine QA ([Sg b 0 [Sr (([101,114,114,32])++(Lib.itoa e))]]::Lr) ?_
 exact Jq2 rfl (fun w hw=>⟨rfl,rfl,hw⟩)
theorem JmG (G:J4) (b:Nat) (L:Bl) (w0:World) (G0:J4) (w:World) (hw:St w0 G0 w G L) :
  CallsD Tryz.prog 45 #[Pt b 0] .returning w (fun en u' w'=>en=.returned (.tuple #[])∧u'=.returning∧St w0 G0 w' G L):=by
 refine callsD_of_wpS Tryz.func45 rfl (fun c₀ cs hu=>?_)
 apply wpS_seq
 apply wpS_region
 rw [show List.range (Array.size _)=[0,1] from rfl]
 simp [wpOpsS,go_sem,recoverD,hu,Exit.thenS]
 refine wpS_of_wp ?_
 refine (show TC ⟨Tryz.prog,19,[],w0,G0⟩ _ _ [(0,Pt b 0),(1,.nilIface)] G L from ?_) _ w ⟨by simp,rfl,fun t v h=>?_⟩ hw
 rotate_left
 ·
  obtain ⟨p,hp,rfl,rfl⟩:=Jb2 h
  simp only [Hw,Hs,or_false] at hp
  rcases hp with rfl | rfl <;> simp
 refine Jg [0,0] [(6,Bo false)] ?_
 refine Qt ?_
 refine Jq ?_
 exact fun a w ha hw=>⟨ha.defers,.returning,by rw [← hu],_,results_none rfl _ _ _,rfl,rfl,hw⟩
theorem Ja6 {C:Cx} {Q:Bq} {fr:Bf} {G:J4} {L:Bl} {ops:Bp} {rest:List Oper} {o:Oper} (d:Nat) {k:FuncId} {args:Array Value} {Ls Lr:Bl} {Post PP:Value→J4→Bl→Prop} (hk:JaX C.P k) (hT:TW C.P C.w0) (hc:ZV C.P k args G Ls Post PP)
  (hp:∀ v G' L1,J4.le G G'→PP v G' L1→TQ C Q (.panic (JfS v)) fr G' (L1++Lr))
  (h:∀ v G' L1,J4.le G G'→Post v G' L1→KA C ops Q rest ((d,v)::fr) G' (L1++Lr)) (hL:L=Ls++Lr:=by rfl)
  (hx:Jdw fr o=some (k,args,#[]):=by as_aux_lemma=>kernel_rfl)
  (hw:Qx ops fr o=some true:=by rfl) (hd:o.dst=some d:=by rfl) (hn:Nat.blt d C.n=true:=by rfl) (hsel:Zp o.op=false:=by rfl)
  (hcov:o.op.operands.toList.all (cov fr)=true:=by as_aux_lemma=>kernel_rfl):KA C ops Q (o::rest) fr G L:=by
 refine K2 (f:=k) (args:=args) d hT hc hp h hL hw hd hn hsel hcov ?_
 intro w
 unfold Jdw at hx
 split at hx
 case h_2=>cases hx
 rename_i t as_ ty hop
 split at hx
 case h_2=>cases hx
 rename_i k' caps' hv
 cases hx
 simp [execOp,hop,resolve,hv,Deferred.ofValue,invoke]
 exact hk _ _
theorem Zl (s:Bb):(JI s).length≤s.length+1:=by
 have h1:=Lib.splitB_all ⟨#[32]⟩ (by decide) 0 _ (B s) rfl
 have h2:=Lib.countB_le ⟨#[32]⟩ (by decide) (B s).size (B s) (Nat.le_refl _)
 have h3:=congrArg HE (Jb4 s)
 rw [Hr,h1] at h3
 rw [JfM] at h2
 omega
theorem JiM:∀ c,c<12→JaX Tryz.prog (Jag c)
 | 0,_=>fun _ _=>by kernel_rfl
 | 1,_=>fun _ _=>by kernel_rfl
 | 2,_=>fun _ _=>by kernel_rfl
 | 3,_=>fun _ _=>by kernel_rfl
 | 4,_=>fun _ _=>by kernel_rfl
 | 5,_=>fun _ _=>by kernel_rfl
 | 6,_=>fun _ _=>by kernel_rfl
 | 7,_=>fun _ _=>by kernel_rfl
 | 8,_=>fun _ _=>by kernel_rfl
 | 9,_=>fun _ _=>by kernel_rfl
 | 10,_=>fun _ _=>by kernel_rfl
 | 11,_=>fun _ _=>by kernel_rfl
 | n+12,h=>by omega
theorem ev_len (s:Ky) (l:List KV):(Js s l).2.1.length≤64*200:=by
 by_cases h:(Js s l).2.2=0
 ·
  obtain ⟨h1,h2,h3⟩:=JiF h
  have hb:=V2 h1
  obtain ⟨_,b2,b3,b4⟩:=Ja5 h1
  obtain ⟨m,e,hm⟩:=(Jpz l (t:=K0 s) (by rw [b3];exact hb.1)).ev
  rw [h3]
  simp only
  rw [e]
  simp [K0] at hm ⊢
  omega
 · rw [JpA h];simp
theorem JmH:∀ (l:List ZC) (n:Nat) (m:List Int),EvI n m→EvI (n+2*l.length) (l.foldl VN m)
 | [],n,m,h=>h
 | x::l,n,m,h=>by
  have h1:EvI (n+2) (VN m x):=by
   unfold VN
   split
   · exact (h.bump _).bump _
   · exact Jd3 (h.bump _) (by omega)
  have:=JmH l (n+2) _ h1
  rw [Hf]
  exact Jd3 this (by omega)
def Jbg (l:Bs):Prop:=l.length≤10∧∀ x∈l,x.length≤21
theorem WP:Jbg []:=⟨by simp,by simp⟩
theorem Jdn {l:List Int} (h:l.length≤10) (h2:∀ n∈l,-9223372036854775808≤n∧n<9223372036854775808):Jbg (l.map Lib.itoa):=⟨by simpa using h,fun x hx=>by obtain ⟨n,hn,rfl⟩:=List.mem_map.1 hx;exact JbS n (h2 n hn)⟩
theorem JgF (t:KD) (w:Bs):Jbg (Jcr t w).1:=by
 unfold Jcr
 split
 · exact WP
 ·
  rename_i h
  have q:=Yl (Jbt (Hz.1 h)).1
  refine Jdn (by simp) ?_
  intro n hn
  simp only [Hw,Hs,or_false] at hn
  rcases hn with rfl | rfl | rfl <;> omega
theorem Jc1 (t:KD) (w:Bs):Jbg (Yz t w).1:=by
 unfold Yz
 split
 · exact WP
 ·
  have q:=JmH (Js t.setup t.deeds).2.1 0 _ EvI.start
  have q2:=ev_len t.setup t.deeds
  refine Jdn (by rw [Jp0,q.1];omega) fun n hn=>?_
  have:=q.2 n hn
  omega
theorem Jfj (t:KD) (w:Bs):Jbg (YJ t w).1:=by
 unfold YJ
 split
 · exact WP
 ·
  split
  · exact WP
  ·
   rename_i h
   split
   ·
    rename_i o ho
    have q:=K8.1 ((Jbt (Hz.1 h)).2.2.2.2.2.2.1 _ _ ho).1
    have q2:=Zf q.2.1
    refine Jdn (by simp) ?_
    intro n hn
    simp only [Hw,Hs,or_false] at hn
    rcases hn with rfl | rfl <;> omega
   · exact WP
theorem Jfk (t:KD) (w:Bs):Jbg (Jka t w).1:=by
 unfold Jka
 split
 · exact WP
 ·
  split
  · exact WP
  ·
   refine ⟨by simp,fun x hx=>?_⟩
   rw [HD.1 hx]
   have:=JeT (Zg (Js t.setup t.deeds).1.clerk.heads)
   exact JbS _ (by omega)
theorem Jkd (t:KD) (w:Bs):Jbg (Zz t w).1∨∃ v,(Zz t w).1=[[43],v]:=by
 unfold Zz
 split
 · exact .inl WP
 split
 · exact .inl WP
 split
 · exact .inl WP
 split
 · exact .inl WP
 split
 · exact .inl ⟨by simp,by simp⟩
 · exact .inr ⟨_,rfl⟩
theorem JgG (t:KD) (w:Bs):∀ c,Jbg (Qw c t w).2.1∨∃ v,(Qw c t w).2.1=[[43],v]
 | 0 | 1 | 2 | 3 | 4 | 5 | 6=>.inl WP
 | 7=>.inl (JgF t w)
 | 8=>Jkd t w
 | 9=>.inl (Jc1 t w)
 | 10=>.inl (Jfj t w)
 | 11=>.inl (Jfk t w)
 | _+12=>.inl WP
theorem JiN:∀ (l:Bs),(∀ x∈l,x.length≤21)→Lib.lens l≤21*l.length
 | [],_=>by simp [Lib.lens]
 | x::l,h=>by
  have h1:=h x (List.mem_cons_self ..)
  have h2:=JiN l fun y hy=>h y (List.mem_cons_of_mem _ hy)
  simp [Lib.lens] at h2 ⊢;omega
theorem JiO (c:Nat) (t:KD) (w:Bs):(Qw c t w).2.1.length≤10:=by
 rcases JgG t w c with h | ⟨v,h⟩
 · exact h.1
 · rw [h];simp
theorem JcK (c:Nat) (t:KD) (w:Bs) (h:∀ x∈(Qw c t w).2.1,x.length≤140737488351232):(Lib.join (([[111,107]]:Bs)++(Qw c t w).2.1) [32]).length≤140737488355328:=by
 rw [List.singleton_append,Lib.join_length]
 rcases JgG t w c with hs | ⟨v,hv⟩
 ·
  have:=JiN _ hs.2
  have h10:=hs.1
  simp [Lib.lens] at this ⊢
  omega
 ·
  have:=h v (by rw [hv];simp)
  rw [hv]
  simp [Lib.lens]
  omega
theorem Jd4 {G:J4} {a:Ba} {c:Nat} {l:Bs} (h:RS ES G a c l):∀ x∈l,x.length≤140737488351232:=fun x hx=>by
 obtain ⟨k,hk,rfl⟩:=List.mem_iff_getElem.1 hx
 obtain ⟨b,o,rfl⟩:=h.addr hk
 obtain ⟨cs,hc,_⟩:=h.get (HG hk)
 exact hc.2
def okW:Bb:=[111,107]
def Vb (t:KD) (s:Bb):Int:=if KH (Y9 (JI s) 0)=12 then 1 else if 0≤ZY (KH (Y9 (JI s) 0))∧¬ ((JI s).length:Int)-1=ZY (KH (Y9 (JI s) 0)) then 3 else (Qw (KH (Y9 (JI s) 0)) t ((JI s).drop 1)).2.2
theorem dErr12 {t:KD} {s x:Bb} (hx:(JI s)[0]? = some x) (h:KH x=12):Vb t s=1:=by
 unfold Vb;rw [← Wn hx,if_pos h]
theorem dErr3 {t:KD} {s x:Bb} (hx:(JI s)[0]? = some x) (h:KH x<12) (h1:0≤ZY (KH x)) (h2:¬ ((JI s).length:Int)-1=ZY (KH x)):Vb t s=3:=by
 unfold Vb;rw [← Wn hx,if_neg (by omega),if_pos ⟨h1,h2⟩]
theorem JhQ {t:KD} {s x:Bb} (hx:(JI s)[0]? = some x) (h:KH x<12) (h1:¬ (0≤ZY (KH x)∧¬ ((JI s).length:Int)-1=ZY (KH x))):Vb t s=(Qw (KH x) t ((JI s).drop 1)).2.2:=by
 unfold Vb;rw [← Wn hx,if_neg (by omega),if_neg h1]
abbrev sm (e:Int):Prop:=0≤e∧e≤99
theorem sm_if {p:Prop} [Decidable p] {a b:Int} (ha:sm a) (hb:sm b):sm (if p then a else b):=by split <;> assumption
theorem Jdo {α:Type} {p:Prop} [Decidable p] {a b:α×Int} (ha:sm a.2) (hb:sm b.2):sm (if p then a else b).2:=by split <;> assumption
theorem sm_ifq {α β:Type} {p:Prop} [Decidable p] {a b:α×β×Int} (ha:sm a.2.2) (hb:sm b.2.2):sm (if p then a else b).2.2:=by split <;> assumption
theorem sm_ifr {α:Type} {p:Prop} [Decidable p] {a b:Int×α} (ha:sm a.1) (hb:sm b.1):sm (if p then a else b).1:=by split <;> assumption
theorem smG {e:Int} (h:sm e:=by repeat' first | assumption | refine sm_if ?_ ?_ | refine Jdo ?_ ?_ | refine sm_ifq ?_ ?_ | refine sm_ifr ?_ ?_ | (dsimp only [sm];omega)):sm e:=h
theorem sm_tr (n v:Bb):sm (KK n v):=by unfold KK;exact smG
theorem Jp3 (l:List J3):∀ (r:List J3) (i:Nat),sm (JaL l i r)
 | [],_=>(by decide:sm 0)
 | x::r,i=>by have:=sm_tr x.name x.value;have:=Jp3 l r (i+1);unfold JaL;exact smG
theorem JmI (l:List J3):sm (Kn l):=by have:=Jp3 l l 0;unfold Kn;exact smG
theorem sm_po (n:Bb):sm (KJ n).2:=by unfold KJ;exact smG
theorem Jp4 (h:JV):sm (JO h):=by unfold JO;exact smG
theorem sm_ta (l:List J3) (q:Bb):sm (JW l q).2:=by have:=JmI l;unfold JW;exact smG
theorem sm_pr (p:Qy):sm (QM p):=by have:=JmI p.entries;unfold QM;exact smG
theorem sm_ps (p:Qy):sm (K5 p).2:=by have:=sm_pr p;unfold K5;exact smG
theorem sm_prt (p:Qy):sm (QZ p).2:=by have:=sm_ps p;unfold QZ;exact smG
theorem sm_ph (r:Int) (p:Qy):sm (W9 r p):=by have:=sm_prt p;unfold W9;exact smG
theorem sm_tf (l:List J3) (n:Bb):sm (JG l n).2.2:=by have:=JmI l;unfold JG;exact smG
theorem sm_tg (l:List J3) (n:Bb):sm (Wx l n).2.2:=by have:=sm_tf l n;unfold Wx;exact smG
theorem sm_pt (r:Int) (p:Qy):sm (Zk r p).2.2:=by have:=sm_ph r p;have:=sm_tg p.entries p.name;unfold Zk;exact smG
theorem sm_st (r:QL):sm (JF r).2.2:=by have:=Jp4 r.head;have:=sm_pt r.head.root r.proof;unfold JF;exact smG
theorem sm_pm (l:List J3) (n:Bb):sm (KU l n).2:=by have:=JmI l;have:=sm_po n;unfold KU;exact smG
theorem sm_qr (a:Zn):sm (Kw a):=by unfold Kw Wc;exact smG
theorem sm_ar:∀ l:List Zn,sm (Z0 l)
 | []=>(by decide:sm 0)
 | a::l=>by have:=sm_qr a;have:=sm_ar l;unfold Z0;exact smG
theorem sm_qc (q:QY):sm (Kl q):=by have:=sm_ar q.wait;unfold Kl;exact smG
theorem sm_he:∀ (l:List JV) (i:Nat),sm (Vq l i).1
 | [],_=>(by decide:sm 0)
 | h::l,i=>by have:=Jp4 h;have:=sm_he l (i+1);unfold Vq;exact smG
theorem sm_cc (l:List JV):sm (Kf l).1:=by have:=sm_he l 0;unfold Kf;exact smG
theorem sm_be:∀ (bs:List (List J3)) (hs:List JV),sm (YG hs bs)
 | [],hs=>by unfold YG;exact (by decide:sm 0)
 | l::bs,hs=>by have:=sm_ta l [];have:=sm_be bs (hs.drop 1);unfold YG;exact smG
theorem sm_cb (c:KL):sm (Ke c):=by
 have:=sm_qc c.queue;have:=sm_cc c.heads;have:sm (QO c):=by
  have:=sm_be c.books c.heads;unfold QO;exact smG
 unfold Ke;exact smG
theorem sm_sl (c:KL) (n:Bb) (e:Int):sm (JH c n e).2:=by
 have:sm (Ku c e).2:=by have:=sm_cb c;unfold Ku;exact smG
 have:=sm_pm (Ku c e).1 n;unfold JH;exact smG
theorem sm_nm:∀ l p:Bs,sm (nmE p l)
 | [],p=>by unfold nmE;exact (by decide:sm 0)
 | n::l,p=>by have:=sm_nm l (p++[n]);unfold nmE;exact smG
theorem JmJ (s:Ky) (l:List KV):sm (Js s l).2.2:=by
 have:sm (Ja4 s l):=by
  have:sm (Qm s):=by
   have:sm (Ks s.most s.batch s.every).2:=by unfold Ks;exact smG
   have:sm (Ws s.least s.top s.lost).2:=by unfold Ws;exact smG
   have:=sm_nm s.names []
   unfold Qm;exact smG
  unfold Ja4;exact smG
 unfold Js;exact smG
theorem Jp5 (s:Bb):sm (Ka s).2:=by rcases Jj6 s with h | h <;> rw [h] <;> decide
theorem JmK (l:Bs):sm (QQ l).2:=by unfold QQ;exact smG
theorem Jly (t:KD) (s:Ky):sm (Zw t s).2:=by have:=JmJ s [];unfold Zw;exact smG
theorem Jlz (t:KD) (l:List KV):sm (ZU t l).2:=by unfold ZU;exact smG
theorem Jke (t:KD) (w:Bs) (f:List Int→Ky):sm (Jfi t w f).2:=by have:=JmK w;have:=Jly t (f (QQ w).1);unfold Jfi;exact smG
theorem sm_run (c:Nat) (t:KD) (w:Bs):sm (Qw c t w).2.2:=by
 have hp:=JmJ t.setup t.deeds;have n0:=Jp5 (Y9 w 0);have n1:=Jp5 (Y9 w 1);have nn:=JmK w
 unfold Qw
 split <;> dsimp only
 · exact Jke ..
 · exact Jke ..
 · unfold Jlr;have:=Jly t (JpV t.setup (Ka (Y9 w 0)).1);exact smG
 · unfold WB;refine Jdo n1 (Jly ..)
 · unfold Zx;exact Jdo n0 (Jlz ..)
 · unfold JpX;exact Jdo nn (Jlz ..)
 · unfold Zy;exact Jdo n0 (Jlz ..)
 · unfold Jcr;exact smG
 · unfold Zz;have:=sm_sl (Js t.setup t.deeds).1.clerk (Y9 w 0) (Ka (Y9 w 1)).1;have:=sm_st (JH (Js t.setup t.deeds).1.clerk (Y9 w 0) (Ka (Y9 w 1)).1).1;exact smG
 · unfold Yz;exact smG
 · unfold YJ;refine Jdo n0 (Jdo hp ?_);split <;> (dsimp only [sm];omega)
 ·
  unfold Jka;have:sm (KZ (Zg (Js t.setup t.deeds).1.clerk.heads)).2:=by rw [Yw];exact Jp4 _
  exact smG
 · decide
theorem JbT (t:KD) (s:Bb):-9223372036854775808≤Vb t s∧Vb t s<9223372036854775808:=by
 have:sm (Vb t s):=by have:=sm_run (KH (Y9 (JI s) 0)) t ((JI s).drop 1);unfold Vb;exact smG
 omega
def Zd (t:KD) (s:Bb):KD:=if ¬ Vb t s=0 then t else (Qw (KH (Y9 (JI s) 0)) t ((JI s).drop 1)).1
def VO (t:KD) (s:Bb):Bb:=if ¬ Vb t s=0 then [101,114,114,32]++Lib.itoa (Vb t s) else Lib.join (okW::(Qw (KH (Y9 (JI s) 0)) t ((JI s).drop 1)).2.1) [32]
set_option maxRecDepth 20000 in
theorem do_con (G:J4) (b:Nat) (t:KD) (a_0:Ba) (c_0:Nat) (a_1:Ba) (c_1:Nat) (a_9:Ba) (c_9:Nat) (r_9:Bg) (h_0:RS ES G a_0 c_0 t.setup.names) (h_1:RS EU G a_1 c_1 t.setup.keys) (h_2:rI t.setup.most) (h_3:rI t.setup.batch) (h_4:rI t.setup.every) (h_5:rI t.setup.least) (h_6:rI t.setup.top) (h_7:rI t.setup.lost) (h_8:rI t.setup.reach) (h_9:J0 Wr G a_9 c_9 t.deeds r_9) (ht:t.deeds.length≤200) (hn:t.setup.names.length≤1000) (hk:t.setup.keys.length≤1000) (s:Bb) (hls:s.length≤1048576) (hS:dS (KH (Y9 (JI s) 0))=true) (hsp:∀ x∈JI s,x.length≤1048576):ZV Tryz.prog 27 #[Pt b 0,Sr s] G [[Sg b 0 [Sl a_0 t.setup.names.length c_0,Sl a_1 t.setup.keys.length c_1,I t.setup.most,I t.setup.batch,I t.setup.every,I t.setup.least,I t.setup.top,I t.setup.lost,I t.setup.reach,Sl a_9 t.deeds.length c_9]],r_9] (fun u G' L'=>u=Sr (VO t s)∧Jlx (Zd t s) G' b L') (fun _ _ _=>False):=by
 intro Lr
 refine Jq3 Tryz.func27 35 [(0,Pt b 0),(1,Sr s)] rfl (fun w0 G0 hT=>?_)
 show TC _ _ _ _ _ ([Sg b 0 (Kj t a_0 c_0 a_1 c_1 a_9 c_9)]::r_9::Lr)
 refine Jf (Jd (Jv 4 #[Sr ([])] 9 (fun b1=>Je (Jc (Jf (Jd (Jb [0] [(7,Fv 45 #[Pt b1 0])] (JkD { target:=.fn (.func 45) #[Pt b1 0],args:=#[] } (Je (Jc (Jf (Jd (Jb [0] [(8,Sr s)] (JM 9 (Jm4 G s J5) (fun v G1 L1 hl1 hp=>?_)))))))))))))))
 obtain ⟨a1,c1,_,rfl,hr1,rfl⟩:=hp
 refine Jb [0] [(5,Sl a1 ((JI s).length) c1)] (Je (Jc (Jf (Jd (Jb [0] [(10,Sl a1 ((JI s).length) c1)] (WC (E:=ES) 0 hr1 (by have q_:=Zl s;(try simp only [ES,Hd,Hf,Hg]);omega) (fun G2 hl2 hs1=>?_)))))))
 obtain ⟨b2,o1,rfl⟩:=RS.addr hs1 (k:=0) (by (have q_:=Vn s;have q2_:=Zl s;omega))
 obtain ⟨x1,hx1⟩:=QW (l:=JI s) (k:=0) (by (have q_:=Vn s;have q2_:=Zl s;omega))
 obtain ⟨_,⟨rfl,_⟩,hc1⟩:=RS.get hs1 hx1
 refine JY (b:=b2) (off:=o1) (len:=(JI s).length) (cap:=c1) (ik:=.i64) 11 9 1 0 (by (have q_:=Vn s;have q2_:=Zl s;omega)) (JR 12 9 (cs:=[Sr x1]) 0 (Sr x1) hc1 (K2 (Ls:=[]) (Lr:=([]::[Sg b1 0 [Sr ([])]]::[Sg b 0 (Kj t a_0 c_0 a_1 c_1 a_9 c_9)]::r_9::Lr)) 13 hT ((JpR G2 x1).frame) (fun v G3 L1 hl3 hp=>?_) (fun v G3 L1 hl3 hp=>?_)))
 obtain ⟨hc2,rfl,rfl⟩:=hp
 refine Km (Jk 1 ?_)
 have hq1:Vb t s=1:=by
  exact dErr12 hx1 hc2
 refine JcI ([Sg b1 0 [Sr ([101,114,114,32]++Lib.itoa 1)]]::([]::[Sg b 0 (Kj t a_0 c_0 a_1 c_1 a_9 c_9)]::r_9::Lr)) [0] [Sr ([101,114,114,32]++Lib.itoa 1)] (fun _=>by kernel_rfl) (fun w hw=>JcJ _ _ _ _ (by rw [← hq1];exact JbT t s) _ _ _ w hT hw) (bpx (KQ (Lr:=Lr) [[Sg b 0 (Kj t a_0 c_0 a_1 c_1 a_9 c_9)],r_9] (Ja (Ja hl1 hl2) hl3) ⟨?_,?_⟩))
 rw [VO,hq1,if_pos (by decide)];rfl
 rw [Zd,hq1,if_pos (by decide)];exact ⟨a_0,c_0,a_1,c_1,a_9,c_9,r_9,h_0.mono (Ja (Ja hl1 hl2) hl3),h_1.mono (Ja (Ja hl1 hl2) hl3),h_2,h_3,h_4,h_5,h_6,h_7,h_8,h_9.mono (Ja (Ja hl1 hl2) hl3),rfl⟩
 obtain ⟨_,rfl,rfl⟩:=hp
 refine Jv 6 #[I 0,.nilFunc] 127 (fun b3=>JX [3] [] ([Sg b3 0 [I (ZY (KH x1)),Fv (Jag (KH x1)) #[]]]::[]::[Sg b1 0 [Sr ([])]]::[Sg b 0 (Kj t a_0 c_0 a_1 c_1 a_9 c_9)]::r_9::Lr) (Je (Jc (Jf (Jf (Jd (Jb [0,2,0,0] [(17,Bo (decide (ZY (KH x1) ≥ 0)))] (QS [17] (decide (ZY (KH x1) ≥ 0)) (fun h1=>?_) (fun h1=>?_)))))))))
 refine Jb [0,0,0,0,2,0,0] [(24,Bo (!decide (Hk.wrap (((JI s).length:Int)-1)=ZY (KH x1))))] ?_
 have e1:Hk.wrap (((JI s).length:Int)-1)=((JI s).length:Int)-1:=HL _ (by (have q_:=Vn s;have q2_:=Zl s;omega))
 refine KE 24 (Bo (!decide (((JI s).length:Int)-1=ZY (KH x1)))) (show (Bo (!decide (Hk.wrap (((JI s).length:Int)-1)=ZY (KH x1))):Value)=Bo (!decide (((JI s).length:Int)-1=ZY (KH x1))) by simp only [e1]) ?_
 clear e1
 refine Je (Jc (Jm (!decide (((JI s).length:Int)-1=ZY (KH x1))) (fun h2=>?_) (fun h2=>?_)))
 refine Jd (K2 (Ls:=[]) (Lr:=([Sg b3 0 [I (ZY (KH x1)),Fv (Jag (KH x1)) #[]]]::[]::[Sg b1 0 [Sr ([])]]::[Sg b 0 (Kj t a_0 c_0 a_1 c_1 a_9 c_9)]::r_9::Lr)) 25 hT ((Z2 G3 3).frame) (fun v G4 L1 hl4 hp=>?_) (fun v G4 L1 hl4 hp=>?_))
 obtain ⟨_,rfl,rfl⟩:=hp
 refine Km (Jk 2 ?_)
 have hq2:Vb t s=3:=by
  exact dErr3 hx1 J5 J5 (by omega)
 refine JcI ([Sg b1 0 [Sr ([101,114,114,32]++Lib.itoa 3)]]::([Sg b3 0 [I (ZY (KH x1)),Fv (Jag (KH x1)) #[]]]::[]::[Sg b 0 (Kj t a_0 c_0 a_1 c_1 a_9 c_9)]::r_9::Lr)) [0] [Sr ([101,114,114,32]++Lib.itoa 3)] (fun _=>by kernel_rfl) (fun w hw=>JcJ _ _ _ _ (by rw [← hq2];exact JbT t s) _ _ _ w hT hw) (bpx (KQ (Lr:=Lr) [[Sg b 0 (Kj t a_0 c_0 a_1 c_1 a_9 c_9)],r_9] (Ja (Ja (Ja hl1 hl2) hl3) hl4) ⟨?_,?_⟩))
 rw [VO,hq2,if_pos (by decide)];rfl
 rw [Zd,hq2,if_pos (by decide)];exact ⟨a_0,c_0,a_1,c_1,a_9,c_9,r_9,h_0.mono (Ja (Ja (Ja hl1 hl2) hl3) hl4),h_1.mono (Ja (Ja (Ja hl1 hl2) hl3) hl4),h_2,h_3,h_4,h_5,h_6,h_7,h_8,h_9.mono (Ja (Ja (Ja hl1 hl2) hl3) hl4),rfl⟩
 obtain ⟨he1,rfl,rfl⟩:=hp
 exact absurd he1 (by decide)
 refine Jq (Jc ?_)
 refine Ym (σ:=Ba×Nat×Ba×Nat×Ba×Nat×Bg×J4) (fun q_=>(J4.le G3 q_.2.2.2.2.2.2.2)∧(RS ES q_.2.2.2.2.2.2.2 q_.1 q_.2.1 (((Qw (KH x1) t ((JI s).drop 1)).1).setup.names))∧(RS EU q_.2.2.2.2.2.2.2 q_.2.2.1 q_.2.2.2.1 (((Qw (KH x1) t ((JI s).drop 1)).1).setup.keys))∧(rI (((Qw (KH x1) t ((JI s).drop 1)).1).setup.most))∧(rI (((Qw (KH x1) t ((JI s).drop 1)).1).setup.batch))∧(rI (((Qw (KH x1) t ((JI s).drop 1)).1).setup.every))∧(rI (((Qw (KH x1) t ((JI s).drop 1)).1).setup.least))∧(rI (((Qw (KH x1) t ((JI s).drop 1)).1).setup.top))∧(rI (((Qw (KH x1) t ((JI s).drop 1)).1).setup.lost))∧(rI (((Qw (KH x1) t ((JI s).drop 1)).1).setup.reach))∧(J0 Wr q_.2.2.2.2.2.2.2 q_.2.2.2.2.1 q_.2.2.2.2.2.1 (((Qw (KH x1) t ((JI s).drop 1)).1).deeds) q_.2.2.2.2.2.2.1)∧((Qw (KH x1) t ((JI s).drop 1)).2.2=0)) (fun q_=>[(4,Pt b1 0)]) (fun q_=>q_.2.2.2.2.2.2.2) (fun q_=>([Sg b 0 (Kj (Qw (KH x1) t ((JI s).drop 1)).1 q_.1 q_.2.1 q_.2.2.1 q_.2.2.2.1 q_.2.2.2.2.1 q_.2.2.2.2.2.1)]::q_.2.2.2.2.2.2.1::[]::[Sg b3 0 [I (ZY (KH x1)),Fv (Jag (KH x1)) #[]]]::[]::[Sg b1 0 [Sr (Lib.join (([[111,107]]:Bs)++((Qw (KH x1) t ((JI s).drop 1)).2.1)) [32])]]::Lr)) ?_ (fun q_ hs=>?_)
 obtain ⟨a2,c2,ea1,ec1,en1,eh1,hs2⟩:=RS.reslXD (hs1.mono hl3) 1 (by omega)
 refine Kt [0,6,7,8,9] (Wz [(1,Pt b3 1),(2,Fv (Jag (KH x1)) #[]),(3,Pt b 0),(4,Sl (At b2 o1) ((JI s).length) c1),(5,Sl a2 (((JI s).drop 1).length) c2)] (JL [] [(1,0),(2,2),(3,0),(4,0)] [5] [0,6] (Kb ?_ K4) (Kb ?_ (Kb ?_ K4))))
 refine Jr 5 31 (Sl a2 (((JI s).drop 1).length) c2) [(30,Sl (At b2 o1) ((JI s).length) c1)] (fun X=>?_)
 exact WQ (a:=At b2 o1) (len:=(JI s).length) (cap:=c1) 31 1 (some (I 1)) none 1 ((JI s).length) (.inr ⟨_,rfl⟩) (.inl ⟨rfl,rfl⟩) J5 ea1 ec1 en1 eh1 Jn
 refine JA 0 [] (fun X=>?_)
 refine Ki 26 1 #[Sr ([111,107])] 9 (fun b4=>JC [(0,Sl (At b4 0) 1 1)] (JL [] [(1,0),(2,4),(3,0),(4,0)] [5] [6] (Kb ?_ K4) (Kb ?_ K4)))
 refine Jr 5 31 (Sl a2 (((JI s).drop 1).length) c2) [(30,Sl (At b2 o1) ((JI s).length) c1)] (fun X=>?_)
 exact WQ (a:=At b2 o1) (len:=(JI s).length) (cap:=c1) 31 1 (some (I 1)) none 1 ((JI s).length) (.inr ⟨_,rfl⟩) (.inl ⟨rfl,rfl⟩) J5 ea1 ec1 en1 eh1 Jn
 refine JA 6 [(4,Pt b1 0),(28,Fv (Jag (KH x1)) #[]),(29,Pt b 0),(31,Sl a2 (((JI s).drop 1).length) c2)] (fun X=>?_)
 refine Jw 5 (Jw 5 ?_)
 have hB_:Jlx t G3 b [[Sg b 0 (Kj t a_0 c_0 a_1 c_1 a_9 c_9)],r_9]:=⟨a_0,c_0,a_1,c_1,a_9,c_9,r_9,h_0.mono (Ja (Ja hl1 hl2) hl3),h_1.mono (Ja (Ja hl1 hl2) hl3),h_2,h_3,h_4,h_5,h_6,h_7,h_8,h_9.mono (Ja (Ja hl1 hl2) hl3),rfl⟩
 refine Ja6 (Ls:=[[Sg b 0 (Kj t a_0 c_0 a_1 c_1 a_9 c_9)],r_9]) (Lr:=([Sg b4 0 [Sr ([111,107])]]::[Sg b3 0 [I (ZY (KH x1)),Fv (Jag (KH x1)) #[]]]::[]::[Sg b1 0 [Sr ([])]]::Lr)) 32 (JiM _ J5) hT (JfI (KH x1) J5 (by rw [Wn hx1];exact hS) G3 b t _ hB_ ht hn hk a2 c2 ((JI s).drop 1) hs2 (by intro hq_;rw [Hn];simp_all;omega) (by rw [Hn];have q2_:=Zl s;omega) (fun z_ hz_=>hsp z_ (Hv hz_))) (fun v G5 L1 hl5 hp=>?_) (fun v G5 L1 hl5 hp=>?_)
 obtain ⟨hne2,rfl,rfl⟩:=hp
 refine Km (Km (Jk 5 ?_))
 have hq3:Vb t s=(Qw (KH x1) t ((JI s).drop 1)).2.2:=by
  exact JhQ hx1 J5 (by omega)
 refine JcI ([Sg b1 0 [Sr ([101,114,114,32]++Lib.itoa ((Qw (KH x1) t ((JI s).drop 1)).2.2))]]::([Sg b 0 (Kj t a_0 c_0 a_1 c_1 a_9 c_9)]::r_9::[Sg b4 0 [Sr ([111,107])]]::[Sg b3 0 [I (ZY (KH x1)),Fv (Jag (KH x1)) #[]]]::[]::Lr)) [0] [Sr ([101,114,114,32]++Lib.itoa ((Qw (KH x1) t ((JI s).drop 1)).2.2))] (fun _=>by kernel_rfl) (fun w hw=>JcJ _ _ _ _ (by rw [← hq3];exact JbT t s) _ _ _ w hT hw) (bpx (KQ (Lr:=Lr) [[Sg b 0 (Kj t a_0 c_0 a_1 c_1 a_9 c_9)],r_9] (Ja (Ja (Ja hl1 hl2) hl3) hl5) ⟨?_,?_⟩))
 rw [VO,hq3,if_pos hne2];rfl
 rw [Zd,hq3,if_pos hne2];exact ⟨a_0,c_0,a_1,c_1,a_9,c_9,r_9,h_0.mono (Ja (Ja (Ja hl1 hl2) hl3) hl5),h_1.mono (Ja (Ja (Ja hl1 hl2) hl3) hl5),h_2,h_3,h_4,h_5,h_6,h_7,h_8,h_9.mono (Ja (Ja (Ja hl1 hl2) hl3) hl5),rfl⟩
 obtain ⟨he3,a4,c4,rfl,hs4,hB1⟩:=hp
 have dn_:=JiO (KH x1) t ((JI s).drop 1)
 obtain ⟨a5,c5,a6,c6,a7,c7,r2,hs5,hs6,w2,w3,w4,w5,w6,w7,w8,hr2,rfl⟩:=hB1
 refine JC [(6,Sl a4 ((Qw (KH x1) t ((JI s).drop 1)).2.1.length) c4)] (JL [1,2,3,4,5] [] [] [7] (Hc _) (Kb ?_ K4))
 refine JA 7 [(26,Sl (At b4 0) 1 1),(32,Sl a4 ((Qw (KH x1) t ((JI s).drop 1)).2.1.length) c4)] (fun X=>?_)
 refine Jax 33 9 2 (E:=ES) (J0.of_lit (E:=ES) (G:=G5) (b:=b4) [[Sr ([111,107])]] [[111,107]] ⟨⟨rfl,(Ha rfl)⟩,trivial⟩ (by simp)) hs4 (by have:=hs4.fit;simp only [ES] at this;(try simp only [Hd,Hf,Hg]);omega) (by have:=hs4.fit;simp only [ES] at this;(try simp only [ES,Hd,Hf,Hg]);omega) (fun a8 c8 r3 hr3=>JC [(7,Sl a8 ((([[111,107]]:Bs)++((Qw (KH x1) t ((JI s).drop 1)).2.1)).length) c8)] (JL [1,2,3,4,5] [] [] [8] (Hc _) (Kb ?_ K4)))
 refine JA 8 [(33,Sl a8 ((([[111,107]]:Bs)++((Qw (KH x1) t ((JI s).drop 1)).2.1)).length) c8)] (fun X=>?_)
 refine WC (E:=ES) 2 hr3 (by have q_:=Zl s;(try simp only [ES,Hd,Hf,Hg]);omega) (fun G6 hl6 hs7=>?_)
 obtain ⟨b5,o2,rfl⟩:=RS.addr hs7 (k:=0) (by simp)
 refine Jl 34 (Sr (Lib.join (([[111,107]]:Bs)++((Qw (KH x1) t ((JI s).drop 1)).2.1)) [32])) (JdE G6 b5 o2 c8 (([[111,107]]:Bs)++((Qw (KH x1) t ((JI s).drop 1)).2.1)) [32] hs7 (by simp) (by simp only [Hd,Hf,Hg];omega) (JcK _ _ _ (Jd4 hs4))) (JC [(8,Sr (Lib.join (([[111,107]]:Bs)++((Qw (KH x1) t ((JI s).drop 1)).2.1)) [32]))] (JL [1,2,3,4,5] [] [] [9] (Hc _) (Kb ?_ K4)))
 refine JA 9 [(4,Pt b1 0),(34,Sr (Lib.join (([[111,107]]:Bs)++((Qw (KH x1) t ((JI s).drop 1)).2.1)) [32]))] (fun X=>?_)
 exact KI 5 ([Sg b 0 (Kj (Qw (KH x1) t ((JI s).drop 1)).1 a5 c5 a6 c6 a7 c7)]::r2::[]::[Sg b3 0 [I (ZY (KH x1)),Fv (Jag (KH x1)) #[]]]::[]::[Sg b1 0 [Sr (Lib.join (([[111,107]]:Bs)++((Qw (KH x1) t ((JI s).drop 1)).2.1)) [32])]]::Lr) (J9 [] (Kq [1,2,3,4,5] [] [] [(4,Pt b1 0)] (Hc _) (Q3 (a5,c5,a6,c6,a7,c7,r2,G6) ⟨(Ja hl5 hl6),(hs5.mono hl6),(hs6.mono hl6),w2,w3,w4,w5,w6,w7,w8,(hr2.mono hl6),he3⟩)))
 refine JA 6 [(4,Pt b1 0),(28,Fv (Jag (KH x1)) #[]),(29,Pt b 0),(31,Sl a2 (((JI s).drop 1).length) c2)] (fun X=>?_)
 refine Jw 4 (Jw 4 ?_)
 have hB_:Jlx t G3 b [[Sg b 0 (Kj t a_0 c_0 a_1 c_1 a_9 c_9)],r_9]:=⟨a_0,c_0,a_1,c_1,a_9,c_9,r_9,h_0.mono (Ja (Ja hl1 hl2) hl3),h_1.mono (Ja (Ja hl1 hl2) hl3),h_2,h_3,h_4,h_5,h_6,h_7,h_8,h_9.mono (Ja (Ja hl1 hl2) hl3),rfl⟩
 refine Ja6 (Ls:=[[Sg b 0 (Kj t a_0 c_0 a_1 c_1 a_9 c_9)],r_9]) (Lr:=([Sg b3 0 [I (ZY (KH x1)),Fv (Jag (KH x1)) #[]]]::[]::[Sg b1 0 [Sr ([])]]::Lr)) 32 (JiM _ J5) hT (JfI (KH x1) J5 (by rw [Wn hx1];exact hS) G3 b t _ hB_ ht hn hk a2 c2 ((JI s).drop 1) hs2 (by intro hq_;rw [Hn];simp_all;omega) (by rw [Hn];have q2_:=Zl s;omega) (fun z_ hz_=>hsp z_ (Hv hz_))) (fun v G7 L1 hl7 hp=>?_) (fun v G7 L1 hl7 hp=>?_)
 obtain ⟨hne3,rfl,rfl⟩:=hp
 refine Km (Km (Jk 4 ?_))
 have hq4:Vb t s=(Qw (KH x1) t ((JI s).drop 1)).2.2:=by
  exact JhQ hx1 J5 (by omega)
 refine JcI ([Sg b1 0 [Sr ([101,114,114,32]++Lib.itoa ((Qw (KH x1) t ((JI s).drop 1)).2.2))]]::([Sg b 0 (Kj t a_0 c_0 a_1 c_1 a_9 c_9)]::r_9::[Sg b3 0 [I (ZY (KH x1)),Fv (Jag (KH x1)) #[]]]::[]::Lr)) [0] [Sr ([101,114,114,32]++Lib.itoa ((Qw (KH x1) t ((JI s).drop 1)).2.2))] (fun _=>by kernel_rfl) (fun w hw=>JcJ _ _ _ _ (by rw [← hq4];exact JbT t s) _ _ _ w hT hw) (bpx (KQ (Lr:=Lr) [[Sg b 0 (Kj t a_0 c_0 a_1 c_1 a_9 c_9)],r_9] (Ja (Ja (Ja hl1 hl2) hl3) hl7) ⟨?_,?_⟩))
 rw [VO,hq4,if_pos hne3];rfl
 rw [Zd,hq4,if_pos hne3];exact ⟨a_0,c_0,a_1,c_1,a_9,c_9,r_9,h_0.mono (Ja (Ja (Ja hl1 hl2) hl3) hl7),h_1.mono (Ja (Ja (Ja hl1 hl2) hl3) hl7),h_2,h_3,h_4,h_5,h_6,h_7,h_8,h_9.mono (Ja (Ja (Ja hl1 hl2) hl3) hl7),rfl⟩
 obtain ⟨he4,a9,c9,rfl,hs8,hB2⟩:=hp
 have dn_:=JiO (KH x1) t ((JI s).drop 1)
 obtain ⟨a10,c10,a11,c11,a12,c12,r4,hs9,hs10,w9,w10,w11,w12,w13,w14,w15,hr4,rfl⟩:=hB2
 refine JC [(6,Sl a9 ((Qw (KH x1) t ((JI s).drop 1)).2.1.length) c9)] (JL [1,2,3,4,5] [] [] [0] (Hc _) (Kb ?_ K4))
 refine JA 0 [] (fun X=>?_)
 refine Ki 26 1 #[Sr ([111,107])] 9 (fun b6=>JC [(0,Sl (At b6 0) 1 1)] (JL [1,2,3,4,5] [] [] [7] (Hc _) (Kb ?_ K4)))
 refine JA 7 [(26,Sl (At b6 0) 1 1),(32,Sl a9 ((Qw (KH x1) t ((JI s).drop 1)).2.1.length) c9)] (fun X=>?_)
 refine Jax 33 9 0 (E:=ES) (J0.of_lit (E:=ES) (G:=G7) (b:=b6) [[Sr ([111,107])]] [[111,107]] ⟨⟨rfl,(Ha rfl)⟩,trivial⟩ (by simp)) hs8 (by have:=hs8.fit;simp only [ES] at this;(try simp only [Hd,Hf,Hg]);omega) (by have:=hs8.fit;simp only [ES] at this;(try simp only [ES,Hd,Hf,Hg]);omega) (fun a13 c13 r5 hr5=>JC [(7,Sl a13 ((([[111,107]]:Bs)++((Qw (KH x1) t ((JI s).drop 1)).2.1)).length) c13)] (JL [1,2,3,4,5] [] [] [8] (Hc _) (Kb ?_ K4)))
 refine JA 8 [(33,Sl a13 ((([[111,107]]:Bs)++((Qw (KH x1) t ((JI s).drop 1)).2.1)).length) c13)] (fun X=>?_)
 refine WC (E:=ES) 0 hr5 (by have q_:=Zl s;(try simp only [ES,Hd,Hf,Hg]);omega) (fun G8 hl8 hs11=>?_)
 obtain ⟨b7,o3,rfl⟩:=RS.addr hs11 (k:=0) (by simp)
 refine Jl 34 (Sr (Lib.join (([[111,107]]:Bs)++((Qw (KH x1) t ((JI s).drop 1)).2.1)) [32])) (JdE G8 b7 o3 c13 (([[111,107]]:Bs)++((Qw (KH x1) t ((JI s).drop 1)).2.1)) [32] hs11 (by simp) (by simp only [Hd,Hf,Hg];omega) (JcK _ _ _ (Jd4 hs8))) (JC [(8,Sr (Lib.join (([[111,107]]:Bs)++((Qw (KH x1) t ((JI s).drop 1)).2.1)) [32]))] (JL [1,2,3,4,5] [] [] [9] (Hc _) (Kb ?_ K4)))
 refine JA 9 [(4,Pt b1 0),(34,Sr (Lib.join (([[111,107]]:Bs)++((Qw (KH x1) t ((JI s).drop 1)).2.1)) [32]))] (fun X=>?_)
 exact KI 5 ([]::[Sg b 0 (Kj (Qw (KH x1) t ((JI s).drop 1)).1 a10 c10 a11 c11 a12 c12)]::r4::[Sg b3 0 [I (ZY (KH x1)),Fv (Jag (KH x1)) #[]]]::[]::[Sg b1 0 [Sr (Lib.join (([[111,107]]:Bs)++((Qw (KH x1) t ((JI s).drop 1)).2.1)) [32])]]::Lr) (J9 [] (Kq [1,2,3,4,5] [] [] [(4,Pt b1 0)] (Hc _) (Jk 5 (Jk 5 (Jk 5 (Jk 3 (Jk 5 (Jk 5 (Q3 (a10,c10,a11,c11,a12,c12,r4,G8) ⟨(Ja hl7 hl8),(hs9.mono hl8),(hs10.mono hl8),w9,w10,w11,w12,w13,w14,w15,(hr4.mono hl8),he4⟩)))))))))
 obtain ⟨a5,c5,a6,c6,a7,c7,r2,G6⟩:=q_
 obtain ⟨hle1,hj1,hj2,hj3,hj4,hj5,hj6,hj7,hj8,hj9,hj10,he2⟩:=hs
 dsimp only at hle1 hj1 hj2 hj3 hj4 hj5 hj6 hj7 hj8 hj9 hj10 he2
 dsimp only
 refine Jo (Jk 1 (Jk 1 (Jk 5 ?_)))
 have hq5:Vb t s=0:=(JhQ hx1 (by omega) (by omega)).trans he2
 refine JmF [0] [Sr (Lib.join (([[111,107]]:Bs)++((Qw (KH x1) t ((JI s).drop 1)).2.1)) [32])] (fun _=>by kernel_rfl) (fun w hw=>JmG _ b1 _ _ _ w hw) (bpx (KQ (Lr:=Lr) [[Sg b 0 (Kj (Qw (KH x1) t ((JI s).drop 1)).1 a5 c5 a6 c6 a7 c7)],r2] (Ja (Ja (Ja hl1 hl2) hl3) hle1) ⟨?_,?_⟩))
 rw [VO,hq5,if_neg (by simp),Wn hx1];rfl
 rw [Zd,hq5,if_neg (by simp),← Wn hx1];exact ⟨a5,c5,a6,c6,a7,c7,r2,hj1,hj2,hj3,hj4,hj5,hj6,hj7,hj8,hj9,hj10,rfl⟩
 refine Jb [1,1,1,1,1,1,0] [(24,Bo false)] (Je (Jc (Qt (Jq (Jc ?_)))))
 refine Ym (σ:=Ba×Nat×Ba×Nat×Ba×Nat×Bg×J4) (fun q_=>(J4.le G3 q_.2.2.2.2.2.2.2)∧(RS ES q_.2.2.2.2.2.2.2 q_.1 q_.2.1 (((Qw (KH x1) t ((JI s).drop 1)).1).setup.names))∧(RS EU q_.2.2.2.2.2.2.2 q_.2.2.1 q_.2.2.2.1 (((Qw (KH x1) t ((JI s).drop 1)).1).setup.keys))∧(rI (((Qw (KH x1) t ((JI s).drop 1)).1).setup.most))∧(rI (((Qw (KH x1) t ((JI s).drop 1)).1).setup.batch))∧(rI (((Qw (KH x1) t ((JI s).drop 1)).1).setup.every))∧(rI (((Qw (KH x1) t ((JI s).drop 1)).1).setup.least))∧(rI (((Qw (KH x1) t ((JI s).drop 1)).1).setup.top))∧(rI (((Qw (KH x1) t ((JI s).drop 1)).1).setup.lost))∧(rI (((Qw (KH x1) t ((JI s).drop 1)).1).setup.reach))∧(J0 Wr q_.2.2.2.2.2.2.2 q_.2.2.2.2.1 q_.2.2.2.2.2.1 (((Qw (KH x1) t ((JI s).drop 1)).1).deeds) q_.2.2.2.2.2.2.1)∧((Qw (KH x1) t ((JI s).drop 1)).2.2=0)) (fun q_=>[(4,Pt b1 0)]) (fun q_=>q_.2.2.2.2.2.2.2) (fun q_=>([Sg b 0 (Kj (Qw (KH x1) t ((JI s).drop 1)).1 q_.1 q_.2.1 q_.2.2.1 q_.2.2.2.1 q_.2.2.2.2.1 q_.2.2.2.2.2.1)]::q_.2.2.2.2.2.2.1::[]::[Sg b3 0 [I (ZY (KH x1)),Fv (Jag (KH x1)) #[]]]::[]::[Sg b1 0 [Sr (Lib.join (([[111,107]]:Bs)++((Qw (KH x1) t ((JI s).drop 1)).2.1)) [32])]]::Lr)) ?_ (fun q_ hs=>?_)
 obtain ⟨a14,c14,ea3,ec3,en3,eh3,hs12⟩:=RS.reslXD (hs1.mono hl3) 1 (by (have q_:=Vn s;have q2_:=Zl s;omega))
 refine Kt [0,6,7,8,9] (Wz [(1,Pt b3 1),(2,Fv (Jag (KH x1)) #[]),(3,Pt b 0),(4,Sl (At b2 o1) ((JI s).length) c1),(5,Sl a14 (((JI s).drop 1).length) c14)] (JL [] [(1,0),(2,2),(3,0),(4,0)] [5] [0,6] (Kb ?_ K4) (Kb ?_ (Kb ?_ K4))))
 refine Jr 5 31 (Sl a14 (((JI s).drop 1).length) c14) [(30,Sl (At b2 o1) ((JI s).length) c1)] (fun X=>?_)
 exact WQ (a:=At b2 o1) (len:=(JI s).length) (cap:=c1) 31 1 (some (I 1)) none 1 ((JI s).length) (.inr ⟨_,rfl⟩) (.inl ⟨rfl,rfl⟩) (by (have q_:=Vn s;have q2_:=Zl s;omega)) ea3 ec3 en3 eh3 Jn
 refine JA 0 [] (fun X=>?_)
 refine Ki 26 1 #[Sr ([111,107])] 9 (fun b8=>JC [(0,Sl (At b8 0) 1 1)] (JL [] [(1,0),(2,4),(3,0),(4,0)] [5] [6] (Kb ?_ K4) (Kb ?_ K4)))
 refine Jr 5 31 (Sl a14 (((JI s).drop 1).length) c14) [(30,Sl (At b2 o1) ((JI s).length) c1)] (fun X=>?_)
 exact WQ (a:=At b2 o1) (len:=(JI s).length) (cap:=c1) 31 1 (some (I 1)) none 1 ((JI s).length) (.inr ⟨_,rfl⟩) (.inl ⟨rfl,rfl⟩) (by (have q_:=Vn s;have q2_:=Zl s;omega)) ea3 ec3 en3 eh3 Jn
 refine JA 6 [(4,Pt b1 0),(28,Fv (Jag (KH x1)) #[]),(29,Pt b 0),(31,Sl a14 (((JI s).drop 1).length) c14)] (fun X=>?_)
 refine Jw 5 (Jw 5 ?_)
 have hB_:Jlx t G3 b [[Sg b 0 (Kj t a_0 c_0 a_1 c_1 a_9 c_9)],r_9]:=⟨a_0,c_0,a_1,c_1,a_9,c_9,r_9,h_0.mono (Ja (Ja hl1 hl2) hl3),h_1.mono (Ja (Ja hl1 hl2) hl3),h_2,h_3,h_4,h_5,h_6,h_7,h_8,h_9.mono (Ja (Ja hl1 hl2) hl3),rfl⟩
 refine Ja6 (Ls:=[[Sg b 0 (Kj t a_0 c_0 a_1 c_1 a_9 c_9)],r_9]) (Lr:=([Sg b8 0 [Sr ([111,107])]]::[Sg b3 0 [I (ZY (KH x1)),Fv (Jag (KH x1)) #[]]]::[]::[Sg b1 0 [Sr ([])]]::Lr)) 32 (JiM _ J5) hT (JfI (KH x1) J5 (by rw [Wn hx1];exact hS) G3 b t _ hB_ ht hn hk a14 c14 ((JI s).drop 1) hs12 (by intro hq_;rw [Hn];simp_all;omega) (by rw [Hn];have q2_:=Zl s;omega) (fun z_ hz_=>hsp z_ (Hv hz_))) (fun v G9 L1 hl9 hp=>?_) (fun v G9 L1 hl9 hp=>?_)
 obtain ⟨hne4,rfl,rfl⟩:=hp
 refine Km (Km (Jk 5 ?_))
 have hq6:Vb t s=(Qw (KH x1) t ((JI s).drop 1)).2.2:=by
  exact JhQ hx1 J5 (by omega)
 refine JcI ([Sg b1 0 [Sr ([101,114,114,32]++Lib.itoa ((Qw (KH x1) t ((JI s).drop 1)).2.2))]]::([Sg b 0 (Kj t a_0 c_0 a_1 c_1 a_9 c_9)]::r_9::[Sg b8 0 [Sr ([111,107])]]::[Sg b3 0 [I (ZY (KH x1)),Fv (Jag (KH x1)) #[]]]::[]::Lr)) [0] [Sr ([101,114,114,32]++Lib.itoa ((Qw (KH x1) t ((JI s).drop 1)).2.2))] (fun _=>by kernel_rfl) (fun w hw=>JcJ _ _ _ _ (by rw [← hq6];exact JbT t s) _ _ _ w hT hw) (bpx (KQ (Lr:=Lr) [[Sg b 0 (Kj t a_0 c_0 a_1 c_1 a_9 c_9)],r_9] (Ja (Ja (Ja hl1 hl2) hl3) hl9) ⟨?_,?_⟩))
 rw [VO,hq6,if_pos hne4];rfl
 rw [Zd,hq6,if_pos hne4];exact ⟨a_0,c_0,a_1,c_1,a_9,c_9,r_9,h_0.mono (Ja (Ja (Ja hl1 hl2) hl3) hl9),h_1.mono (Ja (Ja (Ja hl1 hl2) hl3) hl9),h_2,h_3,h_4,h_5,h_6,h_7,h_8,h_9.mono (Ja (Ja (Ja hl1 hl2) hl3) hl9),rfl⟩
 obtain ⟨he6,a16,c16,rfl,hs14,hB3⟩:=hp
 have dn_:=JiO (KH x1) t ((JI s).drop 1)
 obtain ⟨a17,c17,a18,c18,a19,c19,r6,hs15,hs16,w16,w17,w18,w19,w20,w21,w22,hr6,rfl⟩:=hB3
 refine JC [(6,Sl a16 ((Qw (KH x1) t ((JI s).drop 1)).2.1.length) c16)] (JL [1,2,3,4,5] [] [] [7] (Hc _) (Kb ?_ K4))
 refine JA 7 [(26,Sl (At b8 0) 1 1),(32,Sl a16 ((Qw (KH x1) t ((JI s).drop 1)).2.1.length) c16)] (fun X=>?_)
 refine Jax 33 9 2 (E:=ES) (J0.of_lit (E:=ES) (G:=G9) (b:=b8) [[Sr ([111,107])]] [[111,107]] ⟨⟨rfl,(Ha rfl)⟩,trivial⟩ (by simp)) hs14 (by have:=hs14.fit;simp only [ES] at this;(try simp only [Hd,Hf,Hg]);omega) (by have:=hs14.fit;simp only [ES] at this;(try simp only [ES,Hd,Hf,Hg]);omega) (fun a20 c20 r7 hr7=>JC [(7,Sl a20 ((([[111,107]]:Bs)++((Qw (KH x1) t ((JI s).drop 1)).2.1)).length) c20)] (JL [1,2,3,4,5] [] [] [8] (Hc _) (Kb ?_ K4)))
 refine JA 8 [(33,Sl a20 ((([[111,107]]:Bs)++((Qw (KH x1) t ((JI s).drop 1)).2.1)).length) c20)] (fun X=>?_)
 refine WC (E:=ES) 2 hr7 (by have q_:=Zl s;(try simp only [ES,Hd,Hf,Hg]);omega) (fun G10 hl10 hs17=>?_)
 obtain ⟨b9,o4,rfl⟩:=RS.addr hs17 (k:=0) (by simp)
 refine Jl 34 (Sr (Lib.join (([[111,107]]:Bs)++((Qw (KH x1) t ((JI s).drop 1)).2.1)) [32])) (JdE G10 b9 o4 c20 (([[111,107]]:Bs)++((Qw (KH x1) t ((JI s).drop 1)).2.1)) [32] hs17 (by simp) (by simp only [Hd,Hf,Hg];omega) (JcK _ _ _ (Jd4 hs14))) (JC [(8,Sr (Lib.join (([[111,107]]:Bs)++((Qw (KH x1) t ((JI s).drop 1)).2.1)) [32]))] (JL [1,2,3,4,5] [] [] [9] (Hc _) (Kb ?_ K4)))
 refine JA 9 [(4,Pt b1 0),(34,Sr (Lib.join (([[111,107]]:Bs)++((Qw (KH x1) t ((JI s).drop 1)).2.1)) [32]))] (fun X=>?_)
 exact KI 5 ([Sg b 0 (Kj (Qw (KH x1) t ((JI s).drop 1)).1 a17 c17 a18 c18 a19 c19)]::r6::[]::[Sg b3 0 [I (ZY (KH x1)),Fv (Jag (KH x1)) #[]]]::[]::[Sg b1 0 [Sr (Lib.join (([[111,107]]:Bs)++((Qw (KH x1) t ((JI s).drop 1)).2.1)) [32])]]::Lr) (J9 [] (Kq [1,2,3,4,5] [] [] [(4,Pt b1 0)] (Hc _) (Q3 (a17,c17,a18,c18,a19,c19,r6,G10) ⟨(Ja hl9 hl10),(hs15.mono hl10),(hs16.mono hl10),w16,w17,w18,w19,w20,w21,w22,(hr6.mono hl10),he6⟩)))
 refine JA 6 [(4,Pt b1 0),(28,Fv (Jag (KH x1)) #[]),(29,Pt b 0),(31,Sl a14 (((JI s).drop 1).length) c14)] (fun X=>?_)
 refine Jw 4 (Jw 4 ?_)
 have hB_:Jlx t G3 b [[Sg b 0 (Kj t a_0 c_0 a_1 c_1 a_9 c_9)],r_9]:=⟨a_0,c_0,a_1,c_1,a_9,c_9,r_9,h_0.mono (Ja (Ja hl1 hl2) hl3),h_1.mono (Ja (Ja hl1 hl2) hl3),h_2,h_3,h_4,h_5,h_6,h_7,h_8,h_9.mono (Ja (Ja hl1 hl2) hl3),rfl⟩
 refine Ja6 (Ls:=[[Sg b 0 (Kj t a_0 c_0 a_1 c_1 a_9 c_9)],r_9]) (Lr:=([Sg b3 0 [I (ZY (KH x1)),Fv (Jag (KH x1)) #[]]]::[]::[Sg b1 0 [Sr ([])]]::Lr)) 32 (JiM _ J5) hT (JfI (KH x1) J5 (by rw [Wn hx1];exact hS) G3 b t _ hB_ ht hn hk a14 c14 ((JI s).drop 1) hs12 (by intro hq_;rw [Hn];simp_all;omega) (by rw [Hn];have q2_:=Zl s;omega) (fun z_ hz_=>hsp z_ (Hv hz_))) (fun v G11 L1 hl11 hp=>?_) (fun v G11 L1 hl11 hp=>?_)
 obtain ⟨hne5,rfl,rfl⟩:=hp
 refine Km (Km (Jk 4 ?_))
 have hq7:Vb t s=(Qw (KH x1) t ((JI s).drop 1)).2.2:=by
  exact JhQ hx1 J5 (by omega)
 refine JcI ([Sg b1 0 [Sr ([101,114,114,32]++Lib.itoa ((Qw (KH x1) t ((JI s).drop 1)).2.2))]]::([Sg b 0 (Kj t a_0 c_0 a_1 c_1 a_9 c_9)]::r_9::[Sg b3 0 [I (ZY (KH x1)),Fv (Jag (KH x1)) #[]]]::[]::Lr)) [0] [Sr ([101,114,114,32]++Lib.itoa ((Qw (KH x1) t ((JI s).drop 1)).2.2))] (fun _=>by kernel_rfl) (fun w hw=>JcJ _ _ _ _ (by rw [← hq7];exact JbT t s) _ _ _ w hT hw) (bpx (KQ (Lr:=Lr) [[Sg b 0 (Kj t a_0 c_0 a_1 c_1 a_9 c_9)],r_9] (Ja (Ja (Ja hl1 hl2) hl3) hl11) ⟨?_,?_⟩))
 rw [VO,hq7,if_pos hne5];rfl
 rw [Zd,hq7,if_pos hne5];exact ⟨a_0,c_0,a_1,c_1,a_9,c_9,r_9,h_0.mono (Ja (Ja (Ja hl1 hl2) hl3) hl11),h_1.mono (Ja (Ja (Ja hl1 hl2) hl3) hl11),h_2,h_3,h_4,h_5,h_6,h_7,h_8,h_9.mono (Ja (Ja (Ja hl1 hl2) hl3) hl11),rfl⟩
 obtain ⟨he7,a21,c21,rfl,hs18,hB4⟩:=hp
 have dn_:=JiO (KH x1) t ((JI s).drop 1)
 obtain ⟨a22,c22,a23,c23,a24,c24,r8,hs19,hs20,w23,w24,w25,w26,w27,w28,w29,hr8,rfl⟩:=hB4
 refine JC [(6,Sl a21 ((Qw (KH x1) t ((JI s).drop 1)).2.1.length) c21)] (JL [1,2,3,4,5] [] [] [0] (Hc _) (Kb ?_ K4))
 refine JA 0 [] (fun X=>?_)
 refine Ki 26 1 #[Sr ([111,107])] 9 (fun b10=>JC [(0,Sl (At b10 0) 1 1)] (JL [1,2,3,4,5] [] [] [7] (Hc _) (Kb ?_ K4)))
 refine JA 7 [(26,Sl (At b10 0) 1 1),(32,Sl a21 ((Qw (KH x1) t ((JI s).drop 1)).2.1.length) c21)] (fun X=>?_)
 refine Jax 33 9 0 (E:=ES) (J0.of_lit (E:=ES) (G:=G11) (b:=b10) [[Sr ([111,107])]] [[111,107]] ⟨⟨rfl,(Ha rfl)⟩,trivial⟩ (by simp)) hs18 (by have:=hs18.fit;simp only [ES] at this;(try simp only [Hd,Hf,Hg]);omega) (by have:=hs18.fit;simp only [ES] at this;(try simp only [ES,Hd,Hf,Hg]);omega) (fun a25 c25 r9 hr9=>JC [(7,Sl a25 ((([[111,107]]:Bs)++((Qw (KH x1) t ((JI s).drop 1)).2.1)).length) c25)] (JL [1,2,3,4,5] [] [] [8] (Hc _) (Kb ?_ K4)))
 refine JA 8 [(33,Sl a25 ((([[111,107]]:Bs)++((Qw (KH x1) t ((JI s).drop 1)).2.1)).length) c25)] (fun X=>?_)
 refine WC (E:=ES) 0 hr9 (by have q_:=Zl s;(try simp only [ES,Hd,Hf,Hg]);omega) (fun G12 hl12 hs21=>?_)
 obtain ⟨b11,o5,rfl⟩:=RS.addr hs21 (k:=0) (by simp)
 refine Jl 34 (Sr (Lib.join (([[111,107]]:Bs)++((Qw (KH x1) t ((JI s).drop 1)).2.1)) [32])) (JdE G12 b11 o5 c25 (([[111,107]]:Bs)++((Qw (KH x1) t ((JI s).drop 1)).2.1)) [32] hs21 (by simp) (by simp only [Hd,Hf,Hg];omega) (JcK _ _ _ (Jd4 hs18))) (JC [(8,Sr (Lib.join (([[111,107]]:Bs)++((Qw (KH x1) t ((JI s).drop 1)).2.1)) [32]))] (JL [1,2,3,4,5] [] [] [9] (Hc _) (Kb ?_ K4)))
 refine JA 9 [(4,Pt b1 0),(34,Sr (Lib.join (([[111,107]]:Bs)++((Qw (KH x1) t ((JI s).drop 1)).2.1)) [32]))] (fun X=>?_)
 exact KI 5 ([]::[Sg b 0 (Kj (Qw (KH x1) t ((JI s).drop 1)).1 a22 c22 a23 c23 a24 c24)]::r8::[Sg b3 0 [I (ZY (KH x1)),Fv (Jag (KH x1)) #[]]]::[]::[Sg b1 0 [Sr (Lib.join (([[111,107]]:Bs)++((Qw (KH x1) t ((JI s).drop 1)).2.1)) [32])]]::Lr) (J9 [] (Kq [1,2,3,4,5] [] [] [(4,Pt b1 0)] (Hc _) (Jk 5 (Jk 5 (Jk 5 (Jk 3 (Jk 5 (Jk 5 (Q3 (a22,c22,a23,c23,a24,c24,r8,G12) ⟨(Ja hl11 hl12),(hs19.mono hl12),(hs20.mono hl12),w23,w24,w25,w26,w27,w28,w29,(hr8.mono hl12),he7⟩)))))))))
 obtain ⟨a17,c17,a18,c18,a19,c19,r6,G10⟩:=q_
 obtain ⟨hle2,hj11,hj12,hj13,hj14,hj15,hj16,hj17,hj18,hj19,hj20,he5⟩:=hs
 dsimp only at hle2 hj11 hj12 hj13 hj14 hj15 hj16 hj17 hj18 hj19 hj20 he5
 dsimp only
 refine Jo (Jk 1 (Jk 1 (Jk 5 ?_)))
 have hq8:Vb t s=0:=(JhQ hx1 (by omega) (by omega)).trans he5
 refine JmF [0] [Sr (Lib.join (([[111,107]]:Bs)++((Qw (KH x1) t ((JI s).drop 1)).2.1)) [32])] (fun _=>by kernel_rfl) (fun w hw=>JmG _ b1 _ _ _ w hw) (bpx (KQ (Lr:=Lr) [[Sg b 0 (Kj (Qw (KH x1) t ((JI s).drop 1)).1 a17 c17 a18 c18 a19 c19)],r6] (Ja (Ja (Ja hl1 hl2) hl3) hle2) ⟨?_,?_⟩))
 rw [VO,hq8,if_neg (by simp),Wn hx1];rfl
 rw [Zd,hq8,if_neg (by simp),← Wn hx1];exact ⟨a17,c17,a18,c18,a19,c19,r6,hj11,hj12,hj13,hj14,hj15,hj16,hj17,hj18,hj19,hj20,rfl⟩
theorem Jkf (l:List J3) (n:Bb):(Wx l n).1.length≤20:=by
 unfold Wx
 split
 · simp
 ·
  rename_i h
  have hc:Kn l=0:=by
   unfold JG at h
   split at h
   · exact absurd rfl h
   · rename_i h1;exact Hz.1 h1
  have ho:=KS.1 hc
  cases e:l[(JG l n).1.toNat]? with
  | none=>simp
  | some x =>
   have h3:=ho.ok x (Hb e)
   have h4:x.value.length≤20:=by
    unfold KK at h3
    split at h3
    · cases h3
    ·
     split at h3
     · cases h3
     · omega
   simpa using h4
theorem Jhh (r:QL):(JF r).1.length≤20:=by
 unfold JF Zk
 split
 · simp
 split
 · simp
 · exact Jkf _ _
theorem JlA (c:Nat) (t:KD) (w:Bs):Jbg (Qw c t w).2.1:=by
 by_cases hc:c=8
 ·
  subst hc
  show Jbg (Zz t w).1
  unfold Zz
  split
  · exact WP
  split
  · exact WP
  split
  · exact WP
  split
  · exact WP
  split
  · exact ⟨by simp,by simp⟩
  ·
   refine ⟨by simp,fun x hx=>?_⟩
   simp only [Hw,Hs,or_false] at hx
   rcases hx with rfl | rfl
   · simp
   · exact Hy (Jhh _) (by decide)
 ·
  match c,hc with
  | 0,_ | 1,_ | 2,_ | 3,_ | 4,_ | 5,_ | 6,_=>exact WP
  | 7,_=>exact JgF t w
  | 8,h=>exact absurd rfl h
  | 9,_=>exact Jc1 t w
  | 10,_=>exact Jfj t w
  | 11,_=>exact Jfk t w
  | _+12,_=>exact WP
theorem Jp6 (t:KD) (s:Bb):(VO t s).length≤1000:=by
 unfold VO
 split
 · have:=JbS _ (JbT t s);simp;omega
 ·
  rw [Lib.join_length]
  have h:=JlA (KH (Y9 (JI s) 0)) t ((JI s).drop 1)
  have:=JiN _ h.2
  have:=h.1
  simp [Lib.lens,okW] at *
  omega
theorem Jn2 (t:KD) (s:Bb):(VO t s).length≤140737488351232:=Hy (Jp6 t s) (by decide)
theorem Jkg (s:Bb) (h:s.length≤1048576):∀ x∈JI s,x.length≤1048576:=fun _ hx=>Hy (JfX hx) h
def Jdp (t:KD):Prop:=t.deeds.length≤200∧t.setup.names.length≤1000∧t.setup.keys.length≤1000
theorem Jd5 {t:KD} (s:Ky) (h:Jdp t):Jdp (Zw t s).1:=by
 unfold Zw
 split
 · exact h
 split
 · exact h
 ·
  rename_i h2
  have:=V2 (JiF (Hz.1 h2)).1
  exact ⟨h.1,by simp only;omega,by simp only;omega⟩
theorem JgH {t:KD} (l:List KV) (h:Jdp t):Jdp (ZU t l).1:=by
 unfold ZU
 split
 · exact h
 · exact ⟨by simp only [Hd];omega,h.2⟩
theorem Jdq {α:Type} {p:Prop} [Decidable p] {a b:KD×α} (ha:Jdp a.1) (hb:Jdp b.1):Jdp (if p then a else b).1:=by split <;> assumption
theorem Jp7 (c:Nat) {t:KD} (w:Bs) (h:Jdp t):Jdp (Qw c t w).1:=by
 unfold Qw
 split <;> dsimp only
 · exact Jdq h (Jd5 _ h)
 · exact Jdq h (Jd5 _ h)
 · exact Jdq h (Jd5 _ h)
 · exact Jdq h (Jd5 _ h)
 · exact Jdq h (JgH _ h)
 · exact Jdq h (JgH _ h)
 · exact Jdq h (JgH _ h)
 all_goals exact h
theorem Jp8 {t:KD} (s:Bb) (h:Jdp t):Jdp (Zd t s):=by
 unfold Zd
 split
 · exact h
 · exact Jp7 _ _ h
def Jkh (t:KD) (l:Bs):KD:=l.foldl Zd t
def Jcs:KD→Bs→Bs
 | _,[]=>[]
 | t,s::l=>VO t s::Jcs (Zd t s) l
theorem Jki:∀ (l:Bs) {t:KD},Jdp t→Jdp (Jkh t l)
 | [],_,h=>h
 | s::l,_,h=>Jki l (Jp8 s h)
theorem JhR:∀ (l m:Bs) (t:KD),Jcs t (l++m)=Jcs t l++Jcs (Jkh t l) m
 | [],_,_=>rfl
 | s::l,m,t=>congrArg (VO t s::·) (JhR l m (Zd t s))
theorem JcL:∀ (l:Bs) (t:KD),(Jcs t l).length=l.length
 | [],_=>rfl
 | s::l,t=>congrArg (·+1) (JcL l (Zd t s))
theorem Jn3 {t:KD} {l:Bs} {i:Nat} {x:Bb} (hx:l[i]? = some x):Zd (Jkh t (l.take i)) x=Jkh t (l.take (i+1)):=by
 rw [HF,hx];simp [Jkh]
theorem JlB {t:KD} {l:Bs} {i:Nat} {x:Bb} (hx:l[i]? = some x):Jcs t (l.take i)++[VO (Jkh t (l.take i)) x]=Jcs t (l.take (i+1)):=by
 rw [HF,hx,JhR];rfl
def Jfl:KD:=⟨⟨[],[],10,3,5,2,8,3,10⟩,[]⟩
theorem Jn4:Jdp Jfl:=⟨by decide,by decide,by decide⟩
def Q8 (l:Bs):Bs×Int:=if l.length > 100 then ([],2) else (Jcs Jfl l,0)
theorem do_c (G:J4) (b:Nat) (t:KD) (a_0:Ba) (c_0:Nat) (a_1:Ba) (c_1:Nat) (a_9:Ba) (c_9:Nat) (r_9:Bg) (h_0:RS ES G a_0 c_0 t.setup.names) (h_1:RS EU G a_1 c_1 t.setup.keys) (h_2:-9223372036854775808≤t.setup.most∧t.setup.most<9223372036854775808) (h_3:-9223372036854775808≤t.setup.batch∧t.setup.batch<9223372036854775808) (h_4:-9223372036854775808≤t.setup.every∧t.setup.every<9223372036854775808) (h_5:-9223372036854775808≤t.setup.least∧t.setup.least<9223372036854775808) (h_6:-9223372036854775808≤t.setup.top∧t.setup.top<9223372036854775808) (h_7:-9223372036854775808≤t.setup.lost∧t.setup.lost<9223372036854775808) (h_8:-9223372036854775808≤t.setup.reach∧t.setup.reach<9223372036854775808) (h_9:J0 Wr G a_9 c_9 t.deeds r_9) (s:Bb) (hI:Jdp t) (hls:s.length≤1048576) (hS:dS (KH (Y9 (JI s) 0))=true):ZV Tryz.prog 27 #[Pt b 0,Sr s] G [[Sg b 0 [Sl a_0 t.setup.names.length c_0,Sl a_1 t.setup.keys.length c_1,I t.setup.most,I t.setup.batch,I t.setup.every,I t.setup.least,I t.setup.top,I t.setup.lost,I t.setup.reach,Sl a_9 t.deeds.length c_9]],r_9] (fun u G' L'=>((0:Int)=0)∧∃ (az1:Ba) (cz2:Nat) (az3:Ba) (cz4:Nat) (az5:Ba) (cz6:Nat) (rz7:Bg),u=Sr (VO t s)∧((VO t s).length≤140737488351232)∧(RS ES G' az1 cz2 ((Zd t s).setup.names))∧(RS EU G' az3 cz4 ((Zd t s).setup.keys))∧(-9223372036854775808≤((Zd t s).setup.most)∧((Zd t s).setup.most)<9223372036854775808)∧(-9223372036854775808≤((Zd t s).setup.batch)∧((Zd t s).setup.batch)<9223372036854775808)∧(-9223372036854775808≤((Zd t s).setup.every)∧((Zd t s).setup.every)<9223372036854775808)∧(-9223372036854775808≤((Zd t s).setup.least)∧((Zd t s).setup.least)<9223372036854775808)∧(-9223372036854775808≤((Zd t s).setup.top)∧((Zd t s).setup.top)<9223372036854775808)∧(-9223372036854775808≤((Zd t s).setup.lost)∧((Zd t s).setup.lost)<9223372036854775808)∧(-9223372036854775808≤((Zd t s).setup.reach)∧((Zd t s).setup.reach)<9223372036854775808)∧(J0 Wr G' az5 cz6 ((Zd t s).deeds) rz7)∧L'=[[Sg b 0 [Sl az1 (((Zd t s).setup.names).length) cz2,Sl az3 (((Zd t s).setup.keys).length) cz4,I ((Zd t s).setup.most),I ((Zd t s).setup.batch),I ((Zd t s).setup.every),I ((Zd t s).setup.least),I ((Zd t s).setup.top),I ((Zd t s).setup.lost),I ((Zd t s).setup.reach),Sl az5 (((Zd t s).deeds).length) cz6]],rz7]) (fun _ _ _=>False):=by
 exact ZV.mono (do_con G b t a_0 c_0 a_1 c_1 a_9 c_9 r_9 h_0 h_1 h_2 h_3 h_4 h_5 h_6 h_7 h_8 h_9 hI.1 hI.2.1 hI.2.2 s hls hS (Jkg s hls)) (fun u G' L' hle ⟨hu,a_0z,c_0z,a_1z,c_1z,a_9z,c_9z,r_9z,q_0,q_1,q_2,q_3,q_4,q_5,q_6,q_7,q_8,q_9,hL⟩=>⟨rfl,a_0z,c_0z,a_1z,c_1z,a_9z,c_9z,r_9z,hu,Jn2 t s,q_0,q_1,q_2,q_3,q_4,q_5,q_6,q_7,q_8,q_9,hL⟩) (fun _ _ _ h=>h)
theorem Jkj (G:J4)  (a_l:Ba) (c_l:Nat) (l:Bs) (h_l:RS ES G a_l c_l l) (hs:∀ s∈l,s.length≤1048576) (hS:∀ s∈l,dS (KH (Y9 (JI s) 0))=true):JaG Tryz.prog 9 #[Sl a_l l.length c_l] G [] (fun u G' L'=>((0:Int)=0)∧∃ (az1:Ba) (cz2:Nat),u=.tuple #[Sl az1 (((Q8 l).1).length) cz2,I ((Q8 l).2)]∧(RS ES G' az1 cz2 ((Q8 l).1))∧L'=[]) (fun _ _ _=>False):=by
 refine ZG Tryz.func9 28 [(0,Sl a_l l.length c_l)] rfl (fun w0 G0 hT=>Jg [0,0] [] (Jf (Jg [0,0,0] [(10,Bo (decide ((l.length:Int) > 100)))] (Jm (decide ((l.length:Int) > 100)) (fun h1=>?_) (fun h1=>?_)))))
 refine Jg [0,0] [(2,Sl none 0 0),(3,I 2)] (Jo (Jj ?_))
 have hf1:(0:Int)=0∧Q8 l=([],2):=by
  first | (unfold Q8;rw [if_pos (by omega)];exact ⟨rfl,rfl⟩) | (unfold Q8;rw [if_neg (by omega)];have q_:=Ht (i:=i) (l:=l) (by omega);rw [q_] at hxx;exact ⟨rfl,by rw [hxx]⟩)
 refine Jp [0,0] [Sl none 0 0,I 2] (bpx (JB [] (Jh _) ?_))
 rw [hf1.2]
 try dsimp only
 exact ⟨hf1.1,none,0,rfl,(JP ES G),rfl⟩
 refine Jq (Jc (Jf (Jd (Jb [0,0] [(12,.agg #[Sl none 0 0,Sl none 0 0,I 10,I 3,I 5,I 2,I 8,I 3,I 10,Sl none 0 0])] (Jv 13 #[Sl none 0 0,Sl none 0 0,I 10,I 3,I 5,I 2,I 8,I 3,I 10,Sl none 0 0] 91 (fun b1=>Jb [0] [(4,Pt b1 0)] (Je (Jc (Jg [0] [(5,Sl none 0 0)] (Jf (Jg [0,0,0] [(14,Sl a_l l.length c_l),(15,I (l.length:Int)),(16,I 0)] (Jx (Z4 (Z4 ?_))))))))))))))
 have hlm_h_l:l.length≤9223372036854775807:=Hy (h_l).le (h_l).max
 refine Qb (σ:=Nat×Ba×Nat×Bg×Bs×KD×Ba×Nat×Ba×Nat×Ba×Nat×Bg×J4) (fun q_=>(J4.le G q_.2.2.2.2.2.2.2.2.2.2.2.2.2)∧(q_.1≤l.length)∧(J0 ES q_.2.2.2.2.2.2.2.2.2.2.2.2.2 q_.2.1 q_.2.2.1 q_.2.2.2.2.1 q_.2.2.2.1)∧(q_.2.2.2.2.1=Jcs Jfl (l.take q_.1))∧(RS ES q_.2.2.2.2.2.2.2.2.2.2.2.2.2 q_.2.2.2.2.2.2.1 q_.2.2.2.2.2.2.2.1 q_.2.2.2.2.2.1.setup.names)∧(RS EU q_.2.2.2.2.2.2.2.2.2.2.2.2.2 q_.2.2.2.2.2.2.2.2.1 q_.2.2.2.2.2.2.2.2.2.1 q_.2.2.2.2.2.1.setup.keys)∧(J0 Wr q_.2.2.2.2.2.2.2.2.2.2.2.2.2 q_.2.2.2.2.2.2.2.2.2.2.1 q_.2.2.2.2.2.2.2.2.2.2.2.1 q_.2.2.2.2.2.1.deeds q_.2.2.2.2.2.2.2.2.2.2.2.2.1)∧(rI q_.2.2.2.2.2.1.setup.most)∧(rI q_.2.2.2.2.2.1.setup.batch)∧(rI q_.2.2.2.2.2.1.setup.every)∧(rI q_.2.2.2.2.2.1.setup.least)∧(rI q_.2.2.2.2.2.1.setup.top)∧(rI q_.2.2.2.2.2.1.setup.lost)∧(rI q_.2.2.2.2.2.1.setup.reach)∧(q_.2.2.2.2.2.1=Jkh Jfl (l.take q_.1))) (fun q_=>[(4,Pt b1 0),(5,Sl q_.2.1 q_.2.2.2.2.1.length q_.2.2.1),(14,Sl a_l l.length c_l),(15,I (l.length:Int)),(16,I (q_.1:Int))]) (fun q_=>q_.2.2.2.2.2.2.2.2.2.2.2.2.2) (fun q_=>[q_.2.2.2.2.2.2.2.2.2.2.2.2.1,q_.2.2.2.1,[Sg b1 0 (Kj q_.2.2.2.2.2.1 q_.2.2.2.2.2.2.1 q_.2.2.2.2.2.2.2.1 q_.2.2.2.2.2.2.2.2.1 q_.2.2.2.2.2.2.2.2.2.1 q_.2.2.2.2.2.2.2.2.2.2.1 q_.2.2.2.2.2.2.2.2.2.2.2.1)]]) (fun q_=>l.length-q_.1) (0,none,0,[],[],(⟨(⟨[],[],10,3,5,2,8,3,10⟩:Ky),([]:List KV)⟩:KD),none,0,none,0,none,0,[],G) ⟨(Jh _),(by (try dsimp only);first | exact Nat.zero_le _ | omega | simp),(J0.none ES _),rfl,(JP ES G),(JP EU G),(J0.none Wr _),(by (try dsimp only);first | assumption | omega | (simp;done) | (simp;omega)),(by (try dsimp only);first | assumption | omega | (simp;done) | (simp;omega)),(by (try dsimp only);first | assumption | omega | (simp;done) | (simp;omega)),(by (try dsimp only);first | assumption | omega | (simp;done) | (simp;omega)),(by (try dsimp only);first | assumption | omega | (simp;done) | (simp;omega)),(by (try dsimp only);first | assumption | omega | (simp;done) | (simp;omega)),(by (try dsimp only);first | assumption | omega | (simp;done) | (simp;omega)),(by (try dsimp only);first | rfl | simp [Jkh,Jfl])⟩ (fun q_ hs=>?_)
 obtain ⟨i,ax,cx,rx,xx,dt,adt0,cdt0,adt1,cdt1,adt2,cdt2,rdt9,g⟩:=q_
 obtain ⟨hle,hi,hrx,hxx,hdt0,hdt1,hdt9,hdt2,hdt3,hdt4,hdt5,hdt6,hdt7,hdt8,hD⟩:=hs
 dsimp only at hle hi hrx hxx hdt0 hdt1 hdt9 hdt2 hdt3 hdt4 hdt5 hdt6 hdt7 hdt8 hD
 dsimp only
 refine Jg [0] [(17,Bo (decide ((i:Int)<(l.length:Int))))] (Jf (Jm (decide ((i:Int)<(l.length:Int))) (fun h2=>?_) (fun h2=>?_)))
 refine Jq (Jc (Jf (Jx (Jf (Jd ?_)))))
 obtain ⟨b2,o1,rfl⟩:=RS.addr (h_l.mono hle) (k:=i) (by omega)
 obtain ⟨x1,hx1⟩:=QW (l:=l) (k:=i) (by omega)
 obtain ⟨_,⟨rfl,_⟩,hc1⟩:=RS.get (h_l.mono hle) hx1
 refine JY (b:=b2) (off:=o1) (len:=l.length) (cap:=c_l) (ik:=.i64) 18 9 1 i J5 (JR 19 9 (cs:=[Sr x1]) 0 (Sr x1) hc1 (Jb [0] [(7,Sr x1)] (Je (Jc (Jd (Jb [0,0,0] [(20,Sl ax xx.length cx),(21,Pt b1 0),(22,Sr x1)] (Jw 0 (Jw 2 (Ye (Ls:=[[Sg b1 0 (Kj dt adt0 cdt0 adt1 cdt1 adt2 cdt2)],rdt9]) (Lr:=[rx]) 23 hT (do_c g b1 dt adt0 cdt0 adt1 cdt1 adt2 cdt2 rdt9 hdt0 hdt1 hdt2 hdt3 hdt4 hdt5 hdt6 hdt7 hdt8 hdt9 x1 (hD ▸ Jki (l.take i) Jn4) (hs _ (Hb hx1)) (hS _ (Hb hx1))) (fun v G1 L1 hl1 hp=>?_))))))))))
 obtain ⟨_,a1,c1,a2,c2,a3,c3,r1,rfl,w2,hs1,hs2,_,_,_,_,_,_,_,hr1,rfl⟩:=hp
 refine Ki 24 1 #[Sr (VO dt x1)] 9 (fun b3=>Qr (b:=b3) (cs:=[Sr (VO dt x1)]) 25 9 3 0 (E:=ES) (VO dt x1) (hrx.mono hl1) ⟨rfl,w2⟩ (by have q_:=congrArg HE hxx;simp only [JcL,HH] at q_;(try simp only [ES]);omega) (by have q_:=congrArg HE hxx;simp only [JcL,HH] at q_;(try simp only [ES]);omega) (fun a4 c4 r2 hr2=>Jb [0] [(5,Sl a4 ((xx++[VO dt x1]).length) c4)] (Je (JN (Jc (Jd (Jb [0,0] [(16,I (Hk.wrap ((i:Int)+1)))] (Kp 16 ((i:Int)+1) J5 (Je (Jk 1 (Jk 3 (Jk 3 ?_))))))))))))
 exact QA [r1,r2,[Sg b1 0 (Kj (Zd dt x1) a1 c1 a2 c2 a3 c3)]] (Qf (i+1,a4,c4,r2,xx++[VO dt x1],(Zd dt x1),a1,c1,a2,c2,a3,c3,r1,G1) ⟨(Ja hle hl1),J5,hr2,(by (try dsimp only);rw [hxx,hD,JlB hx1]),hs1,hs2,hr1,(by first | assumption | omega | (simp;done) | (simp;omega)),(by first | assumption | omega | (simp;done) | (simp;omega)),(by first | assumption | omega | (simp;done) | (simp;omega)),(by first | assumption | omega | (simp;done) | (simp;omega)),(by first | assumption | omega | (simp;done) | (simp;omega)),(by first | assumption | omega | (simp;done) | (simp;omega)),(by first | assumption | omega | (simp;done) | (simp;omega)),(by (try dsimp only);rw [hD,Jn3 hx1])⟩ (by (try dsimp only);omega))
 refine KW (J1 (J8 (JT (Jc (Jg [0,0,0] [(2,Sl ax xx.length cx),(3,I 0)] (Jo (Wm (E:=ES) 1 hrx (by have q_:=congrArg HE hxx;simp only [JcL,HH] at q_;(try simp only [ES]);omega) (fun G2 hl2 hs3=>?_))))))))
 have hf2:(0:Int)=0∧Q8 l=(xx,0):=by
  first | (unfold Q8;rw [if_pos (by omega)];exact ⟨rfl,rfl⟩) | (unfold Q8;rw [if_neg (by omega)];have q_:=Ht (i:=i) (l:=l) (by omega);rw [q_] at hxx;exact ⟨rfl,by rw [hxx]⟩)
 refine Jp [0,0] [Sl ax xx.length cx,I 0] (bpx (JB [] (Ja hle hl2) ?_))
 rw [hf2.2]
 try dsimp only
 exact ⟨hf2.1,ax,cx,rfl,hs3,rfl⟩
def asksL:Bs:=[[110,111,119],[101,118,101,110,116,115],[109,97,114,107],[115,101,101,110,32,48],[108,111,111,107,32,97,32,48],[119,104,97,116]]
theorem Jkk {c:Nat} (h:7≤c) (t:KD) (w:Bs):(Qw c t w).1=t:=by
 match c,h with
 | 7,_ | 8,_ | 9,_ | 10,_ | 11,_ | _+12,_=>rfl
theorem asks_7:∀ s∈asksL,7≤KH (Y9 (JI s) 0):=by decide +kernel
theorem JhS {s:Bb} (h:s∈asksL) (t:KD):Zd t s=t:=by
 unfold Zd
 split
 · rfl
 · exact Jkk (asks_7 s h) _ _
theorem JhT {s:Bb}:∀ {w:Bb},(∀ b∈w,b ≠ 32)→Lib.index (w++32::s) [32]=(w.length:Int)
 | [],_=>by simp [Lib.index,HJ]
 | b::w,h=>by
  have h1:=JhT (s:=s) (w:=w) (fun x hx=>h x (by simp [hx]))
  have hb:¬ (32:UInt8)=b:=fun e=>h b (by simp) e.symm
  simp only [HA,Lib.index,HJ,Hf,h1]
  rw [if_neg (by simp [hb]),if_neg (by simp)];omega
theorem JgI:∀ {w:Bb},(∀ b∈w,b ≠ 32)→Lib.index w [32]=-1
 | [],_=>by simp [Lib.index]
 | b::w,h=>by
  have h1:=JgI (w:=w) (fun x hx=>h x (by simp [hx]))
  have hb:¬ (32:UInt8)=b:=fun e=>h b (by simp) e.symm
  simp only [Lib.index,HJ,h1]
  rw [if_neg (by simp [hb]),if_pos (by decide)]
theorem Jdr {w s:Bb} (h:∀ b∈w,b ≠ 32):JI (w++32::s)=w::JI s:=by
 have hi:=JhT (s:=s) h
 have hd:(w++32::s).drop (w.length+1)=s:=by rw [show w.length+1=(w++[32]).length by simp,show w++32::s=(w++[32])++s by simp,List.drop_left]
 unfold JI Lib.split
 rw [Lib.count_hit (by simp) hi,show ([32]:Bb).length=1 from rfl,hd,Nat.add_comm]
 show (if Lib.index (w++32::s) [32] == -1 then _ else _)=_
 rw [hi,if_neg (by simp)]
 simp only [Hu,Nat.add_zero]
 rw [show ([32]:Bb).length=1 from rfl,hd,List.take_left]
theorem JlC {w:Bb} (h:∀ b∈w,b ≠ 32):JI w=[w]:=by
 unfold JI Lib.split
 rw [Lib.count_miss (JgI h)];rfl
def YC (e:Int):Ky:=⟨[[97]],[7],5,2,e,2,8,3,10⟩
abbrev JgJ (v:Bb):KV:=⟨1,0,v,[],Jls⟩
abbrev JgK:KV:=⟨4,0,[],[],Jls⟩
def Jp9 (e:Int):Bb:=[99,108,101,114,107,32,53,32,50,32]++Lib.itoa e
def Jqa:Bb:=[111,119,110,101,114,32,97,32,55]
def Jkl (v:Bb):Bb:=[119,97,110,116,32,48,32]++v
def Jkm (n:Int):Bb:=[116,105,99,107,32]++Lib.itoa n
def JlD:Bb:=[110,111,119]
def Jkn:Bb:=[115,101,101,110,32,48]
def JhU:Bb:=[108,111,111,107,32,97,32,49]
def wEv:Bb:=[101,118,101,110,116,115]
theorem nine {e:Int} (h:1≤e∧e≤9):e=1∨e=2∨e=3∨e=4∨e=5∨e=6∨e=7∨e=8∨e=9:=by omega
theorem eqD {t u:KD} (h1:t.setup=u.setup) (h2:t.deeds=u.deeds):t=u:=by cases t;cases u;simp_all
theorem line_c {e:Int} (h:1≤e∧e≤9):Zd (Zd Jfl (Jp9 e)) Jqa=⟨YC e,[]⟩:=by
 rcases nine h with rfl | rfl | rfl | rfl | rfl | rfl | rfl | rfl | rfl <;> exact eqD (by decide +kernel) (by decide +kernel)
theorem JmL {e:Int} (h:1≤e∧e≤9):Qm (YC e)=0:=by
 rcases nine h with rfl | rfl | rfl | rfl | rfl | rfl | rfl | rfl | rfl <;> decide +kernel
theorem line_w {e:Int} {v:Bb} (hv:∀ b∈v,b ≠ 32):Zd ⟨YC e,[]⟩ (Jkl v)=⟨YC e,[JgJ v]⟩:=by
 have hs:JI (Jkl v)=[[119,97,110,116],[48],v]:=by
  show JI ([119,97,110,116]++32::([48]++32::v))=_
  rw [Jdr (by decide),Jdr (by decide),JlC hv]
 have hn:Ka [48]=(0,0):=by decide +kernel
 have hc:KH [119,97,110,116]=4:=by decide
 have hr:Qw 4 ⟨YC e,[]⟩ [[48],v]=(⟨YC e,[JgJ v]⟩,[],0):=by
  simp [Qw,Zx,Y9,hn,ZU]
 have he:Vb ⟨YC e,[]⟩ (Jkl v)=0:=by
  unfold Vb;rw [hs]
  simp only [Y9,He,Hh,hc,Hj,Hl,hr]
  simp [ZY]
 unfold Zd
 rw [if_neg (by omega),hs]
 simp only [Y9,He,Hh,hc,Hj,Hl,hr]
theorem tick_w:∀ k:Nat,k<61→JI (Jkm (k:Int))=[[116,105,99,107],Lib.itoa k]∧Ka (Lib.itoa k)=((k:Int),0):=by decide +kernel
theorem line_t {t:KD} {n:Nat} (hn:n<61) (ht:t.deeds.length≤100):Zd t (Jkm (n:Int))=⟨t.setup,t.deeds++Hi n JgK⟩:=by
 obtain ⟨hs,hk⟩:=tick_w n hn
 have hc:KH [116,105,99,107]=6:=by decide
 have hr:Qw 6 t [Lib.itoa n]=(⟨t.setup,t.deeds++Hi n JgK⟩,[],0):=by
  have:(if (201:Int)<n then (201:Int) else n).toNat=n:=by rw [if_neg (by omega)];omega
  simp only [Qw,Zy,Y9,He,Hh,hk,this]
  rw [if_neg (by simp)]
  unfold ZU
  rw [if_neg (by rw [Hq];omega)]
 have he:Vb t (Jkm n)=0:=by
  unfold Vb;rw [hs]
  simp only [Y9,He,Hh,hc,Hj,Hl,hr]
  simp [ZY]
 unfold Zd
 rw [if_neg (by omega),hs]
 simp only [Y9,He,Hh,hc,Hj,Hl,hr]
theorem Jqb (t:JK) (l:JQ):(ZH t l).town.clerk=t.town.clerk:=by
 unfold ZH Ql
 split
 · split <;> rfl
 · rfl
theorem JhV:∀ (l:List JQ) (t:JK),(Zh t l).town.clerk=t.town.clerk
 | [],_=>rfl
 | x::l,t=>(JhV l (ZH t x)).trans (Jqb t x)
theorem k_ask (t:JK) (k:Int):(Zv t k).town.clerk=t.town.clerk:=by
 unfold Zv
 split
 · rfl
 split <;> rfl
theorem Jqc (t:JK):∀ n,(Jbs t n).town.clerk=t.town.clerk
 | 0=>rfl
 | n+1=>by rw [← Vt,k_ask,Jqc t n]
theorem k_tick (t:JK):(WA t).town.clerk=t.town.clerk∨(WA t).town.clerk=(KM t.town.clerk).1:=by
 unfold WA
 split
 · exact .inl rfl
 · exact .inr (by rw [Jqc,JhV];rfl)
def JeK (v:Bb) (c:KL):Prop:=(c.books=[[]]∧c.batch=2∧∃ a:Zn,c.queue.wait=[a]∧a.name=[97]∧a.value=v)∨∃ b,c.books[1]? = some b∧Wx b [97]=(v,true,0)
theorem JlE {v:Bb} {c:KL} (ok:Za c) (h:JeK v c):JeK v (KM c).1:=by
 rcases h with ⟨h1,h2,a,h3,h4,h5⟩ | ⟨b,h1,h2⟩
 ·
  by_cases hc:Zm c=true
  ·
   unfold KM
   rw [if_neg (by rw [WM.2 ok];simp),if_pos hc]
   exact .inl ⟨h1,h2,a,h3,h4,h5⟩
  by_cases hz:(c.now+1).tmod c.every=0
  ·
   right
   unfold KM
   rw [if_neg (by rw [WM.2 ok];simp),if_neg hc,if_neg (by omega)]
   obtain ⟨b1,b2⟩:=Je4 ok
   have hq:=(K6.1 ok.queue).2.2.2 a (by rw [h3];simp)
   have hp:=(Jgd (JeB hq)).2.2
   have hb:(⟨a.name,a.value⟩:J3)∈YW c:=by
    unfold YW
    rw [(Jbb ok).2,h1,h2,h3,show Q1 2 [a]=1 from rfl]
    exact Jgo [a] [] 0 a ⟨by simp,by simp,by simp⟩ (fun x hx=>by rw [HD.1 hx];exact hq) (by simp only [KR,QB,List.map_nil,List.map_cons,HC];rw [Jgg (by simp)];simp) rfl (fun q x hq hx=>by
     have:=(Hx.1 hx).1;simp at this;omega)
   have:=JbE b1 hb hp
   simp only [h4,h5] at this
   exact ⟨YW c,by simp [h1],this⟩
  ·
   unfold KM
   rw [if_neg (by rw [WM.2 ok];simp),if_neg hc,if_pos hz]
   exact .inl ⟨h1,h2,a,h3,h4,h5⟩
 ·
  obtain ⟨m,hm⟩:=(JbO ok).2.books
  exact .inr ⟨b,by rw [hm,List.getElem?_append_left (Hx.1 h1).1];exact h1,h2⟩
structure Jko (e:Int) (v:Bb) (t:JK):Prop where
 I:∃ s,ZS s t
 W:WU t
 one:t.town.owners.length=1
 ev:∃ m,t.events=(⟨1,0,0,e⟩:ZC)::m
 first:JeK v t.town.clerk
theorem Jn5 {e:Int} {v:Bb} {t:JK} (h:Jko e v t):Jko e v (YB t JgK):=by
 obtain ⟨s,hI⟩:=h.I
 have g:=g_do (by rw [h.one];omega) JgK (t:=t)
 obtain ⟨m,hm⟩:=h.ev
 obtain ⟨m',hm',_⟩:=g.ev
 refine ⟨⟨s,i_do hI h.W _⟩,w_do h.W _,g.own.trans h.one,⟨m++m',by rw [hm',hm];rfl⟩,?_⟩
 have:(YB t JgK).town.clerk=(WA t).town.clerk:=by unfold YB;simp
 rw [this]
 rcases k_tick t with q | q <;> rw [q]
 · exact h.first
 · exact JlE hI.clerk h.first
theorem JgL {e:Int} {v:Bb}:∀ (n:Nat) {t:JK},Jko e v t→Jko e v (Jav t (Hi n JgK))
 | 0,_,h=>h
 | n+1,_,h=>JgL n (Jn5 h)
theorem Jn6 {e:Int} {v:Bb} (he:1≤e∧e≤9) (hv:v.length≤20):Jko e v (YB (K0 (YC e)) (JgJ v)):=by
 have hb:=JmL he
 obtain ⟨b1,b2,b3,b4⟩:=Ja5 hb
 obtain ⟨q1,q2,q3,q4,q5,q6,q7⟩:=V2 hb
 obtain ⟨c1,c2,c3,c4,c5⟩:=JaV (m:=5) (b:=2) (e:=e) q4
 have hl:(K0 (YC e)).town.owners.length=1:=b3
 have cb:(Ks 5 2 e).1.batch=2∧(Ks 5 2 e).1.every=e∧(Ks 5 2 e).1.queue=⟨5,[]⟩:=by
  unfold Ks
  rw [if_neg (by unfold Yk;simp;omega)]
  exact ⟨rfl,rfl,rfl⟩
 have ho:=Jcm (t:=K0 (YC e)) (k:=0) (by rw [hl];decide)
 obtain ⟨o1,o2,o3,o4,o5,o6⟩:=Jd0 (c1.chain.ok _ (Hb c1.chain.first)) q3 ho
 have hname:(Jt (K0 (YC e)) 0).name=[97]:=by
  have:(YC e).names[(0:Int).toNat]? = some [97]:=rfl
  rw [this] at o2;exact (Hp.inj o2).symm
 generalize hoo:Jt (K0 (YC e)) 0=ow at *
 have hE:ZQ ow v=0:=by
  unfold ZQ;rw [if_neg (by simp [o1]),if_neg (by unfold WO;simp;omega),if_neg (by rw [o5];simp)]
 have hw:(JJ ow v).2.2=0:=by unfold JJ;rw [if_neg (by simp [hE])]
 obtain ⟨_,_,_,w4,_,w6,_⟩:=JdR hw
 have hk:(JJ ow v).1.key=ow.key:=by rw [w4]
 have hask:(JJ ow v).2.1.name=[97]∧(JJ ow v).2.1.value=v:=by rw [w4];exact ⟨hname,rfl⟩
 have hqr:Kw (JJ ow v).2.1=0:=by
  unfold Kw Wc;rw [hask.1,hask.2,if_neg (by decide +kernel),if_neg (by omega)]
 have hput:(JU (Ks 5 2 e).1.queue (JJ ow v).2.1).2.2=0:=by
  have:ZL (Ks 5 2 e).1.queue (JJ ow v).2.1=0:=by
   unfold ZL;rw [if_neg (by simp [c1.queue]),if_neg (by simp [hqr]),if_neg (by rw [cb.2.2];simp)]
  unfold JU;rw [if_neg (by simp [this])]
 have hcan:(Kx (Ks 5 2 e).1 (JJ ow v).2.1).2.2=0:=by
  unfold Kx
  rw [if_neg (by rw [WM.2 c1];simp),if_neg (by rw [hput];simp),if_neg (by unfold Zm;rw [c5,c2];decide),if_neg]
  rw [hput]
  have:WT (Ks 5 2 e).1 [(JJ ow v).2.1.name]=1:=by
   unfold WT Jas
   rw [c3,c4,hask.1];rfl
  rw [this];omega
 obtain ⟨a1,a2,a3,a4,a5⟩:=Jcj hcan
 obtain ⟨p1,p2,p3,p4⟩:=Jb7 hput
 have hd:(Kx (Ks 5 2 e).1 (JJ ow v).2.1).2.1=e:=by
  rw [a5,p4];simp only
  rw [c2,cb.1,cb.2.1,c4]
  unfold Qo
  rw [if_neg (by simp;omega)]
  simp
 have ht:YB (K0 (YC e)) (JgJ v)=Wg ⟨⟨(Kx (Ks 5 2 e).1 (JJ ow v).2.1).1,(K0 (YC e)).town.owners.set 0 (JJ ow v).1,(K0 (YC e)).town.polls,(K0 (YC e)).town.net⟩,(K0 (YC e)).reach,(K0 (YC e)).fates,[]⟩ 1 0 ow.wanted.length e:=by
  have:=Jps (t:=K0 (YC e)) (d:=JgJ v) (k:=0) (n:=0) rfl rfl (V1.2 ⟨by simp,by rw [hl];simp⟩) (by rw [hoo];exact hw) (by rw [hoo,hk];exact w6) (by rw [hoo];exact hcan)
  unfold YB
  rw [if_pos rfl,this,hoo]
  have h2:(Kx (K0 (YC e)).town.clerk (JJ ow v).2.1).2.1=e:=hd
  rw [show (JgJ v).value=v from rfl,h2];rfl
 refine ⟨⟨_,i_do b1 b2 _⟩,w_do b2 _,?_,?_,?_⟩
 · rw [ht];simp only [HI];exact hl
 · rw [ht];exact ⟨[],by simp [o5]⟩
 ·
  rw [ht];left
  simp only
  rw [a5,p4]
  exact ⟨c3,cb.1,(JJ ow v).2.1,by simp only;rw [c4];rfl,hask.1,hask.2⟩
abbrev Y2 (v:Bb) (n:Nat):List KV:=JgJ v::Hi n JgK
theorem JhW {e:Int} {v:Bb} {n:Nat} (he:1≤e∧e≤9) (hv:v.length≤20) (hn:n<61):(Js (YC e) (Y2 v n)).2.2=0∧(Js (YC e) (Y2 v n)).1.owners.length=1∧(∃ m,(Js (YC e) (Y2 v n)).2.1=(⟨1,0,0,e⟩:ZC)::m)∧Za (Js (YC e) (Y2 v n)).1.clerk∧JeK v (Js (YC e) (Y2 v n)).1.clerk:=by
 have h:=JgL n (Jn6 he hv)
 have hE:Ja4 (YC e) (Y2 v n)=0:=by unfold Ja4;rw [if_neg (by rw [JmL he];simp),if_neg (by simp;omega)]
 have e1:Js (YC e) (Y2 v n)=((Jav (K0 (YC e)) (Y2 v n)).town,(Jav (K0 (YC e)) (Y2 v n)).events,0):=by unfold Js;rw [if_neg (by omega)]
 obtain ⟨s,hI⟩:=h.I
 rw [e1]
 exact ⟨rfl,h.one,h.ev,hI.clerk,h.first⟩
theorem Jq4 {v:Bb} {c:KL} (ok:Za c) (h:JeK v c):(c.heads.length≤1→(JH c [97] 1).2=4)∧(1<c.heads.length→(JH c [97] 1).2=0∧JF (JH c [97] 1).1=(v,true,0)):=by
 have hck:=WM.2 ok
 have hl:=ok.len
 constructor
 ·
  intro h1
  have:Ku c 1=([],4):=by unfold Ku;rw [if_neg (by omega),if_pos (.inr (by omega))]
  unfold JH;rw [this];rfl
 ·
  intro h1
  rcases h with ⟨q,_⟩ | ⟨b,q1,q2⟩
  · rw [q] at hl;simp at hl;omega
  ·
   have hb:Ku c 1=(b,0):=by
    unfold Ku;rw [if_neg (by omega),if_neg (by omega),show (1:Int).toNat=1 from rfl,q1];rfl
   have hT:=ok.book q1
   have hm:(KU b [97]).2=0:=by
    unfold KU
    rw [if_neg (by rw [KS.2 hT];simp),if_neg (by decide +kernel)]
   have hs:(JH c [97] 1).2=0:=by
    unfold JH;rw [hb,if_neg (by simp),if_neg (by simp [hm])]
   refine ⟨hs,?_⟩
   rw [(Jpm hs).2.1,hb];exact q2
def Jbh (e n:Int) (v:Bb):Bs:=[Jp9 e,Jqa,Jkl v,Jkm n,JlD,Jkn,JhU,wEv]
theorem out_4 (t:KD) (h:(Js t.setup t.deeds).2.2=0):VO t JlD=Lib.join (okW::[(Js t.setup t.deeds).1.clerk.now,((Js t.setup t.deeds).1.clerk.heads.length:Int),((Js t.setup t.deeds).1.clerk.queue.wait.length:Int)].map Lib.itoa) [32]:=by
 have hs:JI JlD=[JlD]:=by decide +kernel
 have hc:KH JlD=7:=by decide
 have hr:Jcr t []=([(Js t.setup t.deeds).1.clerk.now,((Js t.setup t.deeds).1.clerk.heads.length:Int),((Js t.setup t.deeds).1.clerk.queue.wait.length:Int)].map Lib.itoa,0):=by unfold Jcr;rw [if_neg (by omega)]
 have he:Vb t JlD=0:=by
  unfold Vb;rw [hs]
  simp only [Y9,He,Hh,hc,Hj,Hl,Qw,hr]
  simp [ZY]
 unfold VO
 rw [if_neg (by omega),hs]
 simp only [Y9,He,Hh,hc,Hj,Hl,Qw,hr]
theorem out_5 (t:KD) (h:(Js t.setup t.deeds).2.2=0) {o:Qh} (ho:(Js t.setup t.deeds).1.owners[0]? = some o):VO t Jkn=Lib.join (okW::[o.head.epoch,o.had].map Lib.itoa) [32]:=by
 have hs:JI Jkn=[[115,101,101,110],[48]]:=by decide +kernel
 have hc:KH [115,101,101,110]=10:=by decide
 have hn:Ka [48]=(0,0):=by decide +kernel
 have hr:YJ t [[48]]=([o.head.epoch,o.had].map Lib.itoa,0):=JmD (y:=[48]) (k:=0) rfl (by rw [hn]) h (by rw [hn];rfl) ho
 have he:Vb t Jkn=0:=by
  unfold Vb;rw [hs]
  simp only [Y9,He,Hh,hc,Hj,Hl,Qw,hr]
  simp [ZY]
 unfold VO
 rw [if_neg (by omega),hs]
 simp only [Y9,He,Hh,hc,Hj,Hl,Qw,hr]
theorem out_6 (t:KD) {v:Bb} (h:(Js t.setup t.deeds).2.2=0) (ok:Za (Js t.setup t.deeds).1.clerk) (hf:JeK v (Js t.setup t.deeds).1.clerk) :
  VO t JhU=if 1<(Js t.setup t.deeds).1.clerk.heads.length then [111,107,32,43,32]++v else [101,114,114,32,52]:=by
 have hs:JI JhU=[[108,111,111,107],[97],[49]]:=by decide +kernel
 have hc:KH [108,111,111,107]=8:=by decide
 have hn:Ka [49]=(1,0):=by decide +kernel
 obtain ⟨l1,l2⟩:=Jq4 ok hf
 split
 ·
  rename_i h1
  obtain ⟨l3,l4⟩:=l2 h1
  have hr:Zz t [[97],[49]]=([[43],v],0):=by
   have:=JmC (t:=t) (w:=[[97],[49]]) (y:=[49]) (x:=[97]) rfl rfl (by rw [hn]) h (by rw [hn];exact l3) (by rw [hn,l4]) (by rw [hn,l4])
   rw [this,hn,l4]
  have he:Vb t JhU=0:=by
   unfold Vb;rw [hs]
   simp only [Y9,He,Hh,hc,Hj,Hl,Qw,hr]
   simp [ZY]
  unfold VO
  rw [if_neg (by omega),hs]
  simp only [Y9,He,Hh,hc,Hj,Hl,Qw,hr]
  simp [Lib.join,okW]
 ·
  rename_i h1
  have l3:=l1 (by omega)
  have hr:(Zz t [[97],[49]]).2=4:=by
   have:=JmB (t:=t) (w:=[[97],[49]]) (y:=[49]) (x:=[97]) rfl rfl (by rw [hn]) h (by rw [hn,l3];decide)
   rw [this,hn,l3]
  have he:Vb t JhU=4:=by
   unfold Vb;rw [hs]
   simp only [Y9,He,Hh,hc,Hj,Hl,Qw,hr]
   simp [ZY]
  unfold VO
  rw [if_pos (by omega),he];decide +kernel
theorem Jkp {e:Int} {v:Bb} {n:Nat} (he:1≤e∧e≤9) (hv:v.length≤20) (hn:n<61) (hb:∀ b∈v,b ≠ 32) {o:Qh} (ho:(Js (YC e) (Y2 v n)).1.owners[0]? = some o) :
  (Q8 (Jbh e n v)).2=0∧(Q8 (Jbh e n v)).1.length=8 ∧
  (Q8 (Jbh e n v)).1[4]? = some (Lib.join (okW::[(Js (YC e) (Y2 v n)).1.clerk.now,((Js (YC e) (Y2 v n)).1.clerk.heads.length:Int),((Js (YC e) (Y2 v n)).1.clerk.queue.wait.length:Int)].map Lib.itoa) [32]) ∧
  (Q8 (Jbh e n v)).1[5]? = some (Lib.join (okW::[o.head.epoch,o.had].map Lib.itoa) [32]) ∧
  (Q8 (Jbh e n v)).1[6]? = some (if 1<(Js (YC e) (Y2 v n)).1.clerk.heads.length then [111,107,32,43,32]++v else [101,114,114,32,52]):=by
 obtain ⟨p1,p2,p3,p4,p5⟩:=JhW he hv hn
 have e4:Zd (Zd (Zd (Zd Jfl (Jp9 e)) Jqa) (Jkl v)) (Jkm n)=⟨YC e,Y2 v n⟩:=by
  rw [line_c he,line_w hb,line_t hn (by simp)];rfl
 have e5:∀ t:KD,Zd t JlD=t:=JhS (by decide)
 have e6:∀ t:KD,Zd t Jkn=t:=JhS (by decide)
 have e7:∀ t:KD,Zd t JhU=t:=fun t=>by
  unfold Zd
  split
  · rfl
  · exact Jkk (by decide +kernel) _ _
 have hd:Q8 (Jbh e n v)=(Jcs Jfl (Jbh e n v),0):=by unfold Q8;rw [if_neg (by simp [Jbh])]
 rw [hd]
 simp only [Jbh,Jcs,e4,e5,e6,e7]
 refine ⟨trivial,rfl,?_,?_,?_⟩
 · exact congrArg some (out_4 _ p1)
 · exact congrArg some (out_5 _ p1 ho)
 · exact congrArg some (out_6 _ p1 p4 p5)
theorem Jd6:Q8 [[111,119,110,101,114,32,97,32,55],[119,97,110,116,32,48,32,120],[116,105,99,107,32,53],[108,111,111,107,32,97,32,49]]=([[111,107],[111,107],[111,107],[111,107,32,43,32,120]],0):=by decide +kernel
theorem JeL (G:J4)   :JaG Tryz.prog 15 #[] G [] (fun u G' L'=>((0:Int)=0)∧u=Bo true∧L'=[]) (fun _ _ _=>False):=by
 refine ZG Tryz.func15 15 [] rfl (fun w0 G0 hT=>Jg [0] [] (Jf (Jd (Ki 4 4 #[Sr ([111,119,110,101,114,32,97,32,55]),Sr ([119,97,110,116,32,48,32,120]),Sr ([116,105,99,107,32,53]),Sr ([108,111,111,107,32,97,32,49])] 9 (fun b1=>Qu (b:=b1) (o:=0) (cs:=[Sr ([111,119,110,101,114,32,97,32,55]),Sr ([119,97,110,116,32,48,32,120]),Sr ([116,105,99,107,32,53]),Sr ([108,111,111,107,32,97,32,49])]) 0 (fun G1 hl1 hz1=>?_))))))
 have hs1:RS ES G1 (At b1 0) 4 [[111,119,110,101,114,32,97,32,55],[119,97,110,116,32,48,32,120],[116,105,99,107,32,53],[108,111,111,107,32,97,32,49]]:=RS.lit [[Sr ([111,119,110,101,114,32,97,32,55])],[Sr ([119,97,110,116,32,48,32,120])],[Sr ([116,105,99,107,32,53])],[Sr ([108,111,111,107,32,97,32,49])]] [[111,119,110,101,114,32,97,32,55],[119,97,110,116,32,48,32,120],[116,105,99,107,32,53],[108,111,111,107,32,97,32,49]] ⟨⟨rfl,(Ha rfl)⟩,⟨⟨rfl,(Ha rfl)⟩,⟨⟨rfl,(Ha rfl)⟩,⟨⟨rfl,(Ha rfl)⟩,trivial⟩⟩⟩⟩ hz1 (Ha rfl) (Ha rfl)
 refine Ye (Ls:=[]) (Lr:=[[]]) 5 hT ((Jkj G1 (At b1 0) 4 ([[111,119,110,101,114,32,97,32,55],[119,97,110,116,32,48,32,120],[116,105,99,107,32,53],[108,111,111,107,32,97,32,49]]) hs1 (by simp) (by decide +kernel)).frame) (fun v G2 L1 hl2 hp=>?_)
 obtain ⟨_,a1,c1,rfl,hs2,rfl⟩:=hp
 refine Jb [0,0,0,0,0] [(1,Sl a1 (((Q8 ([[111,119,110,101,114,32,97,32,55],[119,97,110,116,32,48,32,120],[116,105,99,107,32,53],[108,111,111,107,32,97,32,49]])).1).length) c1),(2,I ((Q8 ([[111,119,110,101,114,32,97,32,55],[119,97,110,116,32,48,32,120],[116,105,99,107,32,53],[108,111,111,107,32,97,32,49]])).2))] (Je (Jc (Jf (Jd (Jb [0,0,0] [(10,Bo (decide ((Q8 ([[111,119,110,101,114,32,97,32,55],[119,97,110,116,32,48,32,120],[116,105,99,107,32,53],[108,111,111,107,32,97,32,49]])).2=0)))] (QS [10] (decide ((Q8 ([[111,119,110,101,114,32,97,32,55],[119,97,110,116,32,48,32,120],[116,105,99,107,32,53],[108,111,111,107,32,97,32,49]])).2=0)) (fun h1=>?_) (fun h1=>?_)))))))
 refine Jb [0] [(11,Sl a1 (((Q8 ([[111,119,110,101,114,32,97,32,55],[119,97,110,116,32,48,32,120],[116,105,99,107,32,53],[108,111,111,107,32,97,32,49]])).1).length) c1)] (Ki 12 4 #[Sr ([111,107]),Sr ([111,107]),Sr ([111,107]),Sr ([111,107,32,43,32,120])] 9 (fun b2=>Qu (b:=b2) (o:=0) (cs:=[Sr ([111,107]),Sr ([111,107]),Sr ([111,107]),Sr ([111,107,32,43,32,120])]) 0 (fun G3 hl3 hz2=>?_)))
 have hs3:RS ES G3 (At b2 0) 4 [[111,107],[111,107],[111,107],[111,107,32,43,32,120]]:=RS.lit [[Sr ([111,107])],[Sr ([111,107])],[Sr ([111,107])],[Sr ([111,107,32,43,32,120])]] [[111,107],[111,107],[111,107],[111,107,32,43,32,120]] ⟨⟨rfl,(Ha rfl)⟩,⟨⟨rfl,(Ha rfl)⟩,⟨⟨rfl,(Ha rfl)⟩,⟨⟨rfl,(Ha rfl)⟩,trivial⟩⟩⟩⟩ hz2 (Ha rfl) (Ha rfl)
 refine Jl 13 (Bo (decide ((Q8 ([[111,119,110,101,114,32,97,32,55],[119,97,110,116,32,48,32,120],[116,105,99,107,32,53],[108,111,111,107,32,97,32,49]])).1=[[111,107],[111,107],[111,107],[111,107,32,43,32,120]]))) (seq_ES G3 a1 c1 ((Q8 ([[111,119,110,101,114,32,97,32,55],[119,97,110,116,32,48,32,120],[116,105,99,107,32,53],[108,111,111,107,32,97,32,49]])).1) (hs2.mono hl3) (At b2 0) 4 ([[111,107],[111,107],[111,107],[111,107,32,43,32,120]]) hs3) (Jb [0,0] [(0,Bo (decide ((Q8 ([[111,119,110,101,114,32,97,32,55],[119,97,110,116,32,48,32,120],[116,105,99,107,32,53],[108,111,111,107,32,97,32,49]])).1=[[111,107],[111,107],[111,107],[111,107,32,43,32,120]])))] (Je (Jc (Jo ?_))))
 have hf1:(0:Int)=0∧(decide ((Q8 ([[111,119,110,101,114,32,97,32,55],[119,97,110,116,32,48,32,120],[116,105,99,107,32,53],[108,111,111,107,32,97,32,49]])).1=[[111,107],[111,107],[111,107],[111,107,32,43,32,120]]))=true:=by
  first | exact ⟨rfl,by rw [Jd6];rfl⟩ | exact absurd (by rw [Jd6]) h1
 refine Jp [0] [Bo (decide ((Q8 ([[111,119,110,101,114,32,97,32,55],[119,97,110,116,32,48,32,120],[116,105,99,107,32,53],[108,111,111,107,32,97,32,49]])).1=[[111,107],[111,107],[111,107],[111,107,32,43,32,120]]))] (bpx (JB [] (Ja (Ja hl1 hl2) hl3) ?_))
 rw [hf1.2]
 try dsimp only
 exact ⟨hf1.1,rfl,rfl⟩
 refine Jb [1,1,1,0,0] [(0,Bo false)] (Je (Jc (Jo ?_)))
 have hf2:(0:Int)=0∧false=true:=by
  first | exact ⟨rfl,by rw [Jd6];rfl⟩ | exact absurd (by rw [Jd6]) h1
 refine Jp [0] [Bo false] (bpx (JB [] (Ja hl1 hl2) ?_))
 rw [hf2.2]
 try dsimp only
 exact ⟨hf2.1,rfl,rfl⟩
theorem enc1 {x:Int} (h:0≤x∧x<128):(Value.string (Utf8.encode x))=Sr [Ho x.toNat]:=by
 have hv:Utf8.valid x=true:=by unfold Utf8.valid;simp;omega
 unfold Utf8.encode
 simp only [hv,if_true]
 rw [if_pos (by omega)]
theorem Jqd {C:Cx} {Q:Bq} {fr:Bf} {G:J4} {L:Bl} {ops:Bp} {rest:List Oper} {o:Oper} (d:Nat) {src dst e:TypeId} {x:Operand} {s:Bb} (hl:s.length≤140737488351232)
  (h:∀ G' b c,J4.le G G'→RS EY G' (At b 0) c (s.map fun y=>(y.toNat:Int))→KA C ops Q rest ((d,Sl (At b 0) (s.map fun y=>(y.toNat:Int)).length c)::fr) G' L)
  (hb:base C.n ops fr o d=true:=by as_aux_lemma=>kernel_rfl) (hop:o.op=.convert src dst x:=by rfl) (hx:Ze fr x=Sr s:=by as_aux_lemma=>kernel_rfl)
  (hs:C.P.underlying src=some .string:=by as_aux_lemma=>kernel_rfl) (hd:C.P.underlying dst=some (.slice e):=by as_aux_lemma=>kernel_rfl) (he:C.P.underlying e=some (.int .u8):=by as_aux_lemma=>kernel_rfl):KA C ops Q (o::rest) fr G L:=by
 simp only [Hr] at h
 refine QI d hb (fun w hw=>?_)
 have hr:=Lib.run_convert_string_bytes (P:=C.P) w src dst e (B s) hs hd he
 have hsz:(B s).size=s.length:=JfM s
 have hlt:∀ b o v,G b o=some v→b<w.heap.size:=fun b o v hv=>WD (hw.mem b o v hv)
 let G':J4:=fun b o=>if b=w.heap.size∧o<s.length then some (.int .u8 ((s.getD o 0).toNat:Int)) else G b o
 have grow:J4.le G G':=fun b o v hv=>by
  show (if _ then _ else _)=_
  rw [if_neg (by have:=hlt b o v hv;omega)];exact hv
 have hcell:∀ b o v,G' b o=some v→(b=w.heap.size∧o<s.length∧v=.int .u8 ((s.getD o 0).toNat:Int))∨G b o=some v:=fun b o v hv=>by
  replace hv:(if b=w.heap.size∧o<s.length then some (Value.int .u8 ((s.getD o 0).toNat:Int)) else G b o)=some v:=hv
  split at hv
  · rename_i hc;exact .inl ⟨hc.1,hc.2,(Hp.inj hv).symm⟩
  · exact .inr hv
 refine ⟨_,_,G',[]++L,?_,hw.call (L':=[]) ⟨Lib.bytesWorld_below w e (B s),fun b o v hv=>?_,grow,fun b o v hv=>?_,by simp,by simp⟩,h G' w.heap.size (grownCap w s.length 0 e) grow ⟨?_,?_,?_,by simp,?_,?_⟩⟩
 ·
  unfold execOp
  simp only [hop,hx,hr,Sem.run_bind,Result.andThen_ok,Sem.run_pure,hsz]
 ·
  rcases hcell b o v hv with ⟨rfl,h2,rfl⟩ | hv
  · rw [Lib.bytesWorld_cell w e (B s) o (by omega),Jda]
  · rw [Lib.bytesWorld_old w e (B s) _ (hlt b o v hv)];exact hw.mem b o v hv
 ·
  rcases hcell b o v hv with ⟨rfl,h2,rfl⟩ | hv
  ·
   refine .inr ⟨Nat.le_refl _,?_⟩
   unfold World.frozen?
   rw [Lib.bytesWorld_at_new]
   have:s.length≤(Lib.bytesCells w e (B s)).size:=by
    unfold Lib.bytesCells;simp [B]
   simp;omega
  · exact .inl hv
 · rw [Hr];exact grownCap_ge w _ 0 e
 · rw [Hr];show s.length*1≤_;omega
 ·
  have:=grownCap_le_maxLen w s.length 0 e (by simp only [maxLen];omega)
  simpa only [maxLen] using this
 · rintro _ ⟨⟩ _;rfl
 ·
  rintro _ ⟨⟩ i y hy
  rw [List.getElem?_map,Option.map_eq_some_iff] at hy
  obtain ⟨z,hz,rfl⟩:=hy
  have hi:=(Hx.1 hz).1
  have hg:s.getD i 0=z:=by rw [List.getD_eq_getElem?_getD,hz];rfl
  refine ⟨[.int .u8 (z.toNat:Int)],⟨rfl,by have:=z.toNat_lt;omega⟩,fun j v hv=>?_⟩
  cases j with
  | zero =>
   simp only [He,Hp.injEq] at hv
   show (if (w.heap.size=w.heap.size∧0+i*1+0<s.length) then some (Value.int .u8 ((s.getD (0+i*1+0) 0).toNat:Int)) else _)=some v
   rw [show 0+i*1+0=i by omega,if_pos ⟨rfl,hi⟩,hg];exact congrArg some hv
  | succ j=>simp at hv
def Qp (n:Int):Bb:=Lib.itoa n
theorem QP (n:Int) (h:-9223372036854775808≤n∧n<9223372036854775808):(Qp n).length≤21:=JbS n h
theorem Jn7 {m:Int} (h0:0≤m) (h:¬ 9<m):Lib.decDigits m.toNat=[Ho (48+m).toNat]:=by
 rw [Lib.decDigits,dif_pos (by omega)];congr 2;omega
theorem Jqe {m:Int} (h:9<m):Lib.decDigits m.toNat=Lib.decDigits (m / 10).toNat++[Ho (48+m % 10).toNat]:=by
 rw [Lib.decDigits,dif_neg (by omega)]
 rw [show (m / 10).toNat=m.toNat / 10 by omega,show (48+m % 10).toNat=48+m.toNat % 10 by omega]
theorem JmM {n:Int} {a b:Bb} (h0:0≤n∧n<9223372036854775808) (h:Lib.decDigits n.toNat=a++b):a.length+b.length≤21:=by
 have:=JbS n (by omega)
 unfold Lib.itoa at this
 rw [if_neg (by omega),h,Hd] at this;exact this
def JiP (c:Int):Bool:=decide (c<97) || decide (c > 122)
def dkOut (e n:Int) (v:Bb):Bs×Int:=Q8 [[99,108,101,114,107,32,53,32,50,32]++Qp e,[111,119,110,101,114,32,97,32,55],[119,97,110,116,32,48,32]++v,[116,105,99,107,32]++Qp n,[110,111,119],[115,101,101,110,32,48],[108,111,111,107,32,97,32,49],[101,118,101,110,116,115]]
def Jqf (e:Int) (v:Bb) (n:Nat):Wb×List ZC×Int:=Js ⟨[[97]],[7],5,2,e,2,8,3,10⟩ ([⟨1,0,v,[],⟨0,0,0,0,[],⟨⟨0,0,0,0⟩,⟨[],[],[]⟩⟩⟩⟩]++Hi n ⟨4,0,[],[],⟨0,0,0,0,[],⟨⟨0,0,0,0⟩,⟨[],[],[]⟩⟩⟩⟩)
theorem JiQ {w s:Bb} (h:∀ b∈w,b ≠ 32) (hd:dS (KH w)=true):dS (KH (Y9 (JI (w++32::s)) 0))=true:=by rw [Jdr h];exact hd
theorem Jq5 (e n:Int) (v:Bb):∀ s∈[[99,108,101,114,107,32,53,32,50,32]++Qp e,[111,119,110,101,114,32,97,32,55],[119,97,110,116,32,48,32]++v,[116,105,99,107,32]++Qp n,[110,111,119],[115,101,101,110,32,48],[108,111,111,107,32,97,32,49],[101,118,101,110,116,115]],dS (KH (Y9 (JI s) 0))=true:=by
 intro s hs
 simp only [Hw,Hs,or_false] at hs
 rcases hs with rfl | rfl | rfl | rfl | rfl | rfl | rfl | rfl
 ·
  have q:=JiQ (w:=[99,108,101,114,107]) (s:=[53,32,50,32]++Qp e) (by decide) (by decide +kernel)
  simp only [HA,HC] at q ⊢;exact q
 · decide +kernel
 ·
  have q:=JiQ (w:=[119,97,110,116]) (s:=[48,32]++v) (by decide) (by decide +kernel)
  simp only [HA,HC] at q ⊢;exact q
 ·
  have q:=JiQ (w:=[116,105,99,107]) (s:=Qp n) (by decide) (by decide +kernel)
  simp only [HA,HC] at q ⊢;exact q
 all_goals decide +kernel
structure Jq6 (O:Bs×Int) (v:Bb) (T:Wb):Prop where
 err:O.2=0
 len:O.1.length=8
 own:T.owners.length=1
 now:0≤T.clerk.now∧T.clerk.now≤1000000000
 sm:T.clerk.heads.length≤1000∧T.clerk.queue.wait.length≤1000
 l4:O.1[4]? = some ((((([111,107,32]++Qp T.clerk.now)++[32])++Qp T.clerk.heads.length)++[32])++Qp T.clerk.queue.wait.length)
 l5:∀ o,T.owners[0]? = some o→0≤o.head.epoch∧0≤o.had∧O.1[5]? = some ((([111,107,32]++Qp o.head.epoch)++[32])++Qp o.had)
 l6:O.1[6]? = some (if 1<T.clerk.heads.length then [111,107,32,43,32]++v else [101,114,114,32,52])
theorem Jqg {e n:Int} {v:Bb} {k:Nat} {O:Bs×Int} {T:Wb×List ZC×Int} (he:1≤e∧e≤9) (hv:v.length≤20) (hk:n=(k:Int)) (hn:k<61) (hb:((v.map fun y=>(y.toNat:Int)).any fun x=>JiP x)=false) (hO:dkOut e n v=O) (hT:Jqf e v k=T) :
  Jq6 O v T.1∧T.2.2=0∧∃ m,T.2.1=(⟨1,0,0,e⟩:ZC)::m:=by
 have hb32:∀ b∈v,b ≠ 32:=fun b hm hc=>by
  have:=List.any_eq_false.1 hb (b.toNat:Int) (List.mem_map.2 ⟨b,hm,rfl⟩)
  subst hc
  simp [JiP] at this
 subst hk
 subst hO
 subst hT
 obtain ⟨p1,p2,p3,p4,p5⟩:=JhW (n:=k) he hv hn
 obtain ⟨r1,r2,r3,r4,r5,r6,r7,r8⟩:=Jbt p1
 have eP:Jqf e v k=Js (YC e) (Y2 v k):=rfl
 have eO:dkOut e (k:Int) v=Q8 (Jbh e k v):=rfl
 rw [eP]
 have ho:∃ o,(Js (YC e) (Y2 v k)).1.owners[0]? = some o:=⟨_,HG (by omega)⟩
 obtain ⟨o,ho⟩:=ho
 obtain ⟨l1,l2,l4,l5,l6⟩:=Jkp he hv hn hb32 ho
 refine ⟨⟨by rw [eO];exact l1,by rw [eO];exact l2,p2,p4.now,by have q1:=p4.chain.len;have q2:=K6.1 p4.queue;omega,by rw [eO,l4];simp [Lib.join,okW,Qp],fun o' ho'=>?_,by rw [eO];exact l6⟩,p1,p3⟩
 rw [ho] at ho'
 obtain rfl:=Hp.inj ho'
 have q:=K8.1 (r7 0 o ho).1
 exact ⟨(Zf q.2.1).1,q.2.2.2.2.1,by rw [eO,l5];simp [Lib.join,okW,Qp]⟩
theorem Jqh (G:J4) (a_l:Ba) (c_l:Nat) (l:List Int) (h_l:RS EY G a_l c_l l) (k_f:FuncId) (caps_f:Array Value) (p_f:Int→Bool) (hk_f:JaX Tryz.prog k_f) (h_f:∀ (x0:Int) (hx0:0≤x0∧x0<256),VB Tryz.prog k_f (#[Y x0]++caps_f) G [] (fun u _ _=>u=Bo (p_f x0))) :Q7 32 #[Sl a_l l.length c_l,Fv k_f caps_f] G (I (QK p_f l)):=by
 refine JS Tryz.func32 19 [(0,Sl a_l l.length c_l),(1,Fv k_f caps_f)] rfl (fun w0 G0=>?_)
 refine Jg [0] [] (Jf (Jg [0,0,0] [(7,I (l.length:Int)),(8,I 0)] (Jx ?_)))
 have hlm_h_l:l.length≤9223372036854775807:=Hy (h_l).le (h_l).max
 refine Qb (σ:=Nat) (fun q_=>(q_≤l.length)∧((l.take q_).any p_f=false)) (fun q_=>[(0,Sl a_l l.length c_l),(1,Fv k_f caps_f),(7,I (l.length:Int)),(8,I (q_:Int))]) (fun q_=>G) (fun q_=>[]) (fun q_=>l.length-q_) 0 ⟨(by (try dsimp only);exact Nat.zero_le _),(by (try dsimp only);simp)⟩ (fun q_ hs=>?_)
 revert hs;revert q_;intro i hs
 obtain ⟨hi,hn⟩:=hs
 dsimp only
 refine Jg [0] [(9,Bo (decide ((i:Int)<(l.length:Int))))] (Jf (Jm (decide ((i:Int)<(l.length:Int))) (fun h1=>?_) (fun h1=>?_)))
 refine Jq (Jc (Jf (Jx (Jg [0,0] [(5,I (i:Int))] (Jf (Jd (Jb [0,0,0] [(11,Fv k_f caps_f),(12,Sl a_l l.length c_l),(13,I (i:Int))] ?_)))))))
 obtain ⟨b1,o1,rfl⟩:=RS.addr h_l (k:=i) (by omega)
 obtain ⟨x1,hx1⟩:=QW (l:=l) (k:=i) (by omega)
 obtain ⟨_,⟨rfl,w1⟩,hc1⟩:=RS.get h_l hx1
 refine JY (b:=b1) (off:=o1) (len:=l.length) (cap:=c_l) (ik:=.i64) 14 5 1 i J5 (JR 15 5 (cs:=[Y x1]) 0 (Y x1) hc1 (ZM (k:=k_f) (caps:=caps_f) (args:=#[Y x1]) 16 (Bo (p_f x1)) hk_f (h_f x1 w1) (Je (Jc (Jm (p_f x1) (fun h2=>?_) (fun h2=>?_))))))
 refine Jg [0,0] [(4,I (i:Int))] (Jo (Ju (Jj (Q0 (Ju (Jj (Jp [0] [I (i:Int)] (Jy (Jh _) (congrArg I (?_:(QK p_f l)=(i:Int)).symm)))))))))
 exact Vv hx1 (by simpa using h2) hn
 exact Jq (JN (Jc (Jd (Jb [0,0] [(8,I (Hk.wrap ((i:Int)+1)))] (Kp 8 ((i:Int)+1) J5 (Je (Qf (i+1) ⟨J5,(Jaa hx1 (by simpa using h2) hn)⟩ (by (try dsimp only);omega))))))))
 refine KW (J1 (J8 (JT (Jc (Jg [0] [(4,I (-1))] (Jo (Jp [0] [I (-1)] (Jy (Jh _) (congrArg I (?_:(QK p_f l)=(-1)).symm)))))))))
 exact Y5 (by rw [Ht (by omega)] at hn;exact hn)
theorem Jq7 (G:J4) (a_l:Ba) (c_l:Nat) (l:List Int) (h_l:RS EY G a_l c_l l) (k_f:FuncId) (caps_f:Array Value) (p_f:Int→Bool) (hk_f:JaX Tryz.prog k_f) (h_f:∀ (x0:Int) (hx0:0≤x0∧x0<256),VB Tryz.prog k_f (#[Y x0]++caps_f) G [] (fun u _ _=>u=Bo (p_f x0))) :Q7 16 #[Sl a_l l.length c_l,Fv k_f caps_f] G (Bo (l.any p_f)):=by
 refine JS Tryz.func16 9 [(0,Sl a_l l.length c_l),(1,Fv k_f caps_f)] rfl (fun w0 G0=>?_)
 refine Jg [0] [] (Jf (Jd (Jb [0,0] [(5,Sl a_l l.length c_l),(6,Fv k_f caps_f)] (Jl 7 (I (QK p_f l)) (Jqh G a_l c_l l h_l k_f caps_f p_f hk_f h_f) (Jb [0,0] [(4,Bo (decide (QK p_f l ≥ 0)))] (Je (Jc (Jo (Jp [0] [Bo (decide (QK p_f l ≥ 0))] (Jy (Jh _) (congrArg Bo (?_:(l.any p_f)=(decide (QK p_f l ≥ 0))).symm)))))))))))
 rw [Jab]
theorem JaW (G:J4) (n:Int) (hw_n:rI n) (hn:0≤n):Q7 18 #[I n] G (Sr (Qp n)):=by
 refine JS Tryz.func18 21 [(0,I n)] rfl (fun w0 G0=>?_)
 refine Jg [0] [] (Jg [0] [(3,Sr ([]))] (Jf (Jx ?_)))
 refine Qb (σ:=Int×Bb) (fun q_=>(0≤q_.1∧q_.1<9223372036854775808)∧(Lib.decDigits n.toNat=Lib.decDigits q_.1.toNat++q_.2)) (fun q_=>[(0,I q_.1),(3,Sr q_.2)]) (fun q_=>G) (fun q_=>[]) (fun q_=>q_.1.toNat) (n,[]) ⟨⟨hn,hw_n.2⟩,(by (try dsimp only);simp)⟩ (fun q_ hs=>?_)
 obtain ⟨m,z⟩:=q_
 obtain ⟨hm,hz⟩:=hs
 dsimp only at hm hz
 dsimp only
 refine Jf (Jg [0,0] [(5,Bo (decide (m > 9)))] (Jm (decide (m > 9)) (fun h1=>?_) (fun h1=>?_)))
 refine Jq (Jc (Jf (Jx (Jd (Jb [0,0,0,0] [(11,.int .i32 (HB.wrap (Hk.wrap (48+((m).tmod 10)))))] ?_)))))
 have e1:(m).tmod 10=m % 10:=IntWalk.rem_in _ _ (by omega)
 have e2:Hk.wrap (48+(m % 10))=48+(m % 10):=HL _ (by omega)
 have e3:HB.wrap (48+(m % 10))=48+(m % 10):=IntWalk.i32_in _ (by omega)
 refine KE 11 (.int .i32 (48+(m % 10))) (show (.int .i32 (HB.wrap (Hk.wrap (48+((m).tmod 10)))):Value)=.int .i32 (48+(m % 10)) by simp only [e1,e2,e3]) ?_
 clear e3 e2 e1
 refine V8 12 (Sr [Ho (48+(m % 10)).toNat]) (by intro w;rw [← enc1 (show 0≤48+(m % 10)∧48+(m % 10)<128 by omega)];kernel_rfl) (Jb [0] [(13,Sr z)] (Wi 14 ([Ho (48+(m % 10)).toNat]) z (by have q_:=JmM ⟨hn,hw_n.2⟩ hz;simp;omega) (Jb [0] [(3,Sr (([Ho (48+(m % 10)).toNat])++z))] (Je (JN (Jc (Jd (Jb [0,0,0] [(0,I (Hk.wrap ((m).tdiv 10)))] ?_))))))))
 have e4:Hk.wrap ((m).tdiv 10)=m / 10:=IntWalk.i64_quo _ _ (by omega)
 refine KE 0 (I (m / 10)) (congrArg I e4) ?_
 clear e4
 exact Je (Qf (m / 10,([Ho (48+(m % 10)).toNat])++z) ⟨J5,(by (try dsimp only);rw [hz,Jqe (by omega)];simp)⟩ J5)
 refine KW (J1 (J8 (JT (Jc (Jf (Jd (Jb [0,0,0] [(17,.int .i32 (HB.wrap (Hk.wrap (48+m))))] ?_)))))))
 have e5:Hk.wrap (48+m)=48+m:=HL _ (by omega)
 have e6:HB.wrap (48+m)=48+m:=IntWalk.i32_in _ (by omega)
 refine KE 17 (.int .i32 (48+m)) (show (.int .i32 (HB.wrap (Hk.wrap (48+m))):Value)=.int .i32 (48+m) by simp only [e5,e6]) ?_
 clear e6 e5
 refine V8 18 (Sr [Ho (48+m).toNat]) (by intro w;rw [← enc1 (show 0≤48+m∧48+m<128 by omega)];kernel_rfl) (Jb [0] [(19,Sr z)] (Wi 20 ([Ho (48+m).toNat]) z (by have q_:=JmM ⟨hn,hw_n.2⟩ hz;simp;omega) (Jb [0] [(2,Sr (([Ho (48+m).toNat])++z))] (Je (Jc (Jo (Jp [0] [Sr (([Ho (48+m).toNat])++z)] (Jy (Jh _) (congrArg Sr (?_:(Qp n)=(([Ho (48+m).toNat])++z)).symm)))))))))
 unfold Qp Lib.itoa;rw [if_neg (by omega),hz,Jn7 (by omega) (by omega)]
theorem Jqi (G:J4) (c:Int) (hw_c:0≤c∧c<256) :Q7 17 #[Y c] G (Bo (JiP c)):=by
 refine JS Tryz.func17 9 [(0,Y c)] rfl (fun w0 G0=>?_)
 refine Jg [0] [] (Jf (Jd (Jb [0,0,0] [(5,Bo (decide (c<97)))] (Kk (decide (c<97)) [5] [1,1,0] [0,0,0] (fun bb=>[(8,Bo (bb || (decide (c > 122))))]) (Jb [0] [(2,Bo ((decide (c<97)) || (decide (c > 122))))] (Je (Jc (Jo (Jp [0] [Bo ((decide (c<97)) || (decide (c > 122)))] (Jy (Jh _) (congrArg Bo (?_:(JiP c)=((decide (c<97)) || (decide (c > 122)))).symm)))))))))))
 unfold JiP;rfl
set_option maxRecDepth 20000 in
abbrev JgM (value:Bb):=(⟨1,0,value,[],(⟨0,0,0,0,[],(⟨(⟨0,0,0,0⟩:JV),(⟨[],[],[]⟩:Qy)⟩:QL)⟩:JQ)⟩:KV)
set_option maxHeartbeats 1600000 in
theorem Jkq (G:J4)  (every:Int) (hw_every:rI every) (ticks:Int) (hw_ticks:rI ticks) (value:Bb) (hw_value:(value).length≤140737488351232) :JaG Tryz.prog 5 #[I every,I ticks,Sr value] G [] (fun u G' L'=>((0:Int)=0)∧u=Bo true∧L'=[]) (fun _ _ _=>False):=by
 refine ZG Tryz.func5 184 [(0,I every),(1,I ticks),(2,Sr value)] rfl (fun w0 G0 hT=>Jg [0] [] (Jf (Jf (Jd (Ye (Ls:=[]) (Lr:=[]) 15 hT ((JeL G).frame) (fun v G1 L1 hl1 hp=>?_))))))
 obtain ⟨_,rfl,rfl⟩:=hp
 refine Jb [0,0,0,0,0,0] [(21,Bo (decide (every<1)))] (Kk (decide (every<1)) [21] [1,1,0] [0,0,0] (fun bb=>[(24,Bo (bb || (decide (every > 9))))]) (Jb [0] [(25,Bo ((decide (every<1)) || (decide (every > 9))))] (Kk ((decide (every<1)) || (decide (every > 9))) [25] [1,1,0] [0,0,0] (fun bb=>[(28,Bo (bb || (decide (ticks<0))))]) (Jb [0] [(29,Bo (((decide (every<1)) || (decide (every > 9))) || (decide (ticks<0))))] (Kk (((decide (every<1)) || (decide (every > 9))) || (decide (ticks<0))) [29] [1,1,0] [0,0,0] (fun bb=>[(32,Bo (bb || (decide (ticks > 60))))]) (Jb [0] [(33,Bo ((((decide (every<1)) || (decide (every > 9))) || (decide (ticks<0))) || (decide (ticks > 60))))] (Kk ((((decide (every<1)) || (decide (every > 9))) || (decide (ticks<0))) || (decide (ticks > 60))) [33] [1,1,1,0] [0,0,0,0] (fun bb=>[(37,Bo (bb || (decide (((value).length:Int)<1))))]) (Jb [0] [(38,Bo (((((decide (every<1)) || (decide (every > 9))) || (decide (ticks<0))) || (decide (ticks > 60))) || (decide (((value).length:Int)<1))))] (Kk (((((decide (every<1)) || (decide (every > 9))) || (decide (ticks<0))) || (decide (ticks > 60))) || (decide (((value).length:Int)<1))) [38] [1,1,1,0] [0,0,0,0] (fun bb=>[(42,Bo (bb || (decide (((value).length:Int) > 20))))]) (Jb [0] [(43,Bo ((((((decide (every<1)) || (decide (every > 9))) || (decide (ticks<0))) || (decide (ticks > 60))) || (decide (((value).length:Int)<1))) || (decide (((value).length:Int) > 20))))] ?_))))))))))
 refine QS [43] ((((((decide (every<1)) || (decide (every > 9))) || (decide (ticks<0))) || (decide (ticks > 60))) || (decide (((value).length:Int)<1))) || (decide (((value).length:Int) > 20))) (fun h1=>?_) (fun h1=>?_)
 refine Jb [1,1,1,0] [(47,Bo true)] (Je (Jc (JZ (Jf (Jd (Ye (Ls:=[]) (Lr:=[]) 48 hT ((JeL G1).frame) (fun v G2 L1 hl2 hp=>?_)))))))
 obtain ⟨_,rfl,rfl⟩:=hp
 refine Jb [0] [(6,Bo true)] (Je (Jc (Jo (Jj ?_))))
 have hf1:(0:Int)=0∧true=true:=by
  exact ⟨rfl,rfl⟩
 refine Jp [0] [Bo true] (bpx (JB [] (Ja hl1 hl2) ?_))
 rw [hf1.2]
 try dsimp only
 exact ⟨hf1.1,rfl,rfl⟩
 refine Jb [0] [(44,Sr value)] (Jqd (e:=5) 45 hw_value (fun G3 b1 c1 hl3 hs1=>Jl 46 (Bo ((value.map fun y_=>(y_.toNat:Int)).any (fun x0=>JiP x0))) (Jq7 G3 (At b1 0) c1 (value.map fun y_=>(y_.toNat:Int)) hs1 17 #[] (fun x0=>JiP x0) (fun _ _=>by kernel_rfl) (fun x0 hx0=>Jqi G3 x0 hx0)) (Jb [0] [(47,Bo ((value.map fun y_=>(y_.toNat:Int)).any (fun x0=>JiP x0)))] (Je (Jc (Jm ((value.map fun y_=>(y_.toNat:Int)).any (fun x0=>JiP x0)) (fun h2=>?_) (fun h2=>?_)))))))
 refine Jf (Jd (Ye (Ls:=[]) (Lr:=[]) 48 hT ((JeL G3).frame) (fun v G4 L1 hl4 hp=>?_)))
 obtain ⟨_,rfl,rfl⟩:=hp
 refine Jb [0] [(6,Bo true)] (Je (Jc (Jo (Jj ?_))))
 have hf2:(0:Int)=0∧true=true:=by
  exact ⟨rfl,rfl⟩
 refine Jp [0] [Bo true] (bpx (JB [] (Ja (Ja hl1 hl3) hl4) ?_))
 rw [hf2.2]
 try dsimp only
 exact ⟨hf2.1,rfl,rfl⟩
 refine Jq (Jc (Jg [0] [(7,Fv 18 #[])] (Jf (Jd (Jb [0,0] [(50,Fv 18 #[]),(51,I every)] (Jl 52 (Sr (Qp every)) (JaW G3 every hw_every J5) (Wi 53 ([99,108,101,114,107,32,53,32,50,32]) (Qp every) (by have q1_:=QP every (by omega);have q2_:=QP ticks (by omega);simp;omega) (Jb [0] [(54,Sr value)] (Wi 55 ([119,97,110,116,32,48,32]) value (by have q1_:=QP every (by omega);have q2_:=QP ticks (by omega);simp;omega) (Jb [0,0] [(56,Fv 18 #[]),(57,I ticks)] (Jl 58 (Sr (Qp ticks)) (JaW G3 ticks hw_ticks J5) (Wi 59 ([116,105,99,107,32]) (Qp ticks) (by have q1_:=QP every (by omega);have q2_:=QP ticks (by omega);simp;omega) (Ki 60 8 #[Sr (([99,108,101,114,107,32,53,32,50,32])++(Qp every)),Sr ([111,119,110,101,114,32,97,32,55]),Sr (([119,97,110,116,32,48,32])++value),Sr (([116,105,99,107,32])++(Qp ticks)),Sr ([110,111,119]),Sr ([115,101,101,110,32,48]),Sr ([108,111,111,107,32,97,32,49]),Sr ([101,118,101,110,116,115])] 9 (fun b2=>?_))))))))))))))
 refine Qu (b:=b2) (o:=0) (cs:=[Sr (([99,108,101,114,107,32,53,32,50,32])++(Qp every)),Sr ([111,119,110,101,114,32,97,32,55]),Sr (([119,97,110,116,32,48,32])++value),Sr (([116,105,99,107,32])++(Qp ticks)),Sr ([110,111,119]),Sr ([115,101,101,110,32,48]),Sr ([108,111,111,107,32,97,32,49]),Sr ([101,118,101,110,116,115])]) 0 (fun G5 hl5 hz1=>?_)
 have hs2:RS ES G5 (At b2 0) 8 [([99,108,101,114,107,32,53,32,50,32])++(Qp every),[111,119,110,101,114,32,97,32,55],([119,97,110,116,32,48,32])++value,([116,105,99,107,32])++(Qp ticks),[110,111,119],[115,101,101,110,32,48],[108,111,111,107,32,97,32,49],[101,118,101,110,116,115]]:=RS.lit [[Sr (([99,108,101,114,107,32,53,32,50,32])++(Qp every))],[Sr ([111,119,110,101,114,32,97,32,55])],[Sr (([119,97,110,116,32,48,32])++value)],[Sr (([116,105,99,107,32])++(Qp ticks))],[Sr ([110,111,119])],[Sr ([115,101,101,110,32,48])],[Sr ([108,111,111,107,32,97,32,49])],[Sr ([101,118,101,110,116,115])]] [([99,108,101,114,107,32,53,32,50,32])++(Qp every),[111,119,110,101,114,32,97,32,55],([119,97,110,116,32,48,32])++value,([116,105,99,107,32])++(Qp ticks),[110,111,119],[115,101,101,110,32,48],[108,111,111,107,32,97,32,49],[101,118,101,110,116,115]] ⟨⟨rfl,(by have q_:=QP every (by omega);(try simp only [Hd,Hf,Hg]);omega)⟩,⟨⟨rfl,(Ha rfl)⟩,⟨⟨rfl,(by (simp;omega))⟩,⟨⟨rfl,(by have q_:=QP ticks (by omega);(try simp only [Hd,Hf,Hg]);omega)⟩,⟨⟨rfl,(Ha rfl)⟩,⟨⟨rfl,(Ha rfl)⟩,⟨⟨rfl,(Ha rfl)⟩,⟨⟨rfl,(Ha rfl)⟩,trivial⟩⟩⟩⟩⟩⟩⟩⟩ hz1 (Ha rfl) (Ha rfl)
 refine Ye (Ls:=[]) (Lr:=[[]]) 61 hT ((Jkj G5 (At b2 0) 8 ([([99,108,101,114,107,32,53,32,50,32])++(Qp every),[111,119,110,101,114,32,97,32,55],([119,97,110,116,32,48,32])++value,([116,105,99,107,32])++(Qp ticks),[110,111,119],[115,101,101,110,32,48],[108,111,111,107,32,97,32,49],[101,118,101,110,116,115]]) hs2 (by have q1_:=QP every (by omega);have q2_:=QP ticks (by omega);simp;omega) (Jq5 _ _ _)).frame) (fun v G6 L1 hl6 hp=>?_)
 generalize hK_O_:Q8 ([([99,108,101,114,107,32,53,32,50,32])++(Qp every),[111,119,110,101,114,32,97,32,55],([119,97,110,116,32,48,32])++value,([116,105,99,107,32])++(Qp ticks),[110,111,119],[115,101,101,110,32,48],[108,111,111,107,32,97,32,49],[101,118,101,110,116,115]])=O_ at hp
 obtain ⟨_,a1,c2,rfl,hs3,rfl⟩:=hp
 refine Jb [0,0,0,0,0] [(8,Sl a1 ((O_.1).length) c2),(9,I O_.2)] (Je (Jc (Jf (Jd (Jb [0,0] [(65,.agg #[I 1,I 0,Sr value,Sl none 0 0,I 0,I 0,I 0,I 0,Sl none 0 0,I 0,U 0,U 0,I 0,Sr ([]),Sl none 0 0,Sl none 0 0])] (Ki 66 1 #[I 1,I 0,Sr value,Sl none 0 0,I 0,I 0,I 0,I 0,Sl none 0 0,I 0,U 0,U 0,I 0,Sr ([]),Sl none 0 0,Sl none 0 0] 53 (fun b3=>Jb [0] [(67,.agg #[I 4,I 0,Sr ([]),Sl none 0 0,I 0,I 0,I 0,I 0,Sl none 0 0,I 0,U 0,U 0,I 0,Sr ([]),Sl none 0 0,Sl none 0 0])] (Ki 68 1 #[I 4,I 0,Sr ([]),Sl none 0 0,I 0,I 0,I 0,I 0,Sl none 0 0,I 0,U 0,U 0,I 0,Sr ([]),Sl none 0 0,Sl none 0 0] 53 (fun b4=>Jb [0] [(69,I ticks)] (Qu (b:=b4) (o:=0) (cs:=[I 4,I 0,Sr ([]),Sl none 0 0,I 0,I 0,I 0,I 0,Sl none 0 0,I 0,U 0,U 0,I 0,Sr ([]),Sl none 0 0,Sl none 0 0]) 0 (fun G7 hl7 hz2=>?_)))))))))))
 have hs4:RS Wr G7 (At b4 0) 1 [(⟨4,0,[],[],(⟨0,0,0,0,[],(⟨(⟨0,0,0,0⟩:JV),(⟨[],[],[]⟩:Qy)⟩:QL)⟩:JQ)⟩:KV)]:=RS.lit [[I 4,I 0,Sr ([]),Sl none 0 0,I 0,I 0,I 0,I 0,Sl none 0 0,I 0,U 0,U 0,I 0,Sr ([]),Sl none 0 0,Sl none 0 0]] [(⟨4,0,[],[],(⟨0,0,0,0,[],(⟨(⟨0,0,0,0⟩:JV),(⟨[],[],[]⟩:Qy)⟩:QL)⟩:JQ)⟩:KV)] ⟨⟨none,0,none,0,none,0,none,0,rfl,(by (simp;done)),(by (simp;done)),(Ha rfl),(JP EI G7),(by (simp;done)),(by (simp;done)),(by (simp;done)),(by (simp;done)),(JP KG G7),(by (simp;done)),(by (simp;done)),(by (simp;done)),(by (simp;done)),(Ha rfl),(JP QJ G7),(JP EU G7)⟩,trivial⟩ hz2 (Ha rfl) (Ha rfl)
 obtain ⟨kn1,hkn1⟩:∃ k_:Nat,ticks=(k_:Int):=⟨(ticks).toNat,by omega⟩
 have e1:ticks=(kn1:Int):=hkn1
 refine KE 69 (I (kn1:Int)) (congrArg I e1) (JM 70 (Jfh G7 (At b4 0) 1 (⟨4,0,[],[],(⟨0,0,0,0,[],(⟨(⟨0,0,0,0⟩:JV),(⟨[],[],[]⟩:Qy)⟩:QL)⟩:JQ)⟩:KV) hs4 kn1 J5) (fun v G8 L1 hl8 hp=>?_))
 obtain ⟨_,_,_,rfl,hr1,rfl⟩:=hp
 refine WC (E:=Wr) 0 hr1 (by (try simp only [Wr,Hd,Hf,Hg,Hq]);omega) (fun G9 hl9 hs5=>Jax 71 53 2 (E:=Wr) ((J0.of_lit (E:=Wr) (G:=G8) (b:=b3) [[I 1,I 0,Sr value,Sl none 0 0,I 0,I 0,I 0,I 0,Sl none 0 0,I 0,U 0,U 0,I 0,Sr ([]),Sl none 0 0,Sl none 0 0]] [(JgM value)] ⟨⟨none,0,none,0,none,0,none,0,rfl,(by (simp;done)),(by (simp;done)),hw_value,(JP EI G8),(by (simp;done)),(by (simp;done)),(by (simp;done)),(by (simp;done)),(JP KG G8),(by (simp;done)),(by (simp;done)),(by (simp;done)),(by (simp;done)),(Ha rfl),(JP QJ G8),(JP EU G8)⟩,trivial⟩ (by simp)).mono hl9) hs5 (by (try simp only [Wr,Hd,Hf,Hg,Hq]);omega) (by (try simp only [Wr,Hd,Hf,Hg,Hq]);omega) (fun a3 c4 r2 hr2=>Jb [0] [(10,Sl a3 ((([(JgM value)]:List KV)++(Hi kn1 (⟨4,0,[],[],(⟨0,0,0,0,[],(⟨(⟨0,0,0,0⟩:JV),(⟨[],[],[]⟩:Qy)⟩:QL)⟩:JQ)⟩:KV))).length) c4)] (Je (Jc (Jf (Jd (Ki 73 1 #[Sr ([97])] 9 (fun b5=>Ki 74 1 #[U 7] 41 (fun b6=>Jb [0,0,0] [(76,.agg #[Sl (At b5 0) 1 1,Sl (At b6 0) 1 1,I 5,I 2,I every,I 2,I 8,I 3,I 10]),(77,Sl a3 ((([(JgM value)]:List KV)++(Hi kn1 (⟨4,0,[],[],(⟨0,0,0,0,[],(⟨(⟨0,0,0,0⟩:JV),(⟨[],[],[]⟩:Qy)⟩:QL)⟩:JQ)⟩:KV))).length) c4)] (Qu (b:=b5) (o:=0) (cs:=[Sr ([97])]) 1 (fun G10 hl10 hz3=>?_)))))))))))
 have hs6:RS ES G10 (At b5 0) 1 [[97]]:=RS.lit [[Sr ([97])]] [[97]] ⟨⟨rfl,(Ha rfl)⟩,trivial⟩ hz3 (Ha rfl) (Ha rfl)
 refine Qu (b:=b6) (o:=0) (cs:=[U 7]) 0 (fun G11 hl11 hz4=>?_)
 have hs7:RS EU G11 (At b6 0) 1 [7]:=RS.lit [[U 7]] [7] ⟨⟨rfl,(by omega)⟩,trivial⟩ hz4 (Ha rfl) (Ha rfl)
 refine WC (E:=Wr) 4 (hr2.mono (Ja hl10 hl11)) (by (try simp only [Wr,Hd,Hf,Hg,Hq]);omega) (fun G12 hl12 hs8=>JM 78 (JnO G12 [Sl (At b5 0) 1 1,Sl (At b6 0) 1 1,I 5,I 2,I every,I 2,I 8,I 3,I 10] (⟨[[97]],[7],5,2,every,2,8,3,10⟩:Ky) (⟨(At b5 0),1,(At b6 0),1,rfl,(hs6.mono (Ja hl11 hl12)),(hs7.mono hl12),(by (simp;done)),(by (simp;done)),hw_every,(by (simp;done)),(by (simp;done)),(by (simp;done)),(by (simp;done))⟩) a3 c4 (([(JgM value)]:List KV)++(Hi kn1 (⟨4,0,[],[],(⟨0,0,0,0,[],(⟨(⟨0,0,0,0⟩:JV),(⟨[],[],[]⟩:Qy)⟩:QL)⟩:JQ)⟩:KV))) hs8) (fun v G13 L1 hl13 hp=>?_))
 generalize hK_T_:Js (⟨[[97]],[7],5,2,every,2,8,3,10⟩:Ky) (([(JgM value)]:List KV)++(Hi kn1 (⟨4,0,[],[],(⟨0,0,0,0,[],(⟨(⟨0,0,0,0⟩:JV),(⟨[],[],[]⟩:Qy)⟩:QL)⟩:JQ)⟩:KV)))=T_ at hp
 obtain ⟨a4,c5,a5,c6,a6,c7,a7,c8,a8,c9,a9,c10,a10,c11,rfl,_,_,_,_,w4,_,_,hs12,_,_,_,hs15,rfl⟩:=hp
 refine Jb [0,0,0,0] [(79,(Vf T_.1 a4 c5 a5 c6 a6 c7 a7 c8 a8 c9 a9 c10)),(80,Sl a10 ((T_.2.1).length) c11),(81,I T_.2.2)] (Jv 11 #[I 0,Sl none 0 0,I 0,I 0,I 0,Sl none 0 0,Sl none 0 0,Sl none 0 0,Sl none 0 0,I 0,Sl none 0 0] 67 (fun b7=>JX [3,0,0] [(12,Sl a10 ((T_.2.1).length) c11),(13,I T_.2.2)] [[Sg b7 0 (ZW T_.1 a4 c5 a5 c6 a6 c7 a7 c8 a8 c9 a9 c10)],[],[],[],[],[],[]] (Je (Jc (Jf ?_)))))
 obtain ⟨hA,hP,m_,hM⟩:=Jqg (e:=every) (n:=ticks) (v:=value) (k:=kn1) J5 J5 J5 J5 ‹_› hK_O_ hK_T_
 have k1_:=hA.err;have k2_:=hA.len;have k3_:=hA.own;have k4_:=hA.now;have k6_:=hA.sm;have k5_:=congrArg HE hM;simp only [Hf] at k5_
 refine Jf (Jd (Jb [0,0,0] [(84,Bo (!decide (O_.2=0)))] (Kk (!decide (O_.2=0)) [84] [1,1,0] [0,0,0] (fun bb=>[(87,Bo (bb || (!decide (T_.2.2=0))))]) (Jb [0] [(88,Bo ((!decide (O_.2=0)) || (!decide (T_.2.2=0))))] (Kk ((!decide (O_.2=0)) || (!decide (T_.2.2=0))) [88] [1,1,1,0] [0,0,0,0] (fun bb=>[(92,Bo (bb || (!decide (((O_.1).length:Int)=8))))]) (Jb [0] [(93,Bo (((!decide (O_.2=0)) || (!decide (T_.2.2=0))) || (!decide (((O_.1).length:Int)=8))))] (Kk (((!decide (O_.2=0)) || (!decide (T_.2.2=0))) || (!decide (((O_.1).length:Int)=8))) [93] [1,1,1,1,0] [0,2,0,0,0] (fun bb=>[(98,Bo (bb || (!decide ((((T_.1).owners).length:Int)=1))))]) (Jb [0] [(99,Bo ((((!decide (O_.2=0)) || (!decide (T_.2.2=0))) || (!decide (((O_.1).length:Int)=8))) || (!decide ((((T_.1).owners).length:Int)=1))))] (Kk ((((!decide (O_.2=0)) || (!decide (T_.2.2=0))) || (!decide (((O_.1).length:Int)=8))) || (!decide ((((T_.1).owners).length:Int)=1))) [99] [1,1,1,0] [0,0,0,0] (fun bb=>[(103,Bo (bb || (decide (((T_.2.1).length:Int)=0))))]) (Jb [0] [(104,Bo (((((!decide (O_.2=0)) || (!decide (T_.2.2=0))) || (!decide (((O_.1).length:Int)=8))) || (!decide ((((T_.1).owners).length:Int)=1))) || (decide (((T_.2.1).length:Int)=0))))] (QS [104] (((((!decide (O_.2=0)) || (!decide (T_.2.2=0))) || (!decide (((O_.1).length:Int)=8))) || (!decide ((((T_.1).owners).length:Int)=1))) || (decide (((T_.2.1).length:Int)=0))) (fun h3=>?_) (fun h3=>?_))))))))))))
 refine Jb [1,1,1,1,1,0,0,1,1,1,1,1,1,0] [(118,Bo true)] (Je (Jc (JZ (Jg [0] [(6,Bo false)] (Jo (Jj ?_))))))
 have hf3:(0:Int)=0∧false=true:=by
  (exfalso;omega)
 refine Jp [0] [Bo false] (bpx (JB [] (Ja (Ja (Ja (Ja (Ja (Ja (Ja (Ja (Ja (Ja hl1 hl3) hl5) hl6) hl7) hl8) hl9) hl10) hl11) hl12) hl13) ?_))
 rw [hf3.2]
 try dsimp only
 exact ⟨hf3.1,rfl,rfl⟩
 refine Jb [0] [(105,Sl a10 ((T_.2.1).length) c11)] ?_
 obtain ⟨b8,o1,rfl⟩:=RS.addr hs15 (k:=0) (by omega)
 obtain ⟨x1,hx1⟩:=QW (l:=T_.2.1) (k:=0) (by omega)
 obtain ⟨_,⟨rfl,_,_,_,_⟩,hc1⟩:=RS.get hs15 hx1
 refine JY (b:=b8) (off:=o1) (len:=(T_.2.1).length) (cap:=c11) (ik:=.i64) 106 74 4 0 J5 (Jb [0] [(107,Pt b8 (o1+0*4))] (JR 108 3 (cs:=[I x1.kind,I x1.who,I x1.n,I x1.at_]) 0 (I x1.kind) hc1 (Jb [0,0,0] [(111,Bo (!decide (x1.kind=1)))] (QS [111] (!decide (x1.kind=1)) (fun h4=>?_) (fun h4=>?_)))))
 refine Jb [1,1,1,1,1,1,0] [(118,Bo true)] (Je (Jc (JZ (Jg [0] [(6,Bo false)] (Jo (Jj ?_))))))
 have hf4:(0:Int)=0∧false=true:=by
  (exfalso;rw [hM] at hx1;obtain rfl:=Hp.inj hx1;exact absurd rfl ‹_›)
 refine Jp [0] [Bo false] (bpx (JB [] (Ja (Ja (Ja (Ja (Ja (Ja (Ja (Ja (Ja (Ja hl1 hl3) hl5) hl6) hl7) hl8) hl9) hl10) hl11) hl12) hl13) ?_))
 rw [hf4.2]
 try dsimp only
 exact ⟨hf4.1,rfl,rfl⟩
 refine Jb [0] [(112,Sl (At b8 o1) ((T_.2.1).length) c11)] (JY (b:=b8) (off:=o1) (len:=(T_.2.1).length) (cap:=c11) (ik:=.i64) 113 74 4 0 J5 (Jb [0] [(114,Pt b8 (o1+0*4+3))] (JR 115 2 (cs:=[I x1.kind,I x1.who,I x1.n,I x1.at_]) 3 (I x1.at_) hc1 (Jb [0,0,0] [(118,Bo (!decide (x1.at_=every)))] (Je (Jc (Jm (!decide (x1.at_=every)) (fun h5=>?_) (fun h5=>?_))))))))
 refine Jg [0] [(6,Bo false)] (Jo (Jj ?_))
 have hf5:(0:Int)=0∧false=true:=by
  (exfalso;rw [hM] at hx1;obtain rfl:=Hp.inj hx1;exact absurd rfl ‹_›)
 refine Jp [0] [Bo false] (bpx (JB [] (Ja (Ja (Ja (Ja (Ja (Ja (Ja (Ja (Ja (Ja hl1 hl3) hl5) hl6) hl7) hl8) hl9) hl10) hl11) hl12) hl13) ?_))
 rw [hf5.2]
 try dsimp only
 exact ⟨hf5.1,rfl,rfl⟩
 refine Jq (Jc (Jg [0] [(14,Sr ([101,114,114,32,52]))] ?_))
 refine Ym (σ:=Bb×J4) (fun q_=>(J4.le G13 q_.2)∧(q_.1=if 1<T_.1.clerk.heads.length then [111,107,32,43,32]++value else [101,114,114,32,52])) (fun q_=>[(7,Fv 18 #[]),(8,Sl a1 ((O_.1).length) c2),(11,Pt b7 0),(14,Sr q_.1)]) (fun q_=>q_.2) (fun q_=>[[Sg b7 0 (ZW T_.1 a4 c5 a5 c6 a6 c7 a7 c8 a8 c9 a9 c10)],[],[],[],[],[],[]]) ?_ (fun q_ hs=>?_)
 refine Jg [0,0,2,0,0] [(123,Bo (decide ((((T_.1).clerk.heads).length:Int) > 1)))] (Jm (decide ((((T_.1).clerk.heads).length:Int) > 1)) (fun h6=>?_) (fun h6=>?_))
 exact Jd (Jb [0] [(124,Sr value)] (Wi 125 ([111,107,32,43,32]) value (by have q1_:=QP every (by omega);have q2_:=QP ticks (by omega);simp;omega) (Jb [0] [(14,Sr (([111,107,32,43,32])++value))] (Je (Q3 (([111,107,32,43,32])++value,G13) ⟨(Jh _),(by (try dsimp only);rw [if_pos (by omega)])⟩)))))
 exact Jq (Q3 ([101,114,114,32,52],G13) ⟨(Jh _),(by (try dsimp only);rw [if_neg (by omega)])⟩)
 obtain ⟨lk,g⟩:=q_
 obtain ⟨hle,hlk⟩:=hs
 dsimp only at hle hlk
 dsimp only
 obtain ⟨b9,o2,rfl⟩:=RS.addr (hs12.mono hle) (k:=0) (by omega)
 obtain ⟨x2,hx2⟩:=QW (l:=(T_.1).owners) (k:=0) (by omega)
 obtain ⟨_,⟨a11,c12,rfl,_,_,w12,_,_,_,_,w16⟩,hc2⟩:=RS.get (hs12.mono hle) hx2
 obtain ⟨j1_,j2_,j3_⟩:=hA.l5 x2 hx2
 obtain ⟨b10,o3,rfl⟩:=RS.addr (hs3.mono (Ja (Ja (Ja (Ja (Ja (Ja (Ja hl7 hl8) hl9) hl10) hl11) hl12) hl13) hle)) (k:=4) (by omega)
 obtain ⟨x3,hx3⟩:=QW (l:=O_.1) (k:=4) (by omega)
 obtain ⟨_,⟨rfl,_⟩,hc3⟩:=RS.get (hs3.mono (Ja (Ja (Ja (Ja (Ja (Ja (Ja hl7 hl8) hl9) hl10) hl11) hl12) hl13) hle)) hx3
 have g4_:=Hp.inj (hx3.symm.trans hA.l4)
 have h7:(x3 == ((((([111,107,32])++(Qp ((T_.1).clerk.now)))++([32]))++(Qp (((T_.1).clerk.heads).length:Int)))++([32]))++(Qp (((T_.1).clerk.queue.wait).length:Int)))=true:=by rw [g4_];exact beq_self_eq_true _
 obtain ⟨x4,hx4⟩:=QW (l:=O_.1) (k:=5) (by omega)
 obtain ⟨_,⟨rfl,_⟩,hc4⟩:=RS.get (hs3.mono (Ja (Ja (Ja (Ja (Ja (Ja (Ja hl7 hl8) hl9) hl10) hl11) hl12) hl13) hle)) hx4
 have g5_:=Hp.inj (hx4.symm.trans j3_)
 have h8:(x4 == ((([111,107,32])++(Qp x2.head.epoch))++([32]))++(Qp x2.had))=true:=by rw [g5_];exact beq_self_eq_true _
 obtain ⟨x5,hx5⟩:=QW (l:=O_.1) (k:=6) (by omega)
 obtain ⟨_,⟨rfl,_⟩,hc5⟩:=RS.get (hs3.mono (Ja (Ja (Ja (Ja (Ja (Ja (Ja hl7 hl8) hl9) hl10) hl11) hl12) hl13) hle)) hx5
 have g6_:=Hp.inj (hx5.symm.trans hA.l6)
 have d1_:=QP T_.1.clerk.now (by omega);have d2_:=QP T_.1.clerk.heads.length (by omega);have d3_:=QP T_.1.clerk.queue.wait.length (by omega);have d4_:=QP x2.head.epoch (by omega);have d5_:=QP x2.had (by omega)
 refine Jf (Kt [] (Wz [(0,Sl (At b10 o3) ((O_.1).length) c2),(1,Pt b10 (o3+4*1)),(2,Sr x3),(3,Fv 18 #[]),(4,Pt b7 0),(5,Pt b7 4),(6,I ((T_.1).clerk.now)),(7,Sr (Qp ((T_.1).clerk.now))),(8,Sr (([111,107,32])++(Qp ((T_.1).clerk.now)))),(9,Sr ((([111,107,32])++(Qp ((T_.1).clerk.now)))++([32]))),(10,Fv 18 #[]),(11,Pt b7 0),(12,Pt b7 5),(13,Sl a5 (((T_.1).clerk.heads).length) c6),(14,I (((T_.1).clerk.heads).length:Int)),(15,Sr (Qp (((T_.1).clerk.heads).length:Int))),(16,Sr (((([111,107,32])++(Qp ((T_.1).clerk.now)))++([32]))++(Qp (((T_.1).clerk.heads).length:Int)))),(17,Sr ((((([111,107,32])++(Qp ((T_.1).clerk.now)))++([32]))++(Qp (((T_.1).clerk.heads).length:Int)))++([32]))),(18,Fv 18 #[]),(19,Pt b7 0),(20,Pt b7 0),(21,Pt b7 1),(22,Sl a4 (((T_.1).clerk.queue.wait).length) c5),(23,I (((T_.1).clerk.queue.wait).length:Int)),(24,Sr (Qp (((T_.1).clerk.queue.wait).length:Int))),(25,Sr (((((([111,107,32])++(Qp ((T_.1).clerk.now)))++([32]))++(Qp (((T_.1).clerk.heads).length:Int)))++([32]))++(Qp (((T_.1).clerk.queue.wait).length:Int)))),(26,Bo true),(27,Bo true),(28,Sl (At b10 o3) ((O_.1).length) c2),(29,Pt b10 (o3+5*1)),(30,Sr x4),(31,Fv 18 #[]),(32,Pt b7 7),(33,Sl (At b9 o2) (((T_.1).owners).length) c8),(34,Pt b9 (o2+0*8)),(35,Pt b9 (o2+0*8+2)),(36,Pt b9 (o2+0*8+2)),(37,I x2.head.epoch),(38,Sr (Qp x2.head.epoch)),(39,Sr (([111,107,32])++(Qp x2.head.epoch))),(40,Sr ((([111,107,32])++(Qp x2.head.epoch))++([32]))),(41,Fv 18 #[]),(42,Pt b7 7),(43,Sl (At b9 o2) (((T_.1).owners).length) c8),(44,Pt b9 (o2+0*8)),(45,Pt b9 (o2+0*8+7)),(46,I x2.had),(47,Sr (Qp x2.had)),(48,Sr (((([111,107,32])++(Qp x2.head.epoch))++([32]))++(Qp x2.had))),(49,Bo true),(50,Bo true),(51,Bo true),(52,Sl (At b10 o3) ((O_.1).length) c2),(53,Pt b10 (o3+6*1)),(54,Sr x5),(55,Sr lk),(56,Bo ((B x5).toList == (B lk).toList)),(57,Bo ((B x5).toList == (B lk).toList)),(58,Bo ((B x5).toList == (B lk).toList))] (Kq [] [(0,0),(3,0),(4,0),(5,0),(6,2),(10,0),(11,0),(12,0),(13,2),(14,0),(18,0),(19,0),(20,0),(21,0),(22,2),(23,0),(27,0),(28,0),(31,0),(32,0),(33,2),(35,0),(36,0),(41,0),(42,0),(43,2),(45,0),(50,0),(51,0),(52,0),(55,0),(56,0),(57,0),(58,0)] [1,2,7,8,9,15,16,17,24,25,26,29,30,34,37,38,39,40,44,46,47,48,49,53,54] [(6,Bo ((B x5).toList == (B lk).toList))] (Kb ?_ (Kb ?_ (Kb ?_ (Kb ?_ (Kb ?_ (Kb ?_ (Kb ?_ (Kb ?_ (Kb ?_ (Kb ?_ (Kb ?_ (Kb ?_ (Kb ?_ (Kb ?_ (Kb ?_ (Kb ?_ (Kb ?_ (Kb ?_ (Kb ?_ (Kb ?_ (Kb ?_ (Kb ?_ (Kb ?_ (Kb ?_ (Kb ?_ K4))))))))))))))))))))))))) ?_)))
 refine Jr 1 127 (Pt b10 (o3+4*1)) [(126,Sl (At b10 o3) ((O_.1).length) c2)] (fun X=>?_)
 exact JY (b:=b10) (off:=o3) (len:=(O_.1).length) (cap:=c2) (ik:=.i64) 127 9 1 4 J5 Jn
 refine Jr 2 128 (Sr x3) [(127,Pt b10 (o3+4*1))] (fun X=>?_)
 exact JR 128 9 (cs:=[Sr x3]) 0 (Sr x3) hc3 Jn
 refine Jr 7 133 (Sr (Qp ((T_.1).clerk.now))) [(129,Fv 18 #[]),(132,I ((T_.1).clerk.now))] (fun X=>?_)
 exact Jl 133 (Sr (Qp ((T_.1).clerk.now))) (JaW g ((T_.1).clerk.now) w4 J5) Jn
 refine Jr 8 134 (Sr (([111,107,32])++(Qp ((T_.1).clerk.now)))) [(133,Sr (Qp ((T_.1).clerk.now)))] (fun X=>?_)
 exact Wi 134 ([111,107,32]) (Qp ((T_.1).clerk.now)) (by have q1_:=QP every (by omega);have q2_:=QP ticks (by omega);simp;omega) Jn
 refine Jr 9 135 (Sr ((([111,107,32])++(Qp ((T_.1).clerk.now)))++([32]))) [(134,Sr (([111,107,32])++(Qp ((T_.1).clerk.now))))] (fun X=>?_)
 exact Wi 135 (([111,107,32])++(Qp ((T_.1).clerk.now))) ([32]) (by have q1_:=QP every (by omega);have q2_:=QP ticks (by omega);simp;omega) Jn
 refine Jr 15 141 (Sr (Qp (((T_.1).clerk.heads).length:Int))) [(136,Fv 18 #[]),(140,I (((T_.1).clerk.heads).length:Int))] (fun X=>?_)
 exact Jl 141 (Sr (Qp (((T_.1).clerk.heads).length:Int))) (JaW g (((T_.1).clerk.heads).length:Int) J5 J5) Jn
 refine Jr 16 142 (Sr (((([111,107,32])++(Qp ((T_.1).clerk.now)))++([32]))++(Qp (((T_.1).clerk.heads).length:Int)))) [(135,Sr ((([111,107,32])++(Qp ((T_.1).clerk.now)))++([32]))),(141,Sr (Qp (((T_.1).clerk.heads).length:Int)))] (fun X=>?_)
 exact Wi 142 ((([111,107,32])++(Qp ((T_.1).clerk.now)))++([32])) (Qp (((T_.1).clerk.heads).length:Int)) (by have q1_:=QP every (by omega);have q2_:=QP ticks (by omega);simp;omega) Jn
 refine Jr 17 143 (Sr ((((([111,107,32])++(Qp ((T_.1).clerk.now)))++([32]))++(Qp (((T_.1).clerk.heads).length:Int)))++([32]))) [(142,Sr (((([111,107,32])++(Qp ((T_.1).clerk.now)))++([32]))++(Qp (((T_.1).clerk.heads).length:Int))))] (fun X=>?_)
 exact Wi 143 (((([111,107,32])++(Qp ((T_.1).clerk.now)))++([32]))++(Qp (((T_.1).clerk.heads).length:Int))) ([32]) (by have q1_:=QP every (by omega);have q2_:=QP ticks (by omega);simp;omega) Jn
 refine Jr 24 150 (Sr (Qp (((T_.1).clerk.queue.wait).length:Int))) [(144,Fv 18 #[]),(149,I (((T_.1).clerk.queue.wait).length:Int))] (fun X=>?_)
 exact Jl 150 (Sr (Qp (((T_.1).clerk.queue.wait).length:Int))) (JaW g (((T_.1).clerk.queue.wait).length:Int) J5 J5) Jn
 refine Jr 25 151 (Sr (((((([111,107,32])++(Qp ((T_.1).clerk.now)))++([32]))++(Qp (((T_.1).clerk.heads).length:Int)))++([32]))++(Qp (((T_.1).clerk.queue.wait).length:Int)))) [(143,Sr ((((([111,107,32])++(Qp ((T_.1).clerk.now)))++([32]))++(Qp (((T_.1).clerk.heads).length:Int)))++([32]))),(150,Sr (Qp (((T_.1).clerk.queue.wait).length:Int)))] (fun X=>?_)
 exact Wi 151 ((((([111,107,32])++(Qp ((T_.1).clerk.now)))++([32]))++(Qp (((T_.1).clerk.heads).length:Int)))++([32])) (Qp (((T_.1).clerk.queue.wait).length:Int)) (by have q1_:=QP every (by omega);have q2_:=QP ticks (by omega);simp;omega) Jn
 refine Jr 26 152 (Bo true) [(128,Sr x3),(151,Sr (((((([111,107,32])++(Qp ((T_.1).clerk.now)))++([32]))++(Qp (((T_.1).clerk.heads).length:Int)))++([32]))++(Qp (((T_.1).clerk.queue.wait).length:Int))))] (fun X=>?_)
 exact Qc 152 (Bo ((B x3).toList == (B (((((([111,107,32])++(Qp ((T_.1).clerk.now)))++([32]))++(Qp (((T_.1).clerk.heads).length:Int)))++([32]))++(Qp (((T_.1).clerk.queue.wait).length:Int)))).toList)) (Bo true) (by simp only [QT];rw [h7]) Jn
 refine Jr 29 155 (Pt b10 (o3+5*1)) [(153,Bo true),(154,Sl (At b10 o3) ((O_.1).length) c2)] (fun X=>?_)
 exact JY (b:=b10) (off:=o3) (len:=(O_.1).length) (cap:=c2) (ik:=.i64) 155 9 1 5 J5 Jn
 refine Jr 30 156 (Sr x4) [(153,Bo true),(155,Pt b10 (o3+5*1))] (fun X=>?_)
 exact JR 156 9 (cs:=[Sr x4]) 0 (Sr x4) hc4 Jn
 refine Jr 34 160 (Pt b9 (o2+0*8)) [(153,Bo true),(159,Sl (At b9 o2) (((T_.1).owners).length) c8)] (fun X=>?_)
 exact JY (b:=b9) (off:=o2) (len:=((T_.1).owners).length) (cap:=c8) (ik:=.i64) 160 76 8 0 J5 Jn
 refine Jr 37 163 (I x2.head.epoch) [(153,Bo true),(162,Pt b9 (o2+0*8+2))] (fun X=>?_)
 exact JR 163 2 (cs:=(KT x2 a11 c12)) 2 (I x2.head.epoch) hc2 Jn
 refine Jr 38 164 (Sr (Qp x2.head.epoch)) [(153,Bo true),(157,Fv 18 #[]),(163,I x2.head.epoch)] (fun X=>?_)
 exact Jl 164 (Sr (Qp x2.head.epoch)) (JaW g x2.head.epoch w12 ‹_›) Jn
 refine Jr 39 165 (Sr (([111,107,32])++(Qp x2.head.epoch))) [(153,Bo true),(164,Sr (Qp x2.head.epoch))] (fun X=>?_)
 exact Wi 165 ([111,107,32]) (Qp x2.head.epoch) (by have q1_:=QP every (by omega);have q2_:=QP ticks (by omega);simp;omega) Jn
 refine Jr 40 166 (Sr ((([111,107,32])++(Qp x2.head.epoch))++([32]))) [(153,Bo true),(165,Sr (([111,107,32])++(Qp x2.head.epoch)))] (fun X=>?_)
 exact Wi 166 (([111,107,32])++(Qp x2.head.epoch)) ([32]) (by have q1_:=QP every (by omega);have q2_:=QP ticks (by omega);simp;omega) Jn
 refine Jr 44 170 (Pt b9 (o2+0*8)) [(153,Bo true),(169,Sl (At b9 o2) (((T_.1).owners).length) c8)] (fun X=>?_)
 exact JY (b:=b9) (off:=o2) (len:=((T_.1).owners).length) (cap:=c8) (ik:=.i64) 170 76 8 0 J5 Jn
 refine Jr 46 172 (I x2.had) [(153,Bo true),(171,Pt b9 (o2+0*8+7))] (fun X=>?_)
 exact JR 172 3 (cs:=(KT x2 a11 c12)) 7 (I x2.had) hc2 Jn
 refine Jr 47 173 (Sr (Qp x2.had)) [(153,Bo true),(167,Fv 18 #[]),(172,I x2.had)] (fun X=>?_)
 exact Jl 173 (Sr (Qp x2.had)) (JaW g x2.had w16 ‹_›) Jn
 refine Jr 48 174 (Sr (((([111,107,32])++(Qp x2.head.epoch))++([32]))++(Qp x2.had))) [(153,Bo true),(166,Sr ((([111,107,32])++(Qp x2.head.epoch))++([32]))),(173,Sr (Qp x2.had))] (fun X=>?_)
 exact Wi 174 ((([111,107,32])++(Qp x2.head.epoch))++([32])) (Qp x2.had) (by have q1_:=QP every (by omega);have q2_:=QP ticks (by omega);simp;omega) Jn
 refine Jr 49 175 (Bo true) [(153,Bo true),(156,Sr x4),(174,Sr (((([111,107,32])++(Qp x2.head.epoch))++([32]))++(Qp x2.had)))] (fun X=>?_)
 exact Qc 175 (Bo ((B x4).toList == (B (((([111,107,32])++(Qp x2.head.epoch))++([32]))++(Qp x2.had))).toList)) (Bo true) (by simp only [QT];rw [h8]) Jn
 refine Jr 53 179 (Pt b10 (o3+6*1)) [(177,Bo true),(178,Sl (At b10 o3) ((O_.1).length) c2)] (fun X=>?_)
 exact JY (b:=b10) (off:=o3) (len:=(O_.1).length) (cap:=c2) (ik:=.i64) 179 9 1 6 J5 Jn
 refine Jr 54 180 (Sr x5) [(177,Bo true),(179,Pt b10 (o3+6*1))] (fun X=>?_)
 exact JR 180 9 (cs:=[Sr x5]) 0 (Sr x5) hc5 Jn
 refine Jc6 6 (Bo (x5 == lk)) (show (Bo ((B x5).toList == (B lk).toList):Value)=Bo (x5 == lk) by simp only [QT]) (Jc (Jo ?_))
 have hf6:(0:Int)=0∧(x5 == lk)=true:=by
  exact ⟨rfl,by rw [g6_,hlk];exact beq_self_eq_true _⟩
 refine Jp [0] [Bo (x5 == lk)] (bpx (JB [] (Ja (Ja (Ja (Ja (Ja (Ja (Ja (Ja (Ja (Ja (Ja hl1 hl3) hl5) hl6) hl7) hl8) hl9) hl10) hl11) hl12) hl13) hle) ?_))
 rw [hf6.2]
 try dsimp only
 exact ⟨hf6.1,rfl,rfl⟩
open Go.ChangeShapes Go.WideShapes Go.ChangeAt Go.RowKit
theorem Jc2 {P:Program} {W:World} {n nm:String} {d:DataW Unit} {r:List (String×DataW Unit)} {g:Nat} {ti:TypeId} {ms:Array (String×TypeId)} (h:laidMet P ((n,.iface nm d)::r) W)
  (hg:P.globalNamed n=some g) (ht:(P.globals[g]?).map (·.type)=some ti) (hi:P.underlying ti=some (.interface ms)):Ji6 P W n:=by
 obtain ⟨ps,⟨g0,t0,cs0,f0,p0,q0,hg0,ht0,hv0,hd0,_,e0⟩,_,_⟩:=h
 obtain rfl:=Hp.inj (hg.symm.trans hg0)
 obtain rfl:=Hp.inj (ht.symm.trans ht0)
 obtain ⟨f1,u,v,hc,hn,h1⟩:=iface_of_trod hi hd0
 refine ⟨g,.iface u v,hg,?_,.inr ⟨u,v,rfl⟩⟩
 have:=World.var?_cell hg0 hv0 0
 rw [← Array.getElem?_toList,hc] at this
 simpa using this
section
variable {P:Program} {G:J4}
theorem JlF {P:Program} {f:FuncId} {args:Array Value} {W:World} (hT:TW P W) (hc:JaG P f args (JbV W) [] (fun u _ _=>u=Bo true) (fun _ _ _=>False)) :
  Calls P f args W fun e W'=>e=.returned (.bool true)∧Below W.heap.size W W':=by
 refine (hc W (JbV W) W hT (St.start fun b o v h=>h)).mono ?_
 rintro e W' ⟨v,G',L',hS,_,⟨rfl,rfl⟩ | ⟨_,h⟩⟩
 · exact ⟨rfl,hS.below⟩
 · exact h.elim
theorem Jhi {H:Type} {enc:TypeId×Value→H} {f:Func} {k:FuncId} {s:ChangeSpec} {t:TypeId} {fresh handsOn again:Bool} (N:Nat) (hlo:laidOutB P=true)
  (hr:Ji8 P f.params.toList=true) (hv:s.vars=[])
  (ho:∀ ds:List (DataW H),ds.length=f.params.toList.length→s.fn H ds={ results:=[.lit (.bool true)],args:=ds }) (ht:f.resultTypes=#[t]) (hu:P.underlying t=some .bool)
  (W:World) (base:Nat) (args:Array Value) (ds gs:List (DataW H)) (before:List MemPlace)
  (hval:∀ (j:Nat) t v,f.params[j]? = some t→args[j]? = some v→Value.okWide P W .any base t v)
  (hW:DataW.Whole enc P f.params.toList s.vars false W args.toList ds gs before)
  (hcon:∀ n,n≤N→RdA P (JbV W) f.params.toList args.toList n→Calls P k args W fun e W'=>e=.returned (.bool true)∧Below W.heap.size W W')
  (hN:Rows.uptoBulkAll (ds++gs)≤N)
  (hsz:(DataW.weightsEach P (f.params.toList++s.plain.varTypes P) (ds++gs)).all (·≤reachBytes)=true) :
  Calls P k args W fun e W'=>∃ v,e=.returned v∧s.post enc P f false fresh handsOn again W args v W':=by
 have hW':=hW
 obtain ⟨p,q,hA,hV,rfl,hfz,hnd⟩:=hW
 rw [hv] at hV
 obtain ⟨rfl,rfl⟩:=trodVars_none hV
 have hvt:s.plain.varTypes P=[]:=by simp [DataSpec.varTypes,ChangeSpec.plain,hv]
 rw [hvt,HK,HK] at hsz
 rw [HK] at hN
 have hlen:∀ (ts:List TypeId) (vs:Bv) (ds:List (DataW H)) (ps:List MemPlace),DataW.TrodAll enc P W 0 (fun _=>true) true ts vs ds ps→ds.length=ts.length:=by
  intro ts
  induction ts with
  | nil=>intro vs ds ps h;have:=(trodAll_nil h).2.1;subst this;rfl
  | cons t ts ih =>
   intro vs ds ps h
   obtain ⟨v,vs',d,ds',p,q,rfl,rfl,rfl,h1,h2⟩:=trodAll_cons h
   simp [ih _ _ _ h2]
 have hR:=JoA (base:=base) _ _ _ _ hA (JoB hval) (all_le hsz)
 refine (hcon _ hN hR).mono ?_
 rintro e W' ⟨rfl,hb⟩
 exact ⟨_,rfl,Joy hlo hr hv hW' (ho ds (hlen _ _ _ _ hA)) ht hu hb⟩
end
end Go.Proofs.YteaampgpgokjmaaGreatDoor
