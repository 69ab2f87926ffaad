import Derived.Test.YtmpakffajpnffaaGreatDoorCfChLook
namespace Go.Proofs.YtmpakffajpnffaaGreatDoor
open Go.Tx
set_option linter.unusedVariables false
set_option linter.unusedSimpArgs false
open Go.Tx Go.Proofs Go.Shelf
theorem look_n {a b : List EntD} (ha : a.length ≤ 24) (hb : b.length ≤ 24) : 1 ≤ (lookD a b 16 []).1 ∧ ((lookD a b 16 []).1 = 1 ↔ sameAt a b []) := by
  refine ⟨(lookD_bd ha hb 16 []).1, ?_, fun h => by rw [lookD_same h]⟩
  intro h
  apply Classical.byContradiction; intro hc
  rw [lookD_fork (by decide) hc] at h
  have h1 := (lookD_bd ha hb (16 - 1) ([] ++ [48])).1
  have h2 := (lookD_bd ha hb (16 - 1) ([] ++ [49])).1
  simp only at h
  omega
theorem changes_law : (chLook [] []).2.2 = 0 ∧ (chLook [] []).2.1 = 1 := by
  have h : chCheck [] [] = 0 := by decide +kernel
  unfold chLook
  rw [if_neg (by rw [Decidable.not_not]; exact h)]
  exact ⟨rfl, (look_n (Nat.zero_le _) (Nat.zero_le _)).2.2 rfl⟩
theorem look_len (a b : List EntD) : (chLook a b).1.length ≤ 3200000 := by
  unfold chLook
  split
  · simp
  · rename_i h
    obtain ⟨ha, hb⟩ := chCheck_ok (Decidable.not_not.1 h)
    have := (lookD_bd ha.len hb.len 16 []).2.2
    rw [show P2 16 = 65536 from by decide] at this
    exact Nat.le_trans this (by decide)
theorem chLook_con (G : Mem) (a_a : Option Addr) (c_a : Nat) (a : List EntD) (h_a : RS EEnt G a_a c_a a) (a_b : Option Addr) (c_b : Nat) (b : List EntD) (h_b : RS EEnt G a_b c_b b)  : Con Tryz.prog 32 #[Sl a_a a.length c_a, Sl a_b b.length c_b] G [] (fun u G' L' => ∃ (a1 : Option Addr) (c2 : Nat), u = .tuple #[Sl a1 (((chLook a b).1).length) c2, I ((chLook a b).2.1), I ((chLook a b).2.2)] ∧ (RS ES G' a1 c2 ((chLook a b).1)) ∧ L' = []) := by
 refine con_of Tryz.func32 22 [(0, Sl a_a a.length c_a), (1, Sl a_b b.length c_b)] rfl (fun w0 G0 => ?_)
 refine tc_seq (tc_region ?_)
 refine runL_box 2 #[Sl a_a a.length c_a] 33 (fun b1 => ?_)
 refine runL_box 3 #[Sl a_b b.length c_b] 33 (fun b2 => ?_)
 refine runL_b [0,0,0] [(2, Pt b1 0), (3, Pt b2 0)] (runL_nil (tq_then (tc_seq (tc_seq (tc_region ?_)))))
 refine runL_b [4,2] [(2, Pt b1 0), (3, Pt b2 0), (11, Sl a_a a.length c_a), (12, Sl a_b b.length c_b)] ?_
 refine runL_callV 13 (I (chCheck a b)) (chCheck_con G a_a c_a a h_a a_b c_b b h_b) ?_
 refine runL_b [0] [(2, Pt b1 0), (3, Pt b2 0), (7, I (chCheck a b))] (runL_nil (tq_then ?_))
 refine tc_rb [0,0] [(2, Pt b1 0), (3, Pt b2 0), (7, I (chCheck a b)), (15, Bo (!decide (chCheck a b = 0)))] ?_
 refine tc_cond (!decide (chCheck a b = 0)) (fun h1 => ?_) (fun h1 => ?_)
 ·
  try simp only [BB] at h1
  refine tc_rb [0,0,0,0] [(4, Sl none 0 0), (5, I 0), (6, I (chCheck a b))] (tc_ret (tq_then_ret ?_))
  have hf1 : chLook a b = ([], 0, chCheck a b) := by
   unfold chLook; first | (rw [if_pos (by assumption)]; done) | (rw [if_neg (by simp_all)]; simp; done)
  refine tq_ret [0, 0, 0] [Sl none 0 0, I 0, I (chCheck a b)] (bp_rows [] (.cons _ (.cons _ .slnil)) (Mem.le_refl _) ?_)
  rw [hf1]
  try dsimp only
  exact ⟨none, 0, rfl, (RS.nil' ES G), rfl⟩
 ·
  try simp only [BB] at h1
  refine tc_skip (tq_then (tc_seq (tc_region ?_)))
  refine runL_box 8 #[Sl none 0 0] 70 (fun b3 => ?_)
  refine runL_nil (tq_then (tc_seq (tc_region ?_)))
  refine runL_box 9 #[I 0] 3 (fun b4 => ?_)
  refine runL_b [3] [(2, Pt b1 0), (3, Pt b2 0), (8, Pt b3 0), (9, Pt b4 0)] (runL_nil (tq_then (tc_seq (tc_region ?_))))
  refine runL_box 10 #[.nilFunc] 132 (fun b5 => ?_)
  refine runL_nil (tq_then ?_)
  refine tc_rbs [0,3] [(8, Pt b3 0), (9, Pt b4 0), (10, Pt b5 0)] [[Sg b5 0 [.func (.func 72) #[] #[Pt b4 0, Pt b1 0, Pt b2 0, Pt b3 0, Pt b5 0]]], [Sg b4 0 [I 0]], [Sg b3 0 [Sl none 0 0]], [Sg b2 0 [Sl a_b b.length c_b]], [Sg b1 0 [Sl a_a a.length c_a]]] ?_
  refine tc_seq (tc_region ?_)
  refine runL_b [2] [(8, Pt b3 0), (9, Pt b4 0), (18, .func (.func 72) #[] #[Pt b4 0, Pt b1 0, Pt b2 0, Pt b3 0, Pt b5 0])] ?_
  refine runL_empty ?_
  refine runL_frz1 (b := b1) (o := 0) (cs := [Sl a_a a.length c_a]) 5 (fun G1 hl1 hz1 => ?_)
  refine runL_frz1 (b := b2) (o := 0) (cs := [Sl a_b b.length c_b]) 4 (fun G2 hl2 hz2 => ?_)
  refine runL_frz1 (b := b5) (o := 0) (cs := [.func (.func 72) #[] #[Pt b4 0, Pt b1 0, Pt b2 0, Pt b3 0, Pt b5 0]]) 1 (fun G3 hl3 hz3 => ?_)
  refine runL_front 0 ?_
  refine runL_front 3 ?_
  refine runL_front 3 ?_
  refine runL_callL (Ls := [[Sg b4 0 [I 0]], [Sg b3 0 [Sl none 0 0]], []]) (Lr := [[], [], []]) 19 (look_con 16 G3 b4 b1 b2 b3 b5 a b a_a c_a a_b c_b (h_a.mono (Mem.le_trans (Mem.le_trans hl1 hl2) hl3)) (h_b.mono (Mem.le_trans (Mem.le_trans hl1 hl2) hl3)) (fun j v hv => (Mem.le_trans hl2 hl3) _ _ _ (hz1 j v hv)) (fun j v hv => hl3 _ _ _ (hz2 j v hv)) hz3 (chCheck_ok (a := a) (b := b) (by assumption)).1.len (chCheck_ok (a := a) (b := b) (by assumption)).2.len ([]) rfl 0 (by decide) none 0 ([] : List (List UInt8)) [] (TRow.none ES _) (by decide)) (fun v G4 L1 hl4 hp => ?_)
  obtain ⟨a1, c1, r1, rfl, hr1, rfl⟩ := hp
  refine runL_nil (tq_then (tc_seq ?_))
  refine tc_draw [] ?_
  refine dr_V [(0, Sl a1 ((([] : List (List UInt8)) ++ (lookD a b 16 ([])).2).length) c1), (1, I (0 + (lookD a b 16 ([])).1)), (2, Sl a1 ((([] : List (List UInt8)) ++ (lookD a b 16 ([])).2).length) c1), (3, I (0 + (lookD a b 16 ([])).1)), (4, I 0)] ?_
  refine dr_end [] [(0,4), (1,2), (2,0), (3,0), (4,0)] [] [(4, Sl a1 ((([] : List (List UInt8)) ++ (lookD a b 16 ([])).2).length) c1), (5, I (0 + (lookD a b 16 ([])).1)), (6, I 0)] (List.forall_mem_nil _) ?_
  refine tq_then (tc_ret ?_)
  refine tq_frzR (E := ES) 2 hr1 (by have q_ := chCheck_ok (a := a) (b := b) (by assumption); have q1_ := (lookD_bd q_.1.len q_.2.len 16 []).2.2; rw [show P2 16 = 65536 from by decide] at q1_; simp only [ES, List.length_append, List.length_nil]; omega) (fun G5 hl5 hs1 => ?_)
  have hf2 : chLook a b = ((([] : List (List UInt8)) ++ (lookD a b 16 ([])).2), 0 + (lookD a b 16 ([])).1, 0) := by
   unfold chLook; first | (rw [if_pos (by assumption)]; done) | (rw [if_neg (by simp_all)]; simp; done)
  refine tq_ret [0, 0, 0] [Sl a1 ((([] : List (List UInt8)) ++ (lookD a b 16 ([])).2).length) c1, I (0 + (lookD a b 16 ([])).1), I 0] (bp_rows [] (.cons _ (.cons _ (.cons _ (.cons _ (.cons _ (.cons _ .slnil)))))) (Mem.le_trans (Mem.le_trans (Mem.le_trans (Mem.le_trans hl1 hl2) hl3) hl4) hl5) ?_)
  rw [hf2]
  try dsimp only
  exact ⟨a1, c1, rfl, hs1, rfl⟩
theorem changes_con (G : Mem)   : Con Tryz.prog 29 #[] G [] (fun u G' L' => u = Bo true) := by
 refine con_of Tryz.func29 15 [] rfl (fun w0 G0 => ?_)
 refine tc_rb [0] [] (tc_seq (tc_region ?_))
 refine runL_callR 5 (chLook_con G none 0 ([]) (RS.nil' EEnt G) none 0 ([]) (RS.nil' EEnt G)) (fun v G1 L1 hl1 hp => ?_)
 obtain ⟨a1, c1, rfl, hs1, rfl⟩ := hp
 refine runL_b [0,0,0,0,0,0,0] [(2, I ((chLook ([]) ([])).2.1)), (3, I ((chLook ([]) ([])).2.2))] (runL_nil (tq_then (tc_seq (tc_region ?_))))
 refine runL_b [0,0,0] [(2, I ((chLook ([]) ([])).2.1)), (11, Bo (decide ((chLook ([]) ([])).2.2 = 0)))] ?_
 refine runL_b2 (decide ((chLook ([]) ([])).2.2 = 0)) (fun bb => [(2, I ((chLook ([]) ([])).2.1)), (11, Bo bb)]) [0,0,0] [1,1,0] (fun bb => [(14, Bo (bb && (decide ((chLook ([]) ([])).2.1 = 1))))]) ?_
 refine runL_b [0] [(0, Bo ((decide ((chLook ([]) ([])).2.2 = 0)) && (decide ((chLook ([]) ([])).2.1 = 1))))] (runL_nil (tq_then (tc_ret ?_)))
 refine tq_ret [0] [Bo ((decide ((chLook ([]) ([])).2.2 = 0)) && (decide ((chLook ([]) ([])).2.1 = 1)))] (bp_ret hl1 ?_)
 have hf_ : ((decide ((chLook ([]) ([])).2.2 = 0)) && (decide ((chLook ([]) ([])).2.1 = 1))) = true := by
  have q_ := changes_law; rw [q_.1, q_.2]; rfl
 exact congrArg Bo hf_
end Go.Proofs.YtmpakffajpnffaaGreatDoor
