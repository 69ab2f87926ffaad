import Derived.Test.YtpofnmobbbcpgaaGreatDoorZaWire
namespace Go.Proofs.YtpofnmobbbcpgaaGreatDoor
open Go.Tx
set_option linter.unusedVariables false
set_option linter.unusedSimpArgs false
def headZ : HeadD := ⟨0, 0, 0, 0⟩
def headCheck (h : HeadD) : Int :=
  if h.epoch < 0 ∨ 1000000 < h.epoch ∨ 2305843009213693951 ≤ h.root ∨ 2305843009213693951 ≤ h.prev ∨ h.at_ < 0 ∨ 1000000000 < h.at_ then 4 else if h.epoch = 0 ∧ h.prev ≠ 0 then 3 else 0
theorem headCheck_ok {h : HeadD} (e : headCheck h = 0) : 0 ≤ h.epoch ∧ h.epoch ≤ 1000000 ∧ h.root < 2305843009213693951 ∧ h.prev < 2305843009213693951 ∧ 0 ≤ h.at_ ∧ h.at_ ≤ 1000000000 ∧ (h.epoch = 0 → h.prev = 0) := by
  unfold headCheck at e; split at e
  · cases e
  split at e
  · cases e
  omega
def headText (h : HeadD) : List UInt8 := ((([3] ++ numB (IntKind.u64.wrap h.epoch)) ++ numB h.root) ++ numB h.prev) ++ numB (IntKind.u64.wrap h.at_)
def headSaid (h : HeadD) : List UInt8 × Int := if headCheck h ≠ 0 then ([], headCheck h) else (headText h, 0)
theorem headText_length (h : HeadD) : (headText h).length = 33 := by simp [headText]
theorem headCheck_con (h : HeadD) (G : Mem) : Con Tryz.prog 39 #[.agg #[I h.epoch, U h.root, U h.prev, I h.at_]] G [] (fun u G' L' => u = I (headCheck h)) := by
 refine con_of Tryz.func39 41 [(0, .agg #[I h.epoch, U h.root, U h.prev, I h.at_])] rfl (fun w0 G0 => ?_)
 refine tc_seq (tc_region ?_)
 refine runL_box 1 #[I h.epoch, U h.root, U h.prev, I h.at_] 24 (fun b1 => ?_)
 refine runL_bn [0] [] (runL_nil (tq_then (tc_seq (tc_block (tc_seq (tc_region ?_))))))
 refine runL_bn [0,2,0,0] [(7, Bo (decide (h.epoch < 0)))] ?_
 refine runL_b2n (decide (h.epoch < 0)) [7] [1,1,1,0] [0,2,0,0] (fun bb => [(11, Bo (bb || (decide (h.epoch > 1000000))))]) ?_
 refine runL_bn [0] [(12, Bo ((decide (h.epoch < 0)) || (decide (h.epoch > 1000000))))] ?_
 refine runL_b2n ((decide (h.epoch < 0)) || (decide (h.epoch > 1000000))) [12] [1,1,1,0] [0,2,0,0] (fun bb => [(16, Bo (bb || (decide (h.root ≥ 2305843009213693951))))]) ?_
 refine runL_bn [0] [(17, Bo (((decide (h.epoch < 0)) || (decide (h.epoch > 1000000))) || (decide (h.root ≥ 2305843009213693951))))] ?_
 refine runL_b2n (((decide (h.epoch < 0)) || (decide (h.epoch > 1000000))) || (decide (h.root ≥ 2305843009213693951))) [17] [1,1,1,0] [0,2,0,0] (fun bb => [(21, Bo (bb || (decide (h.prev ≥ 2305843009213693951))))]) ?_
 refine runL_bn [0] [(22, Bo ((((decide (h.epoch < 0)) || (decide (h.epoch > 1000000))) || (decide (h.root ≥ 2305843009213693951))) || (decide (h.prev ≥ 2305843009213693951))))] ?_
 refine runL_b2n ((((decide (h.epoch < 0)) || (decide (h.epoch > 1000000))) || (decide (h.root ≥ 2305843009213693951))) || (decide (h.prev ≥ 2305843009213693951))) [22] [1,1,1,0] [0,2,0,0] (fun bb => [(26, Bo (bb || (decide (h.at_ < 0))))]) ?_
 refine runL_bn [0] [(27, Bo (((((decide (h.epoch < 0)) || (decide (h.epoch > 1000000))) || (decide (h.root ≥ 2305843009213693951))) || (decide (h.prev ≥ 2305843009213693951))) || (decide (h.at_ < 0))))] ?_
 refine runL_b2n (((((decide (h.epoch < 0)) || (decide (h.epoch > 1000000))) || (decide (h.root ≥ 2305843009213693951))) || (decide (h.prev ≥ 2305843009213693951))) || (decide (h.at_ < 0))) [27] [1,1,1,0] [0,2,0,0] (fun bb => [(31, Bo (bb || (decide (h.at_ > 1000000000))))]) ?_
 refine runL_bn [0] [(3, Bo ((((((decide (h.epoch < 0)) || (decide (h.epoch > 1000000))) || (decide (h.root ≥ 2305843009213693951))) || (decide (h.prev ≥ 2305843009213693951))) || (decide (h.at_ < 0))) || (decide (h.at_ > 1000000000))))] (runL_nil (tq_then ?_))
 refine tc_condP ((((((decide (h.epoch < 0)) || (decide (h.epoch > 1000000))) || (decide (h.root ≥ 2305843009213693951))) || (decide (h.prev ≥ 2305843009213693951))) || (decide (h.at_ < 0))) || (decide (h.at_ > 1000000000))) (fun h1 => ?_) (fun h1 => ?_)
 ·
  refine tc_rbn [0] [(2, I 4)] (tc_ret (tq_block_ret (tq_then_ret ?_)))
  refine tq_ret [0] [I 4] (bp_ret (Mem.le_refl _) ?_)
  refine congrArg I ?_; unfold headCheck; (repeat' split) <;> first | rfl | omega
 ·
  refine tc_seq (tc_region ?_)
  refine runL_bn [0,2,0,0] [(36, Bo (decide (h.epoch = 0)))] ?_
  refine runL_b2n (decide (h.epoch = 0)) [36] [0,2,0,0] [1,1,1,0] (fun bb => [(40, Bo (bb && (!decide (h.prev = 0))))]) ?_
  refine runL_bn [0] [(32, Bo ((decide (h.epoch = 0)) && (!decide (h.prev = 0))))] (runL_nil (tq_then ?_))
  refine tc_condP ((decide (h.epoch = 0)) && (!decide (h.prev = 0))) (fun h2 => ?_) (fun h2 => ?_)
  ·
   refine tc_rbn [0] [(2, I 3)] (tc_ret (tq_block_ret (tq_then_ret ?_)))
   refine tq_ret [0] [I 3] (bp_ret (Mem.le_refl _) ?_)
   refine congrArg I ?_; unfold headCheck; (repeat' split) <;> first | rfl | omega
  ·
   refine tc_skip (tq_block (tq_then ?_))
   refine tc_rbn [0] [(2, I 0)] (tc_ret ?_)
   refine tq_ret [0] [I 0] (bp_ret (Mem.le_refl _) ?_)
   refine congrArg I ?_; unfold headCheck; (repeat' split) <;> first | rfl | omega
theorem headSaid_con (h : HeadD) (G : Mem) : Con Tryz.prog 41 #[.agg #[I h.epoch, U h.root, U h.prev, I h.at_]] G [] (fun u G' L' => u = .tuple #[Sr ((headSaid h).1), I ((headSaid h).2)]) := by
 refine con_of Tryz.func41 30 [(0, .agg #[I h.epoch, U h.root, U h.prev, I h.at_])] rfl (fun w0 G0 => ?_)
 refine tc_seq (tc_region ?_)
 refine runL_box 1 #[I h.epoch, U h.root, U h.prev, I h.at_] 24 (fun b1 => ?_)
 refine runL_bn [0,0] [] (runL_nil (tq_then (tc_seq (tc_seq (tc_region ?_)))))
 refine runL_bn [2] [(5, .agg #[I h.epoch, U h.root, U h.prev, I h.at_])] ?_
 refine runL_callV 6 (I (headCheck h)) (headCheck_con h G) ?_
 refine runL_bn [0] [(4, I (headCheck h))] (runL_nil (tq_then ?_))
 refine tc_rbn [0,0] [(8, Bo (!decide (headCheck h = 0)))] ?_
 refine tc_condP (!decide (headCheck h = 0)) (fun h1 => ?_) (fun h1 => ?_)
 ·
  refine tc_rbn [0,0,0] [(2, Sr ([])), (3, I (headCheck h))] (tc_ret (tq_then_ret ?_))
  refine tq_ret [0, 0] [Sr ([]), I (headCheck h)] (bp_ret (Mem.le_refl _) ?_)
  first | (unfold headSaid; rw [if_pos (by omega)]; rfl) | (unfold headSaid; rw [if_neg (by omega)]; rfl)
 ·
  refine tc_skip (tq_then (tc_seq ?_))
  refine tc_draw [0] ?_
  refine dr_V [(2, Pt b1 0), (3, I h.epoch), (4, U (IntKind.u64.wrap h.epoch)), (5, Sr (numB (IntKind.u64.wrap h.epoch))), (7, Pt b1 1), (8, U h.root), (9, Sr (numB h.root)), (11, Pt b1 2), (12, U h.prev), (13, Sr (numB h.prev)), (15, Pt b1 3), (16, I h.at_), (17, U (IntKind.u64.wrap h.at_)), (18, Sr (numB (IntKind.u64.wrap h.at_)))] ?_
  refine dr_mid [] [(2,0), (3,2), (4,0), (7,0), (8,2), (11,0), (12,2), (15,0), (16,2), (17,0)] [5, 9, 13, 18] [0] (fmc ?_ (fmc ?_ (fmc ?_ (fmc ?_ fm0)))) (fmc ?_ fm0)
  ·
   refine stab_of 5 15 (Sr (numB (IntKind.u64.wrap h.epoch))) [(14, U (IntKind.u64.wrap h.epoch))] (fun X => ?_)
   exact runL_callV 15 (Sr (numB (IntKind.u64.wrap h.epoch))) (num_con (IntKind.u64.wrap h.epoch) G) stab_end
  ·
   refine stab_of 9 19 (Sr (numB h.root)) [(18, U h.root)] (fun X => ?_)
   exact runL_callV 19 (Sr (numB h.root)) (num_con h.root G) stab_end
  ·
   refine stab_of 13 23 (Sr (numB h.prev)) [(22, U h.prev)] (fun X => ?_)
   exact runL_callV 23 (Sr (numB h.prev)) (num_con h.prev G) stab_end
  ·
   refine stab_of 18 28 (Sr (numB (IntKind.u64.wrap h.at_))) [(27, U (IntKind.u64.wrap h.at_))] (fun X => ?_)
   exact runL_callV 28 (Sr (numB (IntKind.u64.wrap h.at_))) (num_con (IntKind.u64.wrap h.at_) G) stab_end
  refine act_of 0 [] (fun X => ?_)
  refine runL_bsl 10 1 #[Y 3] 5 (fun b2 => ?_)
  refine act_endN [(0, Sl (At b2 0) 1 1), (1, Sr (([3] : List Int).map fun n => UInt8.ofNat n.toNat)), (6, Sr ((([3] : List Int).map fun n => UInt8.ofNat n.toNat) ++ (numB (IntKind.u64.wrap h.epoch)))), (10, Sr (((([3] : List Int).map fun n => UInt8.ofNat n.toNat) ++ (numB (IntKind.u64.wrap h.epoch))) ++ (numB h.root))), (14, Sr ((((([3] : List Int).map fun n => UInt8.ofNat n.toNat) ++ (numB (IntKind.u64.wrap h.epoch))) ++ (numB h.root)) ++ (numB h.prev))), (19, Sr (((((([3] : List Int).map fun n => UInt8.ofNat n.toNat) ++ (numB (IntKind.u64.wrap h.epoch))) ++ (numB h.root)) ++ (numB h.prev)) ++ (numB (IntKind.u64.wrap h.at_)))), (20, Sr (((((([3] : List Int).map fun n => UInt8.ofNat n.toNat) ++ (numB (IntKind.u64.wrap h.epoch))) ++ (numB h.root)) ++ (numB h.prev)) ++ (numB (IntKind.u64.wrap h.at_)))), (21, I 0)] ?_
  refine dr_end [] [(2,0), (3,4), (4,0), (7,0), (8,4), (11,0), (12,4), (15,0), (16,4), (17,0), (20,0), (21,0)] [1, 5, 6, 9, 10, 13, 14, 18, 19] [(2, Sr (((((([3] : List Int).map fun n => UInt8.ofNat n.toNat) ++ (numB (IntKind.u64.wrap h.epoch))) ++ (numB h.root)) ++ (numB h.prev)) ++ (numB (IntKind.u64.wrap h.at_)))), (3, I 0)] (fmc ?_ (fmc ?_ (fmc ?_ (fmc ?_ (fmc ?_ (fmc ?_ (fmc ?_ (fmc ?_ (fmc ?_ fm0))))))))) ?_
  ·
   refine stab_of 1 11 (Sr (([3] : List Int).map fun n => UInt8.ofNat n.toNat)) [(10, Sl (At b2 0) 1 1)] (fun X => ?_)
   exact runL_b2s (b := b2) (off := 0) (len := 1) (cap := 1) (cs := List.map (Value.int .u8) [3]) 11 0 [3] rfl (lit_bytes (ns := [3]) rfl) stab_end
  ·
   refine stab_of 5 15 (Sr (numB (IntKind.u64.wrap h.epoch))) [(14, U (IntKind.u64.wrap h.epoch))] (fun X => ?_)
   exact runL_callV 15 (Sr (numB (IntKind.u64.wrap h.epoch))) (num_con (IntKind.u64.wrap h.epoch) G) stab_end
  ·
   refine stab_of 6 16 (Sr ((([3] : List Int).map fun n => UInt8.ofNat n.toNat) ++ (numB (IntKind.u64.wrap h.epoch)))) [(11, Sr (([3] : List Int).map fun n => UInt8.ofNat n.toNat)), (15, Sr (numB (IntKind.u64.wrap h.epoch)))] (fun X => ?_)
   exact runL_cat 16 (([3] : List Int).map fun n => UInt8.ofNat n.toNat) (numB (IntKind.u64.wrap h.epoch)) (by simp) stab_end
  ·
   refine stab_of 9 19 (Sr (numB h.root)) [(18, U h.root)] (fun X => ?_)
   exact runL_callV 19 (Sr (numB h.root)) (num_con h.root G) stab_end
  ·
   refine stab_of 10 20 (Sr (((([3] : List Int).map fun n => UInt8.ofNat n.toNat) ++ (numB (IntKind.u64.wrap h.epoch))) ++ (numB h.root))) [(16, Sr ((([3] : List Int).map fun n => UInt8.ofNat n.toNat) ++ (numB (IntKind.u64.wrap h.epoch)))), (19, Sr (numB h.root))] (fun X => ?_)
   exact runL_cat 20 ((([3] : List Int).map fun n => UInt8.ofNat n.toNat) ++ (numB (IntKind.u64.wrap h.epoch))) (numB h.root) (by simp) stab_end
  ·
   refine stab_of 13 23 (Sr (numB h.prev)) [(22, U h.prev)] (fun X => ?_)
   exact runL_callV 23 (Sr (numB h.prev)) (num_con h.prev G) stab_end
  ·
   refine stab_of 14 24 (Sr ((((([3] : List Int).map fun n => UInt8.ofNat n.toNat) ++ (numB (IntKind.u64.wrap h.epoch))) ++ (numB h.root)) ++ (numB h.prev))) [(20, Sr (((([3] : List Int).map fun n => UInt8.ofNat n.toNat) ++ (numB (IntKind.u64.wrap h.epoch))) ++ (numB h.root))), (23, Sr (numB h.prev))] (fun X => ?_)
   exact runL_cat 24 (((([3] : List Int).map fun n => UInt8.ofNat n.toNat) ++ (numB (IntKind.u64.wrap h.epoch))) ++ (numB h.root)) (numB h.prev) (by simp) stab_end
  ·
   refine stab_of 18 28 (Sr (numB (IntKind.u64.wrap h.at_))) [(27, U (IntKind.u64.wrap h.at_))] (fun X => ?_)
   exact runL_callV 28 (Sr (numB (IntKind.u64.wrap h.at_))) (num_con (IntKind.u64.wrap h.at_) G) stab_end
  ·
   refine stab_of 19 29 (Sr (((((([3] : List Int).map fun n => UInt8.ofNat n.toNat) ++ (numB (IntKind.u64.wrap h.epoch))) ++ (numB h.root)) ++ (numB h.prev)) ++ (numB (IntKind.u64.wrap h.at_)))) [(24, Sr ((((([3] : List Int).map fun n => UInt8.ofNat n.toNat) ++ (numB (IntKind.u64.wrap h.epoch))) ++ (numB h.root)) ++ (numB h.prev))), (28, Sr (numB (IntKind.u64.wrap h.at_)))] (fun X => ?_)
   exact runL_cat 29 ((((([3] : List Int).map fun n => UInt8.ofNat n.toNat) ++ (numB (IntKind.u64.wrap h.epoch))) ++ (numB h.root)) ++ (numB h.prev)) (numB (IntKind.u64.wrap h.at_)) (by simp) stab_end
  refine tq_then (tc_ret ?_)
  refine tq_ret [0, 0] [Sr (((((([3] : List Int).map fun n => UInt8.ofNat n.toNat) ++ (numB (IntKind.u64.wrap h.epoch))) ++ (numB h.root)) ++ (numB h.prev)) ++ (numB (IntKind.u64.wrap h.at_))), I 0] (bp_ret (Mem.le_refl _) ?_)
  first | (unfold headSaid; rw [if_pos (by omega)]; rfl) | (unfold headSaid; rw [if_neg (by omega)]; rfl)
end Go.Proofs.YtpofnmobbbcpgaaGreatDoor
