import Derived.Test.YtmpakffajpnffaaKbWire
namespace Go.Proofs.Ytmpakffajpnffaa
open Go.Tx
set_option linter.unusedVariables false
set_option linter.unusedSimpArgs false
def HeadW (h : HeadD) : Prop := -9223372036854775808 ≤ h.epoch ∧ h.epoch < 9223372036854775808 ∧ 0 ≤ h.root ∧ h.root < 18446744073709551616 ∧ 0 ≤ h.prev ∧ h.prev < 18446744073709551616 ∧ -9223372036854775808 ≤ h.at_ ∧ h.at_ < 9223372036854775808
def headZ : HeadD := ⟨0, 0, 0, 0⟩
def headCheck (h : HeadD) : Int :=
  if h.epoch < 0 ∨ 1000000 < h.epoch ∨ 2305843009213693951 ≤ h.root ∨ 2305843009213693951 ≤ h.prev ∨ h.at_ < 0 ∨ 1000000000 < h.at_ then 4 else if h.epoch = 0 ∧ h.prev ≠ 0 then 3 else 0
theorem headCheck_ok {h : HeadD} (e : headCheck h = 0) : 0 ≤ h.epoch ∧ h.epoch ≤ 1000000 ∧ h.root < 2305843009213693951 ∧ h.prev < 2305843009213693951 ∧ 0 ≤ h.at_ ∧ h.at_ ≤ 1000000000 ∧ (h.epoch = 0 → h.prev = 0) := by
  unfold headCheck at e; split at e
  · cases e
  split at e
  · cases e
  omega
def headText (h : HeadD) : List UInt8 := ((([3] ++ numB (IntKind.u64.wrap h.epoch)) ++ numB h.root) ++ numB h.prev) ++ numB (IntKind.u64.wrap h.at_)
def headSaid (h : HeadD) : List UInt8 × Int := if headCheck h ≠ 0 then ([], headCheck h) else (headText h, 0)
def headGot (s : List UInt8) : HeadD := ⟨IntKind.i64.wrap (readNum ((s.take 9).drop 1)).1, (readNum ((s.take 17).drop 9)).1, (readNum ((s.take 25).drop 17)).1, IntKind.i64.wrap (readNum ((s.take 33).drop 25)).1⟩
def headRead (s : List UInt8) : HeadD × Int := if s.length ≠ 33 ∨ s[0]? ≠ some 3 then (headZ, 3) else if headCheck (headGot s) ≠ 0 then (headZ, 3) else (headGot s, 0)
theorem headText_length (h : HeadD) : (headText h).length = 33 := by simp [headText]
theorem headRead_text {h : HeadD} (hw : HeadW h) (e : headCheck h = 0) : headRead (headText h) = (h, 0) := by
  have hb := headCheck_ok e
  unfold HeadW at hw
  have e1 : IntKind.u64.wrap h.epoch = h.epoch := wrap_u64 (by omega) (by omega)
  have e2 : IntKind.u64.wrap h.at_ = h.at_ := wrap_u64 (by omega) (by omega)
  have key : ∀ (a b c d : List UInt8), a.length = 8 → b.length = 8 → c.length = 8 → d.length = 8 →
      headGot (((([3] ++ a) ++ b) ++ c) ++ d) = ⟨IntKind.i64.wrap (readN a), readN b, readN c, IntKind.i64.wrap (readN d)⟩ := by
    intro a b c d ha hb hc hd
    have p1 : ((((([3] ++ a) ++ b) ++ c) ++ d).take 9).drop 1 = a := by simp [List.take_append, ha, List.take_of_length_le]
    have p2 : ((((([3] ++ a) ++ b) ++ c) ++ d).take 17).drop 9 = b := by simp [List.take_append, List.drop_append, ha, hb, List.take_of_length_le, List.drop_eq_nil_of_le]
    have p3 : ((((([3] ++ a) ++ b) ++ c) ++ d).take 25).drop 17 = c := by simp [List.take_append, List.drop_append, ha, hb, hc, List.take_of_length_le, List.drop_eq_nil_of_le]
    have p4 : ((((([3] ++ a) ++ b) ++ c) ++ d).take 33).drop 25 = d := by simp [List.take_append, List.drop_append, ha, hb, hc, hd, List.take_of_length_le, List.drop_eq_nil_of_le]
    unfold headGot
    rw [p1, p2, p3, p4]
    simp [readNum, ha, hb, hc, hd]
  have hg : headGot (headText h) = h := by
    unfold headText
    rw [key _ _ _ _ (by simp) (by simp) (by simp) (by simp), e1, e2, readN_numB (by omega) (by omega), readN_numB (by omega) (by omega), readN_numB (by omega) (by omega), readN_numB (by omega) (by omega), wrap_i64 (by omega) (by omega), wrap_i64 (by omega) (by omega)]
  unfold headRead
  rw [hg, if_neg (by rw [headText_length]; simp [headText]), if_neg (by simp [e])]
theorem headCheck_con (h : HeadD) (G : Mem) : Con Try.prog 49 #[.agg #[I h.epoch, U h.root, U h.prev, I h.at_]] G [] (fun u G' L' => u = I (headCheck h)) := by
 refine con_of Try.func49 41 [(0, .agg #[I h.epoch, U h.root, U h.prev, I h.at_])] rfl (fun w0 G0 => ?_)
 refine tc_seq (tc_region ?_)
 refine runL_box 1 #[I h.epoch, U h.root, U h.prev, I h.at_] 31 (fun b1 => ?_)
 refine runL_b [0] [(1, Pt b1 0)] (runL_nil (tq_then (tc_seq (tc_block (tc_seq (tc_region ?_))))))
 refine runL_b [0,2,0,0] [(1, Pt b1 0), (7, Bo (decide (h.epoch < 0)))] ?_
 refine runL_b2 (decide (h.epoch < 0)) (fun bb => [(1, Pt b1 0), (7, Bo bb)]) [1,1,1,0] [0,2,0,0] (fun bb => [(1, Pt b1 0), (11, Bo (bb || (decide (h.epoch > 1000000))))]) ?_
 refine runL_b [0] [(1, Pt b1 0), (12, Bo ((decide (h.epoch < 0)) || (decide (h.epoch > 1000000))))] ?_
 refine runL_b2 ((decide (h.epoch < 0)) || (decide (h.epoch > 1000000))) (fun bb => [(1, Pt b1 0), (12, Bo bb)]) [1,1,1,0] [0,2,0,0] (fun bb => [(1, Pt b1 0), (16, Bo (bb || (decide (h.root ≥ 2305843009213693951))))]) ?_
 refine runL_b [0] [(1, Pt b1 0), (17, Bo (((decide (h.epoch < 0)) || (decide (h.epoch > 1000000))) || (decide (h.root ≥ 2305843009213693951))))] ?_
 refine runL_b2 (((decide (h.epoch < 0)) || (decide (h.epoch > 1000000))) || (decide (h.root ≥ 2305843009213693951))) (fun bb => [(1, Pt b1 0), (17, Bo bb)]) [1,1,1,0] [0,2,0,0] (fun bb => [(1, Pt b1 0), (21, Bo (bb || (decide (h.prev ≥ 2305843009213693951))))]) ?_
 refine runL_b [0] [(1, Pt b1 0), (22, Bo ((((decide (h.epoch < 0)) || (decide (h.epoch > 1000000))) || (decide (h.root ≥ 2305843009213693951))) || (decide (h.prev ≥ 2305843009213693951))))] ?_
 refine runL_b2 ((((decide (h.epoch < 0)) || (decide (h.epoch > 1000000))) || (decide (h.root ≥ 2305843009213693951))) || (decide (h.prev ≥ 2305843009213693951))) (fun bb => [(1, Pt b1 0), (22, Bo bb)]) [1,1,1,0] [0,2,0,0] (fun bb => [(1, Pt b1 0), (26, Bo (bb || (decide (h.at_ < 0))))]) ?_
 refine runL_b [0] [(1, Pt b1 0), (27, Bo (((((decide (h.epoch < 0)) || (decide (h.epoch > 1000000))) || (decide (h.root ≥ 2305843009213693951))) || (decide (h.prev ≥ 2305843009213693951))) || (decide (h.at_ < 0))))] ?_
 refine runL_b2 (((((decide (h.epoch < 0)) || (decide (h.epoch > 1000000))) || (decide (h.root ≥ 2305843009213693951))) || (decide (h.prev ≥ 2305843009213693951))) || (decide (h.at_ < 0))) (fun bb => [(1, Pt b1 0), (27, Bo bb)]) [1,1,1,0] [0,2,0,0] (fun bb => [(1, Pt b1 0), (31, Bo (bb || (decide (h.at_ > 1000000000))))]) ?_
 refine runL_b [0] [(1, Pt b1 0), (3, Bo ((((((decide (h.epoch < 0)) || (decide (h.epoch > 1000000))) || (decide (h.root ≥ 2305843009213693951))) || (decide (h.prev ≥ 2305843009213693951))) || (decide (h.at_ < 0))) || (decide (h.at_ > 1000000000))))] (runL_nil (tq_then ?_))
 refine tc_cond ((((((decide (h.epoch < 0)) || (decide (h.epoch > 1000000))) || (decide (h.root ≥ 2305843009213693951))) || (decide (h.prev ≥ 2305843009213693951))) || (decide (h.at_ < 0))) || (decide (h.at_ > 1000000000))) (fun h1 => ?_) (fun h1 => ?_)
 ·
  try simp only [BB] at h1
  refine tc_rb [0] [(2, I 4)] (tc_ret (tq_block_ret (tq_then_ret ?_)))
  refine tq_ret [0] [I 4] (bp_ret (Mem.le_refl _) ?_)
  refine congrArg I ?_; unfold headCheck; (repeat' split) <;> first | rfl | omega
 ·
  try simp only [BB] at h1
  refine tc_seq (tc_region ?_)
  refine runL_b [0,2,0,0] [(1, Pt b1 0), (36, Bo (decide (h.epoch = 0)))] ?_
  refine runL_b2 (decide (h.epoch = 0)) (fun bb => [(1, Pt b1 0), (36, Bo bb)]) [0,2,0,0] [1,1,1,0] (fun bb => [(40, Bo (bb && (!decide (h.prev = 0))))]) ?_
  refine runL_b [0] [(32, Bo ((decide (h.epoch = 0)) && (!decide (h.prev = 0))))] (runL_nil (tq_then ?_))
  refine tc_cond ((decide (h.epoch = 0)) && (!decide (h.prev = 0))) (fun h2 => ?_) (fun h2 => ?_)
  ·
   try simp only [BB] at h2
   refine tc_rb [0] [(2, I 3)] (tc_ret (tq_block_ret (tq_then_ret ?_)))
   refine tq_ret [0] [I 3] (bp_ret (Mem.le_refl _) ?_)
   refine congrArg I ?_; unfold headCheck; (repeat' split) <;> first | rfl | omega
  ·
   try simp only [BB] at h2
   refine tc_skip (tq_block (tq_then ?_))
   refine tc_rb [0] [(2, I 0)] (tc_ret ?_)
   refine tq_ret [0] [I 0] (bp_ret (Mem.le_refl _) ?_)
   refine congrArg I ?_; unfold headCheck; (repeat' split) <;> first | rfl | omega
theorem headSaid_con (h : HeadD) (G : Mem) : Con Try.prog 28 #[.agg #[I h.epoch, U h.root, U h.prev, I h.at_]] G [] (fun u G' L' => u = .tuple #[Sr ((headSaid h).1), I ((headSaid h).2)]) := by
 refine con_of Try.func28 30 [(0, .agg #[I h.epoch, U h.root, U h.prev, I h.at_])] rfl (fun w0 G0 => ?_)
 refine tc_seq (tc_region ?_)
 refine runL_box 1 #[I h.epoch, U h.root, U h.prev, I h.at_] 31 (fun b1 => ?_)
 refine runL_b [0,0] [(1, Pt b1 0)] (runL_nil (tq_then (tc_seq (tc_seq (tc_region ?_)))))
 refine runL_b [2] [(1, Pt b1 0), (5, .agg #[I h.epoch, U h.root, U h.prev, I h.at_])] ?_
 refine runL_callV 6 (I (headCheck h)) (headCheck_con h G) ?_
 refine runL_b [0] [(1, Pt b1 0), (4, I (headCheck h))] (runL_nil (tq_then ?_))
 refine tc_rb [0,0] [(1, Pt b1 0), (4, I (headCheck h)), (8, Bo (!decide (headCheck h = 0)))] ?_
 refine tc_cond (!decide (headCheck h = 0)) (fun h1 => ?_) (fun h1 => ?_)
 ·
  try simp only [BB] at h1
  refine tc_rb [0,0,0] [(2, Sr ([])), (3, I (headCheck h))] (tc_ret (tq_then_ret ?_))
  refine tq_ret [0, 0] [Sr ([]), I (headCheck h)] (bp_ret (Mem.le_refl _) ?_)
  first | (unfold headSaid; rw [if_pos (by omega)]; rfl) | (unfold headSaid; rw [if_neg (by omega)]; rfl)
 ·
  try simp only [BB] at h1
  refine tc_skip (tq_then (tc_seq ?_))
  refine tc_draw [0] ?_
  refine dr_V [(2, Pt b1 0), (3, I h.epoch), (4, U (IntKind.u64.wrap h.epoch)), (5, Sr (numB (IntKind.u64.wrap h.epoch))), (7, Pt b1 1), (8, U h.root), (9, Sr (numB h.root)), (11, Pt b1 2), (12, U h.prev), (13, Sr (numB h.prev)), (15, Pt b1 3), (16, I h.at_), (17, U (IntKind.u64.wrap h.at_)), (18, Sr (numB (IntKind.u64.wrap h.at_)))] ?_
  refine dr_mid [] [(2,0), (3,2), (4,0), (7,0), (8,2), (11,0), (12,2), (15,0), (16,2), (17,0)] [5, 9, 13, 18] [0] (List.forall_mem_cons.2 ⟨?_, (List.forall_mem_cons.2 ⟨?_, (List.forall_mem_cons.2 ⟨?_, (List.forall_mem_cons.2 ⟨?_, List.forall_mem_nil _⟩)⟩)⟩)⟩) (List.forall_mem_cons.2 ⟨?_, List.forall_mem_nil _⟩)
  ·
   refine stab_of 5 15 (Sr (numB (IntKind.u64.wrap h.epoch))) [(14, U (IntKind.u64.wrap h.epoch))] (fun X => ?_)
   exact runL_callV 15 (Sr (numB (IntKind.u64.wrap h.epoch))) (num_con (IntKind.u64.wrap h.epoch) G) stab_end
  ·
   refine stab_of 9 19 (Sr (numB h.root)) [(18, U h.root)] (fun X => ?_)
   exact runL_callV 19 (Sr (numB h.root)) (num_con h.root G) stab_end
  ·
   refine stab_of 13 23 (Sr (numB h.prev)) [(22, U h.prev)] (fun X => ?_)
   exact runL_callV 23 (Sr (numB h.prev)) (num_con h.prev G) stab_end
  ·
   refine stab_of 18 28 (Sr (numB (IntKind.u64.wrap h.at_))) [(27, U (IntKind.u64.wrap h.at_))] (fun X => ?_)
   exact runL_callV 28 (Sr (numB (IntKind.u64.wrap h.at_))) (num_con (IntKind.u64.wrap h.at_) G) stab_end
  refine act_of 0 [] (fun X => ?_)
  refine runL_bsl 10 1 #[Y 3] 5 (fun b2 => ?_)
  refine act_end (V' := [(0, Sl (At b2 0) 1 1), (1, Sr (([3] : List Int).map fun n => UInt8.ofNat n.toNat)), (2, Pt b1 0), (3, I h.epoch), (4, U (IntKind.u64.wrap h.epoch)), (5, Sr (numB (IntKind.u64.wrap h.epoch))), (6, Sr ((([3] : List Int).map fun n => UInt8.ofNat n.toNat) ++ (numB (IntKind.u64.wrap h.epoch)))), (7, Pt b1 1), (8, U h.root), (9, Sr (numB h.root)), (10, Sr (((([3] : List Int).map fun n => UInt8.ofNat n.toNat) ++ (numB (IntKind.u64.wrap h.epoch))) ++ (numB h.root))), (11, Pt b1 2), (12, U h.prev), (13, Sr (numB h.prev)), (14, Sr ((((([3] : List Int).map fun n => UInt8.ofNat n.toNat) ++ (numB (IntKind.u64.wrap h.epoch))) ++ (numB h.root)) ++ (numB h.prev))), (15, Pt b1 3), (16, I h.at_), (17, U (IntKind.u64.wrap h.at_)), (18, Sr (numB (IntKind.u64.wrap h.at_))), (19, Sr (((((([3] : List Int).map fun n => UInt8.ofNat n.toNat) ++ (numB (IntKind.u64.wrap h.epoch))) ++ (numB h.root)) ++ (numB h.prev)) ++ (numB (IntKind.u64.wrap h.at_)))), (20, Sr (((((([3] : List Int).map fun n => UInt8.ofNat n.toNat) ++ (numB (IntKind.u64.wrap h.epoch))) ++ (numB h.root)) ++ (numB h.prev)) ++ (numB (IntKind.u64.wrap h.at_)))), (21, I 0)]) ?_
  refine dr_end [] [(2,0), (3,4), (4,0), (7,0), (8,4), (11,0), (12,4), (15,0), (16,4), (17,0), (20,0), (21,0)] [1, 5, 6, 9, 10, 13, 14, 18, 19] [(2, Sr (((((([3] : List Int).map fun n => UInt8.ofNat n.toNat) ++ (numB (IntKind.u64.wrap h.epoch))) ++ (numB h.root)) ++ (numB h.prev)) ++ (numB (IntKind.u64.wrap h.at_)))), (3, I 0)] (List.forall_mem_cons.2 ⟨?_, (List.forall_mem_cons.2 ⟨?_, (List.forall_mem_cons.2 ⟨?_, (List.forall_mem_cons.2 ⟨?_, (List.forall_mem_cons.2 ⟨?_, (List.forall_mem_cons.2 ⟨?_, (List.forall_mem_cons.2 ⟨?_, (List.forall_mem_cons.2 ⟨?_, (List.forall_mem_cons.2 ⟨?_, List.forall_mem_nil _⟩)⟩)⟩)⟩)⟩)⟩)⟩)⟩)⟩) ?_
  ·
   refine stab_of 1 11 (Sr (([3] : List Int).map fun n => UInt8.ofNat n.toNat)) [(10, Sl (At b2 0) 1 1)] (fun X => ?_)
   exact runL_b2s (b := b2) (off := 0) (len := 1) (cap := 1) (cs := List.map (Value.int .u8) [3]) 11 0 [3] rfl (lit_bytes (ns := [3]) rfl) stab_end
  ·
   refine stab_of 5 15 (Sr (numB (IntKind.u64.wrap h.epoch))) [(14, U (IntKind.u64.wrap h.epoch))] (fun X => ?_)
   exact runL_callV 15 (Sr (numB (IntKind.u64.wrap h.epoch))) (num_con (IntKind.u64.wrap h.epoch) G) stab_end
  ·
   refine stab_of 6 16 (Sr ((([3] : List Int).map fun n => UInt8.ofNat n.toNat) ++ (numB (IntKind.u64.wrap h.epoch)))) [(11, Sr (([3] : List Int).map fun n => UInt8.ofNat n.toNat)), (15, Sr (numB (IntKind.u64.wrap h.epoch)))] (fun X => ?_)
   exact runL_cat 16 (([3] : List Int).map fun n => UInt8.ofNat n.toNat) (numB (IntKind.u64.wrap h.epoch)) (by simp) stab_end
  ·
   refine stab_of 9 19 (Sr (numB h.root)) [(18, U h.root)] (fun X => ?_)
   exact runL_callV 19 (Sr (numB h.root)) (num_con h.root G) stab_end
  ·
   refine stab_of 10 20 (Sr (((([3] : List Int).map fun n => UInt8.ofNat n.toNat) ++ (numB (IntKind.u64.wrap h.epoch))) ++ (numB h.root))) [(16, Sr ((([3] : List Int).map fun n => UInt8.ofNat n.toNat) ++ (numB (IntKind.u64.wrap h.epoch)))), (19, Sr (numB h.root))] (fun X => ?_)
   exact runL_cat 20 ((([3] : List Int).map fun n => UInt8.ofNat n.toNat) ++ (numB (IntKind.u64.wrap h.epoch))) (numB h.root) (by simp) stab_end
  ·
   refine stab_of 13 23 (Sr (numB h.prev)) [(22, U h.prev)] (fun X => ?_)
   exact runL_callV 23 (Sr (numB h.prev)) (num_con h.prev G) stab_end
  ·
   refine stab_of 14 24 (Sr ((((([3] : List Int).map fun n => UInt8.ofNat n.toNat) ++ (numB (IntKind.u64.wrap h.epoch))) ++ (numB h.root)) ++ (numB h.prev))) [(20, Sr (((([3] : List Int).map fun n => UInt8.ofNat n.toNat) ++ (numB (IntKind.u64.wrap h.epoch))) ++ (numB h.root))), (23, Sr (numB h.prev))] (fun X => ?_)
   exact runL_cat 24 (((([3] : List Int).map fun n => UInt8.ofNat n.toNat) ++ (numB (IntKind.u64.wrap h.epoch))) ++ (numB h.root)) (numB h.prev) (by simp) stab_end
  ·
   refine stab_of 18 28 (Sr (numB (IntKind.u64.wrap h.at_))) [(27, U (IntKind.u64.wrap h.at_))] (fun X => ?_)
   exact runL_callV 28 (Sr (numB (IntKind.u64.wrap h.at_))) (num_con (IntKind.u64.wrap h.at_) G) stab_end
  ·
   refine stab_of 19 29 (Sr (((((([3] : List Int).map fun n => UInt8.ofNat n.toNat) ++ (numB (IntKind.u64.wrap h.epoch))) ++ (numB h.root)) ++ (numB h.prev)) ++ (numB (IntKind.u64.wrap h.at_)))) [(24, Sr ((((([3] : List Int).map fun n => UInt8.ofNat n.toNat) ++ (numB (IntKind.u64.wrap h.epoch))) ++ (numB h.root)) ++ (numB h.prev))), (28, Sr (numB (IntKind.u64.wrap h.at_)))] (fun X => ?_)
   exact runL_cat 29 ((((([3] : List Int).map fun n => UInt8.ofNat n.toNat) ++ (numB (IntKind.u64.wrap h.epoch))) ++ (numB h.root)) ++ (numB h.prev)) (numB (IntKind.u64.wrap h.at_)) (by simp) stab_end
  refine tq_then (tc_ret ?_)
  refine tq_ret [0, 0] [Sr (((((([3] : List Int).map fun n => UInt8.ofNat n.toNat) ++ (numB (IntKind.u64.wrap h.epoch))) ++ (numB h.root)) ++ (numB h.prev)) ++ (numB (IntKind.u64.wrap h.at_))), I 0] (bp_ret (Mem.le_refl _) ?_)
  first | (unfold headSaid; rw [if_pos (by omega)]; rfl) | (unfold headSaid; rw [if_neg (by omega)]; rfl)
end Go.Proofs.Ytmpakffajpnffaa
