import Derived.Test.YtmpakffajpnffaaKbHead
import Derived.Test.YtmpakffajpnffaaKbMark
import Derived.Test.YtmpakffajpnffaaKbQueue
namespace Go.Proofs.Ytmpakffajpnffaa
open Go.Tx
set_option linter.unusedVariables false
set_option linter.unusedSimpArgs false
theorem le48 {n : Nat} (h : n ≤ 140737488351232) : n ≤ 140737488355328 := by omega
theorem headSaid_len (h : HeadD) : (headSaid h).1.length ≤ 33 := by
  unfold headSaid; split
  · simp
  · rw [headText_length]; exact Nat.le_refl _
def headMark (h : HeadD) : Int × Int := if (headSaid h).2 ≠ 0 then (0, (headSaid h).2) else (markOf (headSaid h).1, 0)
def headNextE (h : HeadD) (root at_ : Int) : Int := if headCheck h ≠ 0 then headCheck h else if h.epoch = 1000000 then 7 else if at_ < h.at_ then 4 else headCheck ⟨h.epoch + 1, root, (headMark h).1, at_⟩
def headNext (h : HeadD) (root at_ : Int) : HeadD × Int := if headNextE h root at_ ≠ 0 then (headZ, headNextE h root at_) else (⟨h.epoch + 1, root, (headMark h).1, at_⟩, 0)
theorem headSaid_err (h : HeadD) : (headSaid h).2 = headCheck h := by unfold headSaid; split <;> simp_all
theorem headMark_err (h : HeadD) : (headMark h).2 = headCheck h := by unfold headMark; rw [headSaid_err]; split <;> simp_all
theorem headSaid_ok {h : HeadD} (e : headCheck h = 0) : headSaid h = (headText h, 0) := by unfold headSaid; rw [if_neg (by omega)]
theorem headMark_ok {h : HeadD} (e : headCheck h = 0) : headMark h = (markOf (headText h), 0) := by
  unfold headMark; rw [headSaid_ok e]; simp
theorem headNext_ok {h : HeadD} {root at_ : Int} (e : (headNext h root at_).2 = 0) : headCheck h = 0 ∧ h.epoch < 1000000 ∧ h.at_ ≤ at_ ∧ headNext h root at_ = (⟨h.epoch + 1, root, markOf (headText h), at_⟩, 0) ∧ headCheck ⟨h.epoch + 1, root, markOf (headText h), at_⟩ = 0 := by
  unfold headNext at e ⊢
  split at e
  · contradiction
  · rename_i h1
    rw [if_neg h1]
    unfold headNextE at h1
    by_cases e1 : headCheck h = 0
    · rw [if_neg (by omega)] at h1
      have hb := headCheck_ok e1
      have hm := headMark_ok e1
      rw [hm] at h1 ⊢
      by_cases e2 : h.epoch = 1000000
      · rw [if_pos e2] at h1; simp at h1
      · rw [if_neg e2] at h1
        by_cases e3 : at_ < h.at_
        · rw [if_pos e3] at h1; simp at h1
        · rw [if_neg e3] at h1
          exact ⟨e1, by omega, by omega, rfl, by simpa using h1⟩
    · rw [if_pos e1] at h1; omega
theorem headText_inj {x y : HeadD} (hx : HeadW x) (hy : HeadW y) (ex : headCheck x = 0) (ey : headCheck y = 0) (h : headText x = headText y) : x = y := by
  have h1 := headRead_text hx ex
  have h2 := headRead_text hy ey
  rw [h, h2] at h1
  exact (Prod.mk.inj h1).1.symm
theorem headMark_con (G : Mem) (vs_h : List Value) (h : HeadD) (h_h : EHead.R G vs_h h)  : Con Try.prog 26 #[.agg vs_h.toArray] G [] (fun u G' L' => u = .tuple #[U ((headMark h).1), I ((headMark h).2)]) := by
 obtain ⟨rfl, w1, w2, w3, w4⟩ := h_h
 refine con_of Try.func26 16 [(0, .agg #[I h.epoch, U h.root, U h.prev, I h.at_])] rfl (fun w0 G0 => ?_)
 refine tc_seq (tc_region ?_)
 refine runL_box 1 #[I h.epoch, U h.root, U h.prev, I h.at_] 31 (fun b1 => ?_)
 refine runL_b [0,0] [(1, Pt b1 0)] (runL_nil (tq_then (tc_seq (tc_region ?_))))
 refine runL_b [2] [(7, .agg #[I h.epoch, U h.root, U h.prev, I h.at_])] ?_
 refine runL_callV 8 (.tuple #[Sr ((headSaid h).1), I ((headSaid h).2)]) (headSaid_con h G) ?_
 refine runL_b [0,0,0,0,0] [(4, Sr ((headSaid h).1)), (5, I ((headSaid h).2))] (runL_nil (tq_then (tc_seq ?_)))
 refine tc_rb [0,0] [(4, Sr ((headSaid h).1)), (5, I ((headSaid h).2)), (12, Bo (!decide ((headSaid h).2 = 0)))] ?_
 refine tc_cond (!decide ((headSaid h).2 = 0)) (fun h1 => ?_) (fun h1 => ?_)
 ·
  try simp only [BB] at h1
  refine tc_rb [0,0,0] [(2, U 0), (3, I ((headSaid h).2))] (tc_ret (tq_then_ret ?_))
  refine tq_ret [0, 0] [U 0, I ((headSaid h).2)] (bp_ret (Mem.le_refl _) ?_)
  have hf_ : (headMark h) = (0, ((headSaid h).2)) := by
   unfold headMark; simp_all
  (try rw [hf_]); first | with_reducible rfl | (simp only [packR]; done) | rfl
 ·
  try simp only [BB] at h1
  refine tc_skip (tq_then (tc_seq (tc_region ?_)))
  refine runL_b [0] [(14, Sr ((headSaid h).1))] ?_
  refine runL_callV 15 (U (markOf ((headSaid h).1))) (markOf_con ((headSaid h).1) (le48 (Nat.le_trans (headSaid_len h) (by decide))) G) ?_
  refine runL_b [0,0] [(2, U (markOf ((headSaid h).1))), (3, I 0)] (runL_nil (tq_then (tc_ret ?_)))
  refine tq_ret [0, 0] [U (markOf ((headSaid h).1)), I 0] (bp_ret (Mem.le_refl _) ?_)
  have hf_ : (headMark h) = ((markOf ((headSaid h).1)), 0) := by
   unfold headMark; simp_all
  (try rw [hf_]); first | with_reducible rfl | (simp only [packR]; done) | rfl
theorem headNext_con (G : Mem) (vs_h : List Value) (h : HeadD) (h_h : EHead.R G vs_h h) (root : Int) (hw_root : 0 ≤ root ∧ root < 18446744073709551616) (a : Int) (hw_a : -9223372036854775808 ≤ a ∧ a < 9223372036854775808)  : Con Try.prog 46 #[.agg vs_h.toArray, U root, I a] G [] (fun u G' L' => u = .tuple #[.agg #[I (((headNext h root a).1).epoch), U (((headNext h root a).1).root), U (((headNext h root a).1).prev), I (((headNext h root a).1).at_)], I ((headNext h root a).2)]) := by
 obtain ⟨rfl, w1, w2, w3, w4⟩ := h_h
 refine con_of Try.func46 46 [(0, .agg #[I h.epoch, U h.root, U h.prev, I h.at_]), (1, U root), (2, I a)] rfl (fun w0 G0 => ?_)
 refine tc_seq (tc_region ?_)
 refine runL_box 3 #[I h.epoch, U h.root, U h.prev, I h.at_] 31 (fun b1 => ?_)
 refine runL_box 6 #[I 0, U 0, U 0, I 0] 31 (fun b2 => ?_)
 refine runL_b [0] [(1, U root), (2, I a), (3, Pt b1 0), (6, Pt b2 0)] (runL_nil (tq_then (tc_seq (tc_region ?_))))
 refine runL_b [4] [(1, U root), (2, I a), (3, Pt b1 0), (6, Pt b2 0), (13, .agg #[I h.epoch, U h.root, U h.prev, I h.at_])] ?_
 refine runL_callV 14 (.tuple #[U ((headMark h).1), I ((headMark h).2)]) (headMark_con G [I h.epoch, U h.root, U h.prev, I h.at_] h (⟨rfl, w1, w2, w3, w4⟩)) ?_
 refine runL_b [0,0,0,0,0] [(1, U root), (2, I a), (3, Pt b1 0), (6, Pt b2 0), (8, U ((headMark h).1)), (9, I ((headMark h).2))] (runL_nil (tq_then (tc_seq (tc_block ?_))))
 refine tc_rb [0,0,0] [(1, U root), (2, I a), (3, Pt b1 0), (6, Pt b2 0), (8, U ((headMark h).1)), (9, I ((headMark h).2)), (17, Bo (!decide ((headMark h).2 = 0)))] ?_
 refine tc_cond (!decide ((headMark h).2 = 0)) (fun h1 => ?_) (fun h1 => ?_)
 ·
  try simp only [BB] at h1
  refine tc_rb [0,0,3,0] [(6, Pt b2 0), (7, I ((headMark h).2))] (tc_ret (tq_block_ret (tq_then_ret ?_)))
  refine tq_ret [0, 0] [.agg #[I 0, U 0, U 0, I 0], I ((headMark h).2)] (bp_ret (Mem.le_refl _) ?_)
  have hf_ : (headNext h root a) = ((⟨0, 0, 0, 0⟩ : HeadD), ((headMark h).2)) := by
   (try rw [headMark_err] at *); unfold headNext headNextE headZ; grind
  (try rw [hf_]); first | with_reducible rfl | (simp only [packR]; done) | rfl
 ·
  try simp only [BB] at h1
  refine tc_rb [0,4,0,0] [(1, U root), (2, I a), (3, Pt b1 0), (6, Pt b2 0), (8, U ((headMark h).1)), (22, Bo (decide (h.epoch = 1000000)))] ?_
  refine tc_cond (decide (h.epoch = 1000000)) (fun h2 => ?_) (fun h2 => ?_)
  ·
   try simp only [BB] at h2
   refine tc_rb [0,3,0] [(6, Pt b2 0), (7, I 7)] (tc_ret (tq_block_ret (tq_then_ret ?_)))
   refine tq_ret [0, 0] [.agg #[I 0, U 0, U 0, I 0], I 7] (bp_ret (Mem.le_refl _) ?_)
   have hf_ : (headNext h root a) = ((⟨0, 0, 0, 0⟩ : HeadD), 7) := by
    (try rw [headMark_err] at *); unfold headNext headNextE headZ; grind
   (try rw [hf_]); first | with_reducible rfl | (simp only [packR]; done) | rfl
  ·
   try simp only [BB] at h2
   refine tc_skip (tq_block (tq_then (tc_seq (tc_region ?_))))
   refine runL_b [0,4,0,0,0,0,0] [(2, I a), (3, Pt b1 0), (6, Pt b2 0), (33, .agg #[I (IntKind.i64.wrap (h.epoch + 1)), U root, U ((headMark h).1), I a])] ?_
   have e1 : IntKind.i64.wrap (h.epoch + 1) = h.epoch + 1 := IntWalk.i64_in _ (by have := headCheck_ok (h := h) (by rw [← headMark_err]; assumption); omega)
   refine runL_eq (fr' := [(2, I a), (3, Pt b1 0), (6, Pt b2 0), (33, .agg #[I (h.epoch + 1), U root, U ((headMark h).1), I a])]) (L' := [[Sg b2 0 [I 0, U 0, U 0, I 0]], [Sg b1 0 [I h.epoch, U h.root, U h.prev, I h.at_]]]) (by simp only [e1]) (by rfl) ?_
   clear e1
   refine runL_box 10 #[I 0, U 0, U 0, I 0] 31 (fun b3 => ?_)
   refine runL_bs [3] [(2, I a), (3, Pt b1 0), (6, Pt b2 0), (10, Pt b3 0)] [[Sg b3 0 [I (h.epoch + 1), U root, U ((headMark h).1), I a]], [Sg b2 0 [I 0, U 0, U 0, I 0]], [Sg b1 0 [I h.epoch, U h.root, U h.prev, I h.at_]]] (runL_nil (tq_then (tc_seq ?_)))
   refine tc_rb [0,0,6,0] [(6, Pt b2 0), (10, Pt b3 0), (37, Bo (decide (a < h.at_)))] ?_
   refine tc_cond (decide (a < h.at_)) (fun h3 => ?_) (fun h3 => ?_)
   ·
    try simp only [BB] at h3
    refine tc_rb [0,5,0] [(6, Pt b2 0), (7, I 4)] (tc_ret (tq_then_ret ?_))
    refine tq_ret [1, 0] [.agg #[I 0, U 0, U 0, I 0], I 4] (bp_ret (Mem.le_refl _) ?_)
    have hf_ : (headNext h root a) = ((⟨0, 0, 0, 0⟩ : HeadD), 4) := by
     (try rw [headMark_err] at *); unfold headNext headNextE headZ; grind
    (try rw [hf_]); first | with_reducible rfl | (simp only [packR]; done) | rfl
   ·
    try simp only [BB] at h3
    refine tc_skip (tq_then (tc_seq (tc_seq (tc_region ?_))))
    refine runL_b [2] [(6, Pt b2 0), (10, Pt b3 0), (39, .agg #[I (h.epoch + 1), U root, U ((headMark h).1), I a])] ?_
    refine runL_callV 40 (I (headCheck (⟨h.epoch + 1, root, (headMark h).1, a⟩ : HeadD))) (headCheck_con (⟨h.epoch + 1, root, (headMark h).1, a⟩ : HeadD) G) ?_
    refine runL_b [0] [(6, Pt b2 0), (10, Pt b3 0), (11, I (headCheck (⟨h.epoch + 1, root, (headMark h).1, a⟩ : HeadD)))] (runL_nil (tq_then ?_))
    refine tc_rb [0,0] [(6, Pt b2 0), (10, Pt b3 0), (11, I (headCheck (⟨h.epoch + 1, root, (headMark h).1, a⟩ : HeadD))), (42, Bo (!decide (headCheck (⟨h.epoch + 1, root, (headMark h).1, a⟩ : HeadD) = 0)))] ?_
    refine tc_cond (!decide (headCheck (⟨h.epoch + 1, root, (headMark h).1, a⟩ : HeadD) = 0)) (fun h4 => ?_) (fun h4 => ?_)
    ·
     try simp only [BB] at h4
     refine tc_rb [0,0,5,0] [(6, Pt b2 0), (7, I (headCheck (⟨h.epoch + 1, root, (headMark h).1, a⟩ : HeadD)))] (tc_ret (tq_then_ret ?_))
     refine tq_ret [1, 0] [.agg #[I 0, U 0, U 0, I 0], I (headCheck (⟨h.epoch + 1, root, (headMark h).1, a⟩ : HeadD))] (bp_ret (Mem.le_refl _) ?_)
     have hf_ : (headNext h root a) = ((⟨0, 0, 0, 0⟩ : HeadD), (headCheck (⟨h.epoch + 1, root, (headMark h).1, a⟩ : HeadD))) := by
      (try rw [headMark_err] at *); unfold headNext headNextE headZ; grind
     (try rw [hf_]); first | with_reducible rfl | (simp only [packR]; done) | rfl
    ·
     try simp only [BB] at h4
     refine tc_skip (tq_then ?_)
     refine tc_rbs [2,5,0] [(6, Pt b2 0), (7, I 0)] [[Sg b3 0 [I (h.epoch + 1), U root, U ((headMark h).1), I a]], [Sg b2 0 [I (h.epoch + 1), U root, U ((headMark h).1), I a]], [Sg b1 0 [I h.epoch, U h.root, U h.prev, I h.at_]]] ?_
     refine tc_ret ?_
     refine tq_ret [1, 0] [.agg #[I (h.epoch + 1), U root, U ((headMark h).1), I a], I 0] (bp_ret (Mem.le_refl _) ?_)
     have hf_ : (headNext h root a) = ((⟨h.epoch + 1, root, (headMark h).1, a⟩ : HeadD), 0) := by
      (try rw [headMark_err] at *); unfold headNext headNextE headZ; grind
     (try rw [hf_]); first | with_reducible rfl | (simp only [packR]; done) | rfl
end Go.Proofs.Ytmpakffajpnffaa
