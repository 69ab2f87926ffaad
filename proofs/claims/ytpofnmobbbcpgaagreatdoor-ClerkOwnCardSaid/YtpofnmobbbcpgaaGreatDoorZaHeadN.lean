import Derived.Test.YtpofnmobbbcpgaaGreatDoorZaHead
import Derived.Test.YtpofnmobbbcpgaaGreatDoorZaMark
import Derived.Test.YtpofnmobbbcpgaaGreatDoorZaQueue
namespace Go.Proofs.YtpofnmobbbcpgaaGreatDoor
open Go.Tx
set_option linter.unusedVariables false
set_option linter.unusedSimpArgs false
theorem le48 {n : Nat} (h : n ≤ 140737488351232) : n ≤ 140737488355328 := by omega
theorem headSaid_len (h : HeadD) : (headSaid h).1.length ≤ 33 := by
  unfold headSaid; split
  · simp
  · rw [headText_length]; exact Nat.le_refl _
def headMark (h : HeadD) : Int × Int := if (headSaid h).2 ≠ 0 then (0, (headSaid h).2) else (markOf (headSaid h).1, 0)
def headNextE (h : HeadD) (root at_ : Int) : Int := if headCheck h ≠ 0 then headCheck h else if h.epoch = 1000000 then 7 else if at_ < h.at_ then 4 else headCheck ⟨h.epoch + 1, root, (headMark h).1, at_⟩
def headNext (h : HeadD) (root at_ : Int) : HeadD × Int := if headNextE h root at_ ≠ 0 then (headZ, headNextE h root at_) else (⟨h.epoch + 1, root, (headMark h).1, at_⟩, 0)
theorem headSaid_err (h : HeadD) : (headSaid h).2 = headCheck h := by unfold headSaid; split <;> simp_all
theorem headMark_err (h : HeadD) : (headMark h).2 = headCheck h := by unfold headMark; rw [headSaid_err]; split <;> simp_all
theorem headMark_bd (h : HeadD) : 0 ≤ (headMark h).1 ∧ (headMark h).1 < 2305843009213693951 := by
  unfold headMark; split
  · simp
  · exact markOf_bd _
theorem headSaid_ok {h : HeadD} (e : headCheck h = 0) : headSaid h = (headText h, 0) := by unfold headSaid; rw [if_neg (by omega)]
theorem headMark_ok {h : HeadD} (e : headCheck h = 0) : headMark h = (markOf (headText h), 0) := by
  unfold headMark; rw [headSaid_ok e]; simp
theorem headNext_ok {h : HeadD} {root at_ : Int} (e : (headNext h root at_).2 = 0) : headCheck h = 0 ∧ h.epoch < 1000000 ∧ h.at_ ≤ at_ ∧ headNext h root at_ = (⟨h.epoch + 1, root, markOf (headText h), at_⟩, 0) ∧ headCheck ⟨h.epoch + 1, root, markOf (headText h), at_⟩ = 0 := by
  unfold headNext at e ⊢
  split at e
  · contradiction
  · rename_i h1
    rw [if_neg h1]
    unfold headNextE at h1
    by_cases e1 : headCheck h = 0
    · rw [if_neg (by omega)] at h1
      have hb := headCheck_ok e1
      have hm := headMark_ok e1
      rw [hm] at h1 ⊢
      by_cases e2 : h.epoch = 1000000
      · rw [if_pos e2] at h1; simp at h1
      · rw [if_neg e2] at h1
        by_cases e3 : at_ < h.at_
        · rw [if_pos e3] at h1; simp at h1
        · rw [if_neg e3] at h1
          exact ⟨e1, by omega, by omega, rfl, by simpa using h1⟩
    · rw [if_pos e1] at h1; omega
theorem wPut_len2 (l : List (List UInt8)) : (wPut l).1.length ≤ 600 := by
  unfold wPut
  split
  · simp
  · split
    · rename_i h
      have : ∀ (l : List (List UInt8)) (n : Nat), n ≤ 600 → putOk n l = true → n + (putT l).length ≤ 600 := by
        intro l
        induction l with
        | nil => intro n h _; simp [putT]; exact h
        | cons p l ih =>
          intro n _ h
          unfold putOk at h
          simp only [Bool.and_eq_true, decide_eq_true_eq] at h
          have := ih _ h.1 h.2
          have e : (putT (p :: l)).length = 2 + p.length + (putT l).length := by simp [putT, putC]; omega
          omega
      have := this l 0 (by omega) h
      simp only; omega
    · simp
theorem headMark_con (G : Mem) (vs_h : List Value) (h : HeadD) (h_h : EHead.R G vs_h h)  : ConV 87 #[.agg vs_h.toArray] G (.tuple #[U ((headMark h).1), I ((headMark h).2)]) := by
 obtain ⟨rfl, w1, w2, w3, w4⟩ := h_h
 refine con_of Tryz.func87 16 [(0, .agg #[I h.epoch, U h.root, U h.prev, I h.at_])] rfl (fun w0 G0 => ?_)
 refine tc_seq (tc_region ?_)
 refine runL_box 1 #[I h.epoch, U h.root, U h.prev, I h.at_] 24 (fun b1 => ?_)
 refine runL_bn [0,0] [] (runL_nil (tq_then (tc_seq (tc_region ?_))))
 refine runL_bn [2] [(7, .agg #[I h.epoch, U h.root, U h.prev, I h.at_])] ?_
 refine runL_callV 8 (.tuple #[Sr ((headSaid h).1), I ((headSaid h).2)]) (headSaid_con h G) ?_
 refine runL_bn [0,0,0,0,0] [(4, Sr ((headSaid h).1)), (5, I ((headSaid h).2))] (runL_nil (tq_then (tc_seq ?_)))
 refine tc_rbn [0,0] [(12, Bo (!decide ((headSaid h).2 = 0)))] ?_
 refine tc_condP (!decide ((headSaid h).2 = 0)) (fun h1 => ?_) (fun h1 => ?_)
 ·
  refine tc_rbn [0,0,0] [(2, U 0), (3, I ((headSaid h).2))] (tc_ret (tq_then_ret ?_))
  refine tq_ret [0, 0] [U 0, I ((headSaid h).2)] (bp_ret (Mem.le_refl _) ?_)
  have hf_ : (headMark h) = (0, ((headSaid h).2)) := by
   unfold headMark; simp_all
  (try rw [hf_]); first | with_reducible rfl | (simp only [packR]; done) | rfl
 ·
  refine tc_skip (tq_then (tc_seq (tc_region ?_)))
  refine runL_bn [0] [(14, Sr ((headSaid h).1))] ?_
  refine runL_callV 15 (U (markOf ((headSaid h).1))) (markOf_con ((headSaid h).1) (le48 (Nat.le_trans (headSaid_len h) (by decide))) G) ?_
  refine runL_bn [0,0] [(2, U (markOf ((headSaid h).1))), (3, I 0)] (runL_nil (tq_then (tc_ret ?_)))
  refine tq_ret [0, 0] [U (markOf ((headSaid h).1)), I 0] (bp_ret (Mem.le_refl _) ?_)
  have hf_ : (headMark h) = ((markOf ((headSaid h).1)), 0) := by
   unfold headMark; simp_all
  (try rw [hf_]); first | with_reducible rfl | (simp only [packR]; done) | rfl
theorem headNext_con (G : Mem) (vs_h : List Value) (h : HeadD) (h_h : EHead.R G vs_h h) (root : Int) (hw_root : 0 ≤ root ∧ root < 18446744073709551616) (a : Int) (hw_a : -9223372036854775808 ≤ a ∧ a < 9223372036854775808)  : ConV 62 #[.agg vs_h.toArray, U root, I a] G (.tuple #[.agg #[I (((headNext h root a).1).epoch), U (((headNext h root a).1).root), U (((headNext h root a).1).prev), I (((headNext h root a).1).at_)], I ((headNext h root a).2)]) := by
 obtain ⟨rfl, w1, w2, w3, w4⟩ := h_h
 refine con_of Tryz.func62 46 [(0, .agg #[I h.epoch, U h.root, U h.prev, I h.at_]), (1, U root), (2, I a)] rfl (fun w0 G0 => ?_)
 refine tc_seq (tc_region ?_)
 refine runL_box 3 #[I h.epoch, U h.root, U h.prev, I h.at_] 24 (fun b1 => ?_)
 refine runL_box 6 #[I 0, U 0, U 0, I 0] 24 (fun b2 => ?_)
 refine runL_bn [0] [] (runL_nil (tq_then (tc_seq (tc_region ?_))))
 refine runL_bn [4] [(13, .agg #[I h.epoch, U h.root, U h.prev, I h.at_])] ?_
 refine runL_callV 14 (.tuple #[U ((headMark h).1), I ((headMark h).2)]) (headMark_con G [I h.epoch, U h.root, U h.prev, I h.at_] h (⟨rfl, w1, w2, w3, w4⟩)) ?_
 refine runL_bn [0,0,0,0,0] [(8, U ((headMark h).1)), (9, I ((headMark h).2))] (runL_nil (tq_then (tc_seq (tc_block ?_))))
 refine tc_rbn [0,0,0] [(17, Bo (!decide ((headMark h).2 = 0)))] ?_
 refine tc_condP (!decide ((headMark h).2 = 0)) (fun h1 => ?_) (fun h1 => ?_)
 ·
  refine tc_rbn [0,0,3,0] [(7, I ((headMark h).2))] (tc_ret (tq_block_ret (tq_then_ret ?_)))
  refine tq_ret [0, 0] [.agg #[I 0, U 0, U 0, I 0], I ((headMark h).2)] (bp_ret (Mem.le_refl _) ?_)
  have hf_ : (headNext h root a) = ((⟨0, 0, 0, 0⟩ : HeadD), ((headMark h).2)) := by
   (try rw [headMark_err] at *); unfold headNext headNextE headZ; grind
  (try rw [hf_]); first | with_reducible rfl | (simp only [packR]; done) | rfl
 ·
  refine tc_rbn [0,4,0,0] [(22, Bo (decide (h.epoch = 1000000)))] ?_
  refine tc_condP (decide (h.epoch = 1000000)) (fun h2 => ?_) (fun h2 => ?_)
  ·
   refine tc_rbn [0,3,0] [(7, I 7)] (tc_ret (tq_block_ret (tq_then_ret ?_)))
   refine tq_ret [0, 0] [.agg #[I 0, U 0, U 0, I 0], I 7] (bp_ret (Mem.le_refl _) ?_)
   have hf_ : (headNext h root a) = ((⟨0, 0, 0, 0⟩ : HeadD), 7) := by
    (try rw [headMark_err] at *); unfold headNext headNextE headZ; grind
   (try rw [hf_]); first | with_reducible rfl | (simp only [packR]; done) | rfl
  ·
   refine tc_skip (tq_block (tq_then (tc_seq (tc_region ?_))))
   refine runL_bn [0,4,0,0,0,0,0] [(33, .agg #[I (IntKind.i64.wrap (h.epoch + 1)), U root, U ((headMark h).1), I a])] ?_
   have e1 : IntKind.i64.wrap (h.epoch + 1) = h.epoch + 1 := IntWalk.i64_in _ (by have := headCheck_ok (h := h) (by rw [← headMark_err]; assumption); omega)
   refine runL_put 33 (.agg #[I (h.epoch + 1), U root, U ((headMark h).1), I a]) (show (.agg #[I (IntKind.i64.wrap (h.epoch + 1)), U root, U ((headMark h).1), I a] : Value) = .agg #[I (h.epoch + 1), U root, U ((headMark h).1), I a] by simp only [e1]) ?_
   clear e1
   refine runL_box 10 #[I 0, U 0, U 0, I 0] 24 (fun b3 => ?_)
   refine runL_bsn [3] [] [[Sg b3 0 [I (h.epoch + 1), U root, U ((headMark h).1), I a]], [Sg b2 0 [I 0, U 0, U 0, I 0]], [Sg b1 0 [I h.epoch, U h.root, U h.prev, I h.at_]]] (runL_nil (tq_then (tc_seq ?_)))
   refine tc_rbn [0,0,6,0] [(37, Bo (decide (a < h.at_)))] ?_
   refine tc_condP (decide (a < h.at_)) (fun h3 => ?_) (fun h3 => ?_)
   ·
    refine tc_rbn [0,5,0] [(7, I 4)] (tc_ret (tq_then_ret ?_))
    refine tq_ret [1, 0] [.agg #[I 0, U 0, U 0, I 0], I 4] (bp_ret (Mem.le_refl _) ?_)
    have hf_ : (headNext h root a) = ((⟨0, 0, 0, 0⟩ : HeadD), 4) := by
     (try rw [headMark_err] at *); unfold headNext headNextE headZ; grind
    (try rw [hf_]); first | with_reducible rfl | (simp only [packR]; done) | rfl
   ·
    refine tc_skip (tq_then (tc_seq (tc_seq (tc_region ?_))))
    refine runL_bn [2] [(39, .agg #[I (h.epoch + 1), U root, U ((headMark h).1), I a])] ?_
    refine runL_callV 40 (I (headCheck (⟨h.epoch + 1, root, (headMark h).1, a⟩ : HeadD))) (headCheck_con (⟨h.epoch + 1, root, (headMark h).1, a⟩ : HeadD) G) ?_
    refine runL_bn [0] [(11, I (headCheck (⟨h.epoch + 1, root, (headMark h).1, a⟩ : HeadD)))] (runL_nil (tq_then ?_))
    refine tc_rbn [0,0] [(42, Bo (!decide (headCheck (⟨h.epoch + 1, root, (headMark h).1, a⟩ : HeadD) = 0)))] ?_
    refine tc_condP (!decide (headCheck (⟨h.epoch + 1, root, (headMark h).1, a⟩ : HeadD) = 0)) (fun h4 => ?_) (fun h4 => ?_)
    ·
     refine tc_rbn [0,0,5,0] [(7, I (headCheck (⟨h.epoch + 1, root, (headMark h).1, a⟩ : HeadD)))] (tc_ret (tq_then_ret ?_))
     refine tq_ret [1, 0] [.agg #[I 0, U 0, U 0, I 0], I (headCheck (⟨h.epoch + 1, root, (headMark h).1, a⟩ : HeadD))] (bp_ret (Mem.le_refl _) ?_)
     have hf_ : (headNext h root a) = ((⟨0, 0, 0, 0⟩ : HeadD), (headCheck (⟨h.epoch + 1, root, (headMark h).1, a⟩ : HeadD))) := by
      (try rw [headMark_err] at *); unfold headNext headNextE headZ; grind
     (try rw [hf_]); first | with_reducible rfl | (simp only [packR]; done) | rfl
    ·
     refine tc_skip (tq_then ?_)
     refine tc_rbsn [2,5,0] [(7, I 0)] [[Sg b3 0 [I (h.epoch + 1), U root, U ((headMark h).1), I a]], [Sg b2 0 [I (h.epoch + 1), U root, U ((headMark h).1), I a]], [Sg b1 0 [I h.epoch, U h.root, U h.prev, I h.at_]]] (tc_ret ?_)
     refine tq_ret [1, 0] [.agg #[I (h.epoch + 1), U root, U ((headMark h).1), I a], I 0] (bp_ret (Mem.le_refl _) ?_)
     have hf_ : (headNext h root a) = ((⟨h.epoch + 1, root, (headMark h).1, a⟩ : HeadD), 0) := by
      (try rw [headMark_err] at *); unfold headNext headNextE headZ; grind
     (try rw [hf_]); first | with_reducible rfl | (simp only [packR]; done) | rfl
end Go.Proofs.YtpofnmobbbcpgaaGreatDoor
