import Derived.Test.YtmpakffajpnffaaGreatDoorVbHead
import Derived.Test.YtmpakffajpnffaaGreatDoorVbMark
import Derived.Test.YtmpakffajpnffaaGreatDoorVbQueue
namespace Go.Proofs.YtmpakffajpnffaaGreatDoor
open Go.Tx
set_option linter.unusedVariables false
set_option linter.unusedSimpArgs false
theorem le48 {n : Nat} (h : n ≤ 140737488351232) : n ≤ 140737488355328 := by omega
theorem headSaid_len (h : HeadD) : (headSaid h).1.length ≤ 33 := by
  unfold headSaid; split
  · simp
  · rw [headText_length]; exact Nat.le_refl _
theorem numB_len (n : Int) : (numB n).length = 8 := numB_length n
def headMark (h : HeadD) : Int × Int := if (headSaid h).2 ≠ 0 then (0, (headSaid h).2) else (markOf (headSaid h).1, 0)
def headNextE (h : HeadD) (root at_ : Int) : Int := if headCheck h ≠ 0 then headCheck h else if h.epoch = 1000000 then 7 else if at_ < h.at_ then 4 else headCheck ⟨h.epoch + 1, root, (headMark h).1, at_⟩
def headNext (h : HeadD) (root at_ : Int) : HeadD × Int := if headNextE h root at_ ≠ 0 then (headZ, headNextE h root at_) else (⟨h.epoch + 1, root, (headMark h).1, at_⟩, 0)
theorem headSaid_err (h : HeadD) : (headSaid h).2 = headCheck h := by unfold headSaid; split <;> simp_all
theorem headMark_err (h : HeadD) : (headMark h).2 = headCheck h := by unfold headMark; rw [headSaid_err]; split <;> simp_all
theorem headMark_bd (h : HeadD) : 0 ≤ (headMark h).1 ∧ (headMark h).1 < 2305843009213693951 := by
  unfold headMark; split
  · simp
  · exact markOf_bd _
theorem headSaid_ok {h : HeadD} (e : headCheck h = 0) : headSaid h = (headText h, 0) := by unfold headSaid; rw [if_neg (by omega)]
theorem headMark_ok {h : HeadD} (e : headCheck h = 0) : headMark h = (markOf (headText h), 0) := by
  unfold headMark; rw [headSaid_ok e]; simp
theorem headNext_ok {h : HeadD} {root at_ : Int} (e : (headNext h root at_).2 = 0) : headCheck h = 0 ∧ h.epoch < 1000000 ∧ h.at_ ≤ at_ ∧ headNext h root at_ = (⟨h.epoch + 1, root, markOf (headText h), at_⟩, 0) ∧ headCheck ⟨h.epoch + 1, root, markOf (headText h), at_⟩ = 0 := by
  unfold headNext at e ⊢
  split at e
  · contradiction
  · rename_i h1
    rw [if_neg h1]
    unfold headNextE at h1
    by_cases e1 : headCheck h = 0
    · rw [if_neg (by omega)] at h1
      have hb := headCheck_ok e1
      have hm := headMark_ok e1
      rw [hm] at h1 ⊢
      by_cases e2 : h.epoch = 1000000
      · rw [if_pos e2] at h1; simp at h1
      · rw [if_neg e2] at h1
        by_cases e3 : at_ < h.at_
        · rw [if_pos e3] at h1; simp at h1
        · rw [if_neg e3] at h1
          exact ⟨e1, by omega, by omega, rfl, by simpa using h1⟩
    · rw [if_pos e1] at h1; omega
def askZ : AskD := ⟨[], [], 0, 0⟩
def tagOf (key : Int) (s : List UInt8) : Int := markOf ((numB key ++ s) ++ numB key)
theorem tagOf_bd (k : Int) (s : List UInt8) : 0 ≤ tagOf k s ∧ tagOf k s < 18446744073709551616 := by have := markOf_bd ((numB k ++ s) ++ numB k); unfold tagOf; omega
def tagSaid (name value : List UInt8) (n : Int) : List UInt8 := numB n ++ (wPut [name, value]).1
def tagAsk (key : Int) (name value : List UInt8) (n : Int) : AskD × Int := if askRight name value ≠ 0 then (askZ, askRight name value) else (⟨name, value, n, tagOf key (tagSaid name value n)⟩, 0)
def tagHolds (key : Int) (a : AskD) : Bool := decide (askRight a.name a.value = 0) && decide (tagOf key (tagSaid a.name a.value a.n) = a.tag)
theorem wPut_len2 (l : List (List UInt8)) : (wPut l).1.length ≤ 600 := by
  unfold wPut
  split
  · simp
  · split
    · rename_i h
      have : ∀ (l : List (List UInt8)) (n : Nat), n ≤ 600 → putOk n l = true → n + (putT l).length ≤ 600 := by
        intro l
        induction l with
        | nil => intro n h _; simp [putT]; exact h
        | cons p l ih =>
          intro n _ h
          unfold putOk at h
          simp only [Bool.and_eq_true, decide_eq_true_eq] at h
          have := ih _ h.1 h.2
          have e : (putT (p :: l)).length = 2 + p.length + (putT l).length := by simp [putT, putC]; omega
          omega
      have := this l 0 (by omega) h
      simp only; omega
    · simp
theorem tagSaid_len (a b : List UInt8) (n : Int) : (tagSaid a b n).length ≤ 608 := by
  unfold tagSaid; rw [List.length_append, numB_len]; have := wPut_len2 [a, b]; omega
theorem headMark_con (G : Mem) (vs_h : List Value) (h : HeadD) (h_h : EHead.R G vs_h h)  : Con Tryz.prog 143 #[.agg vs_h.toArray] G [] (fun u G' L' => u = .tuple #[U ((headMark h).1), I ((headMark h).2)]) := by
 obtain ⟨rfl, w1, w2, w3, w4⟩ := h_h
 refine con_of Tryz.func143 16 [(0, .agg #[I h.epoch, U h.root, U h.prev, I h.at_])] rfl (fun w0 G0 => ?_)
 refine tc_seq (tc_region ?_)
 refine runL_box 1 #[I h.epoch, U h.root, U h.prev, I h.at_] 32 (fun b1 => ?_)
 refine runL_b [0,0] [(1, Pt b1 0)] (runL_nil (tq_then (tc_seq (tc_region ?_))))
 refine runL_b [2] [(7, .agg #[I h.epoch, U h.root, U h.prev, I h.at_])] ?_
 refine runL_callV 8 (.tuple #[Sr ((headSaid h).1), I ((headSaid h).2)]) (headSaid_con h G) ?_
 refine runL_b [0,0,0,0,0] [(4, Sr ((headSaid h).1)), (5, I ((headSaid h).2))] (runL_nil (tq_then (tc_seq ?_)))
 refine tc_rb [0,0] [(4, Sr ((headSaid h).1)), (5, I ((headSaid h).2)), (12, Bo (!decide ((headSaid h).2 = 0)))] ?_
 refine tc_cond (!decide ((headSaid h).2 = 0)) (fun h1 => ?_) (fun h1 => ?_)
 ·
  try simp only [BB] at h1
  refine tc_rb [0,0,0] [(2, U 0), (3, I ((headSaid h).2))] (tc_ret (tq_then_ret ?_))
  refine tq_ret [0, 0] [U 0, I ((headSaid h).2)] (bp_ret (Mem.le_refl _) ?_)
  have hf_ : (headMark h) = (0, ((headSaid h).2)) := by
   unfold headMark; simp_all
  (try rw [hf_]); first | with_reducible rfl | (simp only [packR]; done) | rfl
 ·
  try simp only [BB] at h1
  refine tc_skip (tq_then (tc_seq (tc_region ?_)))
  refine runL_b [0] [(14, Sr ((headSaid h).1))] ?_
  refine runL_callV 15 (U (markOf ((headSaid h).1))) (markOf_con ((headSaid h).1) (le48 (Nat.le_trans (headSaid_len h) (by decide))) G) ?_
  refine runL_b [0,0] [(2, U (markOf ((headSaid h).1))), (3, I 0)] (runL_nil (tq_then (tc_ret ?_)))
  refine tq_ret [0, 0] [U (markOf ((headSaid h).1)), I 0] (bp_ret (Mem.le_refl _) ?_)
  have hf_ : (headMark h) = ((markOf ((headSaid h).1)), 0) := by
   unfold headMark; simp_all
  (try rw [hf_]); first | with_reducible rfl | (simp only [packR]; done) | rfl
theorem headNext_con (G : Mem) (vs_h : List Value) (h : HeadD) (h_h : EHead.R G vs_h h) (root : Int) (hw_root : 0 ≤ root ∧ root < 18446744073709551616) (a : Int) (hw_a : -9223372036854775808 ≤ a ∧ a < 9223372036854775808)  : Con Tryz.prog 104 #[.agg vs_h.toArray, U root, I a] G [] (fun u G' L' => u = .tuple #[.agg #[I (((headNext h root a).1).epoch), U (((headNext h root a).1).root), U (((headNext h root a).1).prev), I (((headNext h root a).1).at_)], I ((headNext h root a).2)]) := by
 obtain ⟨rfl, w1, w2, w3, w4⟩ := h_h
 refine con_of Tryz.func104 46 [(0, .agg #[I h.epoch, U h.root, U h.prev, I h.at_]), (1, U root), (2, I a)] rfl (fun w0 G0 => ?_)
 refine tc_seq (tc_region ?_)
 refine runL_box 3 #[I h.epoch, U h.root, U h.prev, I h.at_] 32 (fun b1 => ?_)
 refine runL_box 6 #[I 0, U 0, U 0, I 0] 32 (fun b2 => ?_)
 refine runL_b [0] [(1, U root), (2, I a), (3, Pt b1 0), (6, Pt b2 0)] (runL_nil (tq_then (tc_seq (tc_region ?_))))
 refine runL_b [4] [(1, U root), (2, I a), (3, Pt b1 0), (6, Pt b2 0), (13, .agg #[I h.epoch, U h.root, U h.prev, I h.at_])] ?_
 refine runL_callV 14 (.tuple #[U ((headMark h).1), I ((headMark h).2)]) (headMark_con G [I h.epoch, U h.root, U h.prev, I h.at_] h (⟨rfl, w1, w2, w3, w4⟩)) ?_
 refine runL_b [0,0,0,0,0] [(1, U root), (2, I a), (3, Pt b1 0), (6, Pt b2 0), (8, U ((headMark h).1)), (9, I ((headMark h).2))] (runL_nil (tq_then (tc_seq (tc_block ?_))))
 refine tc_rb [0,0,0] [(1, U root), (2, I a), (3, Pt b1 0), (6, Pt b2 0), (8, U ((headMark h).1)), (9, I ((headMark h).2)), (17, Bo (!decide ((headMark h).2 = 0)))] ?_
 refine tc_cond (!decide ((headMark h).2 = 0)) (fun h1 => ?_) (fun h1 => ?_)
 ·
  try simp only [BB] at h1
  refine tc_rb [0,0,3,0] [(6, Pt b2 0), (7, I ((headMark h).2))] (tc_ret (tq_block_ret (tq_then_ret ?_)))
  refine tq_ret [0, 0] [.agg #[I 0, U 0, U 0, I 0], I ((headMark h).2)] (bp_ret (Mem.le_refl _) ?_)
  have hf_ : (headNext h root a) = ((⟨0, 0, 0, 0⟩ : HeadD), ((headMark h).2)) := by
   (try rw [headMark_err] at *); unfold headNext headNextE headZ; grind
  (try rw [hf_]); first | with_reducible rfl | (simp only [packR]; done) | rfl
 ·
  try simp only [BB] at h1
  refine tc_rb [0,4,0,0] [(1, U root), (2, I a), (3, Pt b1 0), (6, Pt b2 0), (8, U ((headMark h).1)), (22, Bo (decide (h.epoch = 1000000)))] ?_
  refine tc_cond (decide (h.epoch = 1000000)) (fun h2 => ?_) (fun h2 => ?_)
  ·
   try simp only [BB] at h2
   refine tc_rb [0,3,0] [(6, Pt b2 0), (7, I 7)] (tc_ret (tq_block_ret (tq_then_ret ?_)))
   refine tq_ret [0, 0] [.agg #[I 0, U 0, U 0, I 0], I 7] (bp_ret (Mem.le_refl _) ?_)
   have hf_ : (headNext h root a) = ((⟨0, 0, 0, 0⟩ : HeadD), 7) := by
    (try rw [headMark_err] at *); unfold headNext headNextE headZ; grind
   (try rw [hf_]); first | with_reducible rfl | (simp only [packR]; done) | rfl
  ·
   try simp only [BB] at h2
   refine tc_skip (tq_block (tq_then (tc_seq (tc_region ?_))))
   refine runL_b [0,4,0,0,0,0,0] [(2, I a), (3, Pt b1 0), (6, Pt b2 0), (33, .agg #[I (IntKind.i64.wrap (h.epoch + 1)), U root, U ((headMark h).1), I a])] ?_
   have e1 : IntKind.i64.wrap (h.epoch + 1) = h.epoch + 1 := IntWalk.i64_in _ (by have := headCheck_ok (h := h) (by rw [← headMark_err]; assumption); omega)
   refine runL_eq (fr' := [(2, I a), (3, Pt b1 0), (6, Pt b2 0), (33, .agg #[I (h.epoch + 1), U root, U ((headMark h).1), I a])]) (L' := [[Sg b2 0 [I 0, U 0, U 0, I 0]], [Sg b1 0 [I h.epoch, U h.root, U h.prev, I h.at_]]]) (by simp only [e1]) (by rfl) ?_
   clear e1
   refine runL_box 10 #[I 0, U 0, U 0, I 0] 32 (fun b3 => ?_)
   refine runL_bs [3] [(2, I a), (3, Pt b1 0), (6, Pt b2 0), (10, Pt b3 0)] [[Sg b3 0 [I (h.epoch + 1), U root, U ((headMark h).1), I a]], [Sg b2 0 [I 0, U 0, U 0, I 0]], [Sg b1 0 [I h.epoch, U h.root, U h.prev, I h.at_]]] (runL_nil (tq_then (tc_seq ?_)))
   refine tc_rb [0,0,6,0] [(6, Pt b2 0), (10, Pt b3 0), (37, Bo (decide (a < h.at_)))] ?_
   refine tc_cond (decide (a < h.at_)) (fun h3 => ?_) (fun h3 => ?_)
   ·
    try simp only [BB] at h3
    refine tc_rb [0,5,0] [(6, Pt b2 0), (7, I 4)] (tc_ret (tq_then_ret ?_))
    refine tq_ret [1, 0] [.agg #[I 0, U 0, U 0, I 0], I 4] (bp_ret (Mem.le_refl _) ?_)
    have hf_ : (headNext h root a) = ((⟨0, 0, 0, 0⟩ : HeadD), 4) := by
     (try rw [headMark_err] at *); unfold headNext headNextE headZ; grind
    (try rw [hf_]); first | with_reducible rfl | (simp only [packR]; done) | rfl
   ·
    try simp only [BB] at h3
    refine tc_skip (tq_then (tc_seq (tc_seq (tc_region ?_))))
    refine runL_b [2] [(6, Pt b2 0), (10, Pt b3 0), (39, .agg #[I (h.epoch + 1), U root, U ((headMark h).1), I a])] ?_
    refine runL_callV 40 (I (headCheck (⟨h.epoch + 1, root, (headMark h).1, a⟩ : HeadD))) (headCheck_con (⟨h.epoch + 1, root, (headMark h).1, a⟩ : HeadD) G) ?_
    refine runL_b [0] [(6, Pt b2 0), (10, Pt b3 0), (11, I (headCheck (⟨h.epoch + 1, root, (headMark h).1, a⟩ : HeadD)))] (runL_nil (tq_then ?_))
    refine tc_rb [0,0] [(6, Pt b2 0), (10, Pt b3 0), (11, I (headCheck (⟨h.epoch + 1, root, (headMark h).1, a⟩ : HeadD))), (42, Bo (!decide (headCheck (⟨h.epoch + 1, root, (headMark h).1, a⟩ : HeadD) = 0)))] ?_
    refine tc_cond (!decide (headCheck (⟨h.epoch + 1, root, (headMark h).1, a⟩ : HeadD) = 0)) (fun h4 => ?_) (fun h4 => ?_)
    ·
     try simp only [BB] at h4
     refine tc_rb [0,0,5,0] [(6, Pt b2 0), (7, I (headCheck (⟨h.epoch + 1, root, (headMark h).1, a⟩ : HeadD)))] (tc_ret (tq_then_ret ?_))
     refine tq_ret [1, 0] [.agg #[I 0, U 0, U 0, I 0], I (headCheck (⟨h.epoch + 1, root, (headMark h).1, a⟩ : HeadD))] (bp_ret (Mem.le_refl _) ?_)
     have hf_ : (headNext h root a) = ((⟨0, 0, 0, 0⟩ : HeadD), (headCheck (⟨h.epoch + 1, root, (headMark h).1, a⟩ : HeadD))) := by
      (try rw [headMark_err] at *); unfold headNext headNextE headZ; grind
     (try rw [hf_]); first | with_reducible rfl | (simp only [packR]; done) | rfl
    ·
     try simp only [BB] at h4
     refine tc_skip (tq_then ?_)
     refine tc_rbs [2,5,0] [(6, Pt b2 0), (7, I 0)] [[Sg b3 0 [I (h.epoch + 1), U root, U ((headMark h).1), I a]], [Sg b2 0 [I (h.epoch + 1), U root, U ((headMark h).1), I a]], [Sg b1 0 [I h.epoch, U h.root, U h.prev, I h.at_]]] ?_
     refine tc_ret ?_
     refine tq_ret [1, 0] [.agg #[I (h.epoch + 1), U root, U ((headMark h).1), I a], I 0] (bp_ret (Mem.le_refl _) ?_)
     have hf_ : (headNext h root a) = ((⟨h.epoch + 1, root, (headMark h).1, a⟩ : HeadD), 0) := by
      (try rw [headMark_err] at *); unfold headNext headNextE headZ; grind
     (try rw [hf_]); first | with_reducible rfl | (simp only [packR]; done) | rfl
theorem askRight_con (G : Mem) (name : List UInt8) (value : List UInt8)  : Con Tryz.prog 129 #[Sr name, Sr value] G [] (fun u G' L' => u = I (askRight name value)) := by
 refine con_of Tryz.func129 13 [(0, Sr name), (1, Sr value)] rfl (fun w0 G0 => ?_)
 refine tc_rb [0] [(0, Sr name), (1, Sr value)] (tc_seq (tc_block (tc_seq (tc_region ?_))))
 refine runL_b [0] [(1, Sr value), (6, Sr name)] ?_
 refine runL_callV 7 (Bo (pathName name)) (pathName_con G name) ?_
 refine runL_b [0,0] [(1, Sr value), (5, Bo (!(pathName name)))] (runL_nil (tq_then ?_))
 refine tc_cond (!(pathName name)) (fun h1 => ?_) (fun h1 => ?_)
 ·
  try simp only [BB] at h1
  refine tc_rb [0] [(4, I 3)] (tc_ret (tq_block_ret (tq_then_ret ?_)))
  refine tq_ret [0] [I 3] (bp_ret (Mem.le_refl _) ?_)
  have hf_ : (askRight name value) = 3 := by
   unfold askRight; simp_all; try omega
  (try rw [hf_]); first | with_reducible rfl | (simp only [packR]; done) | rfl
 ·
  try simp only [BB] at h1
  refine tc_rb [0,0,0,0] [(9, Bo (decide (((value).length : Int) > 20)))] ?_
  refine tc_cond (decide (((value).length : Int) > 20)) (fun h2 => ?_) (fun h2 => ?_)
  ·
   try simp only [BB] at h2
   refine tc_rb [0] [(4, I 2)] (tc_ret (tq_block_ret (tq_then_ret ?_)))
   refine tq_ret [0] [I 2] (bp_ret (Mem.le_refl _) ?_)
   have hf_ : (askRight name value) = 2 := by
    unfold askRight; simp_all; try omega
   (try rw [hf_]); first | with_reducible rfl | (simp only [packR]; done) | rfl
  ·
   try simp only [BB] at h2
   refine tc_skip (tq_block (tq_then ?_))
   refine tc_rb [0] [(4, I 0)] (tc_ret ?_)
   refine tq_ret [0] [I 0] (bp_ret (Mem.le_refl _) ?_)
   have hf_ : (askRight name value) = 0 := by
    unfold askRight; simp_all; try omega
   (try rw [hf_]); first | with_reducible rfl | (simp only [packR]; done) | rfl
theorem tagOf_con (G : Mem) (key : Int) (s : List UInt8) (hs : s.length ≤ 1000000) : Con Tryz.prog 130 #[U key, Sr s] G [] (fun u G' L' => u = U (tagOf key s)) := by
 refine con_of Tryz.func130 13 [(0, U key), (1, Sr s)] rfl (fun w0 G0 => ?_)
 refine tc_rb [0] [(0, U key), (1, Sr s)] (tc_seq (tc_region ?_))
 refine runL_b [0] [(0, U key), (1, Sr s), (5, U key)] ?_
 refine runL_callV 6 (Sr (numB key)) (num_con key G) ?_
 refine runL_b [0] [(0, U key), (6, Sr (numB key)), (7, Sr s)] ?_
 refine runL_cat 8 (numB key) s (by simp only [List.length_append, numB_len]; omega) ?_
 refine runL_b [0] [(8, Sr ((numB key) ++ s)), (9, U key)] ?_
 refine runL_callV 10 (Sr (numB key)) (num_con key G) ?_
 refine runL_cat 11 ((numB key) ++ s) (numB key) (by simp only [List.length_append, numB_len]; omega) ?_
 refine runL_callV 12 (U (markOf (((numB key) ++ s) ++ (numB key)))) (markOf_con (((numB key) ++ s) ++ (numB key)) (le48 (by first | assumption | omega | (simp; done) | (simp; omega))) G) ?_
 refine runL_b [0] [(4, U (markOf (((numB key) ++ s) ++ (numB key))))] (runL_nil (tq_then (tc_ret ?_)))
 refine tq_ret [0] [U (markOf (((numB key) ++ s) ++ (numB key)))] (bp_ret (Mem.le_refl _) ?_)
 have hf_ : (tagOf key s) = (markOf (((numB key) ++ s) ++ (numB key))) := by
  rfl
 (try rw [hf_]); first | with_reducible rfl | (simp only [packR]; done) | rfl
theorem tagSaid_con (G : Mem) (name : List UInt8) (hw_name : (name).length ≤ 140737488351232) (value : List UInt8) (hw_value : (value).length ≤ 140737488351232) (n : Int)  : Con Tryz.prog 131 #[Sr name, Sr value, U n] G [] (fun u G' L' => u = Sr (tagSaid name value n)) := by
 refine con_of Tryz.func131 20 [(0, Sr name), (1, Sr value), (2, U n)] rfl (fun w0 G0 => ?_)
 refine tc_rb [0] [(0, Sr name), (1, Sr value), (2, U n)] (tc_seq (tc_region ?_))
 refine runL_b [0,0] [(2, U n), (10, Sr name), (11, Sr value)] ?_
 refine runL_bsl 12 2 #[Sr name, Sr value] 9 (fun b1 => ?_)
 refine runL_frz1 (b := b1) (o := 0) (cs := [Sr name, Sr value]) 0 (fun G1 hl1 hz1 => ?_)
 have hs1 : RS ES G1 (At b1 0) 2 [name, value] := RS.lit [[Sr name], [Sr value]] [name, value] ⟨⟨rfl, hw_name⟩, ⟨⟨rfl, hw_value⟩, trivial⟩⟩ hz1 (Nat.le_of_ble_eq_true rfl) (Nat.le_of_ble_eq_true rfl)
 refine runL_callV 13 (.tuple #[Sr ((wPut ([name, value])).1), I ((wPut ([name, value])).2)]) (wPut_con G1 (At b1 0) 2 ([name, value]) hs1) ?_
 refine runL_b [0,0,0,0,0] [(2, U n), (7, Sr ((wPut ([name, value])).1))] (runL_nil (tq_then (tc_seq (tc_region ?_))))
 refine runL_b [0] [(7, Sr ((wPut ([name, value])).1)), (16, U n)] ?_
 refine runL_callV 17 (Sr (numB n)) (num_con n G1) ?_
 refine runL_b [0] [(17, Sr (numB n)), (18, Sr ((wPut ([name, value])).1))] ?_
 refine runL_cat 19 (numB n) ((wPut ([name, value])).1) (by have := wPut_len2 [name, value]; simp only [numB_len]; omega) ?_
 refine runL_b [0] [(6, Sr ((numB n) ++ ((wPut ([name, value])).1)))] (runL_nil (tq_then (tc_ret ?_)))
 refine tq_ret [0] [Sr ((numB n) ++ ((wPut ([name, value])).1))] (bp_ret hl1 ?_)
 have hf_ : (tagSaid name value n) = (numB n) ++ ((wPut ([name, value])).1) := by
  rfl
 (try rw [hf_]); first | with_reducible rfl | (simp only [packR]; done) | rfl
theorem tagAsk_con (G : Mem) (key : Int) (name : List UInt8) (hw_name : (name).length ≤ 140737488351232) (value : List UInt8) (hw_value : (value).length ≤ 140737488351232) (n : Int) (hw_n : 0 ≤ n ∧ n < 18446744073709551616)  : Con Tryz.prog 86 #[U key, Sr name, Sr value, U n] G [] (fun u G' L' => u = .tuple #[.agg #[Sr (((tagAsk key name value n).1).name), Sr (((tagAsk key name value n).1).value), U (((tagAsk key name value n).1).n), U (((tagAsk key name value n).1).tag)], I ((tagAsk key name value n).2)] ∧ ((((tagAsk key name value n).1).name).length ≤ 140737488351232) ∧ ((((tagAsk key name value n).1).value).length ≤ 140737488351232) ∧ (0 ≤ (((tagAsk key name value n).1).n) ∧ (((tagAsk key name value n).1).n) < 18446744073709551616) ∧ (0 ≤ (((tagAsk key name value n).1).tag) ∧ (((tagAsk key name value n).1).tag) < 18446744073709551616) ∧ L' = []) := by
 refine con_of Tryz.func86 28 [(0, U key), (1, Sr name), (2, Sr value), (3, U n)] rfl (fun w0 G0 => ?_)
 refine tc_seq (tc_region ?_)
 refine runL_box 8 #[Sr ([]), Sr ([]), U 0, U 0] 54 (fun b1 => ?_)
 refine runL_b [0] [(0, U key), (1, Sr name), (2, Sr value), (3, U n), (8, Pt b1 0)] (runL_nil (tq_then (tc_seq (tc_seq (tc_region ?_)))))
 refine runL_b [0,0] [(0, U key), (1, Sr name), (2, Sr value), (3, U n), (8, Pt b1 0), (11, Sr name), (12, Sr value)] ?_
 refine runL_callV 13 (I (askRight name value)) (askRight_con G name value) ?_
 refine runL_b [0] [(0, U key), (1, Sr name), (2, Sr value), (3, U n), (8, Pt b1 0), (10, I (askRight name value))] (runL_nil (tq_then ?_))
 refine tc_rb [0,0] [(0, U key), (1, Sr name), (2, Sr value), (3, U n), (8, Pt b1 0), (10, I (askRight name value)), (15, Bo (!decide (askRight name value = 0)))] ?_
 refine tc_cond (!decide (askRight name value = 0)) (fun h1 => ?_) (fun h1 => ?_)
 ·
  try simp only [BB] at h1
  refine tc_rb [0,0,3,0] [(8, Pt b1 0), (9, I (askRight name value))] (tc_ret (tq_then_ret ?_))
  have hf1 : tagAsk key name value n = ((⟨[], [], 0, 0⟩ : AskD), askRight name value) := by
   unfold tagAsk askZ; simp_all
  refine tq_ret [0, 0] [.agg #[Sr ([]), Sr ([]), U 0, U 0], I (askRight name value)] (bp_rows [] (.cons _ .slnil) (Mem.le_refl _) ?_)
  rw [hf1]
  try dsimp only
  exact ⟨rfl, (Nat.le_of_ble_eq_true rfl), (Nat.le_of_ble_eq_true rfl), (by first | assumption | omega | (simp; done) | (simp; omega)), (by first | assumption | omega | (simp; done) | (simp; omega)), rfl⟩
 ·
  try simp only [BB] at h1
  refine tc_skip (tq_then (tc_seq (tc_region ?_)))
  refine runL_b [0,0,0,0,0,0,0] [(8, Pt b1 0), (18, Sr name), (19, Sr value), (20, U n), (21, U key), (22, Sr name), (23, Sr value), (24, U n)] ?_
  refine runL_callV 25 (Sr (tagSaid name value n)) (tagSaid_con G name hw_name value hw_value n) ?_
  refine runL_callV 26 (U (tagOf key (tagSaid name value n))) (tagOf_con G key (tagSaid name value n) (Nat.le_trans (tagSaid_len name value n) (by decide))) ?_
  refine runL_bs [0,3,0] [(8, Pt b1 0), (9, I 0)] [[Sg b1 0 [Sr name, Sr value, U n, U (tagOf key (tagSaid name value n))]]] (runL_nil (tq_then (tc_ret ?_)))
  have hf2 : tagAsk key name value n = ((⟨name, value, n, tagOf key (tagSaid name value n)⟩ : AskD), 0) := by
   unfold tagAsk askZ; simp_all
  refine tq_ret [0, 0] [.agg #[Sr name, Sr value, U n, U (tagOf key (tagSaid name value n))], I 0] (bp_rows [] (.cons _ .slnil) (Mem.le_refl _) ?_)
  rw [hf2]
  try dsimp only
  exact ⟨rfl, hw_name, hw_value, hw_n, (tagOf_bd _ _), rfl⟩
end Go.Proofs.YtmpakffajpnffaaGreatDoor
