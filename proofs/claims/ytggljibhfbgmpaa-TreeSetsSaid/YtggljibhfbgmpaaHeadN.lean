import Derived.Test.YtggljibhfbgmpaaHead
import Derived.Test.YtggljibhfbgmpaaMark
import Derived.Test.YtggljibhfbgmpaaQueue
namespace Go.Proofs.Ytggljibhfbgmpaa
open Go.Tx
set_option linter.unusedVariables false
set_option linter.unusedSimpArgs false

theorem le48 {n : Nat} (h : n ≤ 140737488351232) : n ≤ 140737488355328 := by omega
theorem headSaid_len (h : HeadD) : (headSaid h).1.length ≤ 33 := by
  unfold headSaid; split
  · simp
  · rw [headText_length]; exact Nat.le_refl _
theorem numB_len (n : Int) : (numB n).length = 8 := numB_length n
def headMark (h : HeadD) : Int × Int := if (headSaid h).2 ≠ 0 then (0, (headSaid h).2) else (markOf (headSaid h).1, 0)
def headNextE (h : HeadD) (root at_ : Int) : Int := if headCheck h ≠ 0 then headCheck h else if h.epoch = 1000000 then 7 else if at_ < h.at_ then 4 else headCheck ⟨h.epoch + 1, root, (headMark h).1, at_⟩
def headNext (h : HeadD) (root at_ : Int) : HeadD × Int := if headNextE h root at_ ≠ 0 then (headZ, headNextE h root at_) else (⟨h.epoch + 1, root, (headMark h).1, at_⟩, 0)
theorem headSaid_err (h : HeadD) : (headSaid h).2 = headCheck h := by unfold headSaid; split <;> simp_all
theorem headMark_err (h : HeadD) : (headMark h).2 = headCheck h := by unfold headMark; rw [headSaid_err]; split <;> simp_all
theorem headMark_bd (h : HeadD) : 0 ≤ (headMark h).1 ∧ (headMark h).1 < 2305843009213693951 := by
  unfold headMark; split
  · simp
  · exact markOf_bd _
theorem headSaid_ok {h : HeadD} (e : headCheck h = 0) : headSaid h = (headText h, 0) := by unfold headSaid; rw [if_neg (by omega)]
theorem headMark_ok {h : HeadD} (e : headCheck h = 0) : headMark h = (markOf (headText h), 0) := by
  unfold headMark; rw [headSaid_ok e]; simp
theorem headNext_ok {h : HeadD} {root at_ : Int} (e : (headNext h root at_).2 = 0) : headCheck h = 0 ∧ h.epoch < 1000000 ∧ h.at_ ≤ at_ ∧ headNext h root at_ = (⟨h.epoch + 1, root, markOf (headText h), at_⟩, 0) ∧ headCheck ⟨h.epoch + 1, root, markOf (headText h), at_⟩ = 0 := by
  unfold headNext at e ⊢
  split at e
  · contradiction
  · rename_i h1
    rw [if_neg h1]
    unfold headNextE at h1
    by_cases e1 : headCheck h = 0
    · rw [if_neg (by omega)] at h1
      have hb := headCheck_ok e1
      have hm := headMark_ok e1
      rw [hm] at h1 ⊢
      by_cases e2 : h.epoch = 1000000
      · rw [if_pos e2] at h1; simp at h1
      · rw [if_neg e2] at h1
        by_cases e3 : at_ < h.at_
        · rw [if_pos e3] at h1; simp at h1
        · rw [if_neg e3] at h1
          exact ⟨e1, by omega, by omega, rfl, by simpa using h1⟩
    · rw [if_pos e1] at h1; omega
theorem headNext_err {h : HeadD} {root at_ : Int} (e : ¬ (headNext h root at_).2 = 0) : (headNext h root at_).1 = headZ := by
  revert e; unfold headNext; split <;> simp
theorem headText_inj {x y : HeadD} (hx : HeadW x) (hy : HeadW y) (ex : headCheck x = 0) (ey : headCheck y = 0) (h : headText x = headText y) : x = y := by
  have h1 := headRead_text hx ex
  have h2 := headRead_text hy ey
  rw [h, h2] at h1
  exact (Prod.mk.inj h1).1.symm
theorem headNext_law {h o : HeadD} {root at_ : Int} (hh : HeadW h) (ho : HeadW o) (e1 : (headNext h root at_).2 = 0) (e2 : (headNext o root at_).2 = 0) (e3 : (headNext h root at_).1 = (headNext o root at_).1) (e4 : ¬ h = o) :
    (headSaid h).2 = 0 ∧ (headSaid o).2 = 0 ∧ ¬ (headSaid h).1 = (headSaid o).1 ∧ markOf (headSaid h).1 = markOf (headSaid o).1 := by
  obtain ⟨a1, _, _, a4, _⟩ := headNext_ok e1
  obtain ⟨b1, _, _, b4, _⟩ := headNext_ok e2
  rw [a4, b4] at e3
  have : markOf (headText h) = markOf (headText o) := by
    have := congrArg HeadD.prev e3
    simpa using this
  rw [headSaid_ok a1, headSaid_ok b1]
  exact ⟨rfl, rfl, fun hc => e4 (headText_inj hh ho a1 b1 hc), this⟩
def askZ : AskD := ⟨[], [], 0, 0⟩
def tagOf (key : Int) (s : List UInt8) : Int := markOf ((numB key ++ s) ++ numB key)
theorem tagOf_bd (k : Int) (s : List UInt8) : 0 ≤ tagOf k s ∧ tagOf k s < 18446744073709551616 := by have := markOf_bd ((numB k ++ s) ++ numB k); unfold tagOf; omega
def tagSaid (name value : List UInt8) (n : Int) : List UInt8 := numB n ++ (wPut [name, value]).1
def tagRight (key : Int) (s : List UInt8) (t : Int) : Bool := decide (tagOf key s = t)
def tagAsk (key : Int) (name value : List UInt8) (n : Int) : AskD × Int := if askRight name value ≠ 0 then (askZ, askRight name value) else (⟨name, value, n, tagOf key (tagSaid name value n)⟩, 0)
def tagHolds (key : Int) (a : AskD) : Bool := decide (askRight a.name a.value = 0) && decide (tagOf key (tagSaid a.name a.value a.n) = a.tag)
theorem wPut_len2 (l : List (List UInt8)) : (wPut l).1.length ≤ 600 := by
  unfold wPut
  split
  · simp
  · split
    · rename_i h
      have : ∀ (l : List (List UInt8)) (n : Nat), n ≤ 600 → putOk n l = true → n + (putT l).length ≤ 600 := by
        intro l
        induction l with
        | nil => intro n h _; simp [putT]; exact h
        | cons p l ih =>
          intro n _ h
          unfold putOk at h
          simp only [Bool.and_eq_true, decide_eq_true_eq] at h
          have := ih _ h.1 h.2
          have e : (putT (p :: l)).length = 2 + p.length + (putT l).length := by simp [putT, putC]; omega
          omega
      have := this l 0 (by omega) h
      simp only; omega
    · simp
theorem tagSaid_len (a b : List UInt8) (n : Int) : (tagSaid a b n).length ≤ 608 := by
  unfold tagSaid; rw [List.length_append, numB_len]; have := wPut_len2 [a, b]; omega
theorem tagAsk_ok {key : Int} {name value : List UInt8} {n : Int} (h : (tagAsk key name value n).2 = 0) : tagHolds key (tagAsk key name value n).1 = true ∧ (tagAsk key name value n).1.name = name ∧ (tagAsk key name value n).1.value = value ∧ (tagAsk key name value n).1.n = n := by
  unfold tagAsk at h ⊢
  split at h
  · contradiction
  · rename_i h1
    rw [if_neg h1]
    unfold tagHolds
    simp only [Bool.and_eq_true, decide_eq_true_eq, and_self, and_true]
    omega
theorem tagAsk_err {key : Int} {name value : List UInt8} {n : Int} (h : ¬ (tagAsk key name value n).2 = 0) : (tagAsk key name value n).1 = askZ := by
  revert h; unfold tagAsk; split <;> simp
theorem tagBinds_law {key : Int} {s t : List UInt8} {x : Int} (e1 : tagRight key s x = true) (e2 : tagRight key t x = true) (h : ¬ s = t) :
    (!((numB key ++ s) ++ numB key == (numB key ++ t) ++ numB key) && decide (markOf ((numB key ++ s) ++ numB key) = markOf ((numB key ++ t) ++ numB key))) = true := by
  unfold tagRight tagOf at e1 e2
  simp only [decide_eq_true_eq] at e1 e2
  rw [e1, e2]
  simp [h]

theorem headMark_con (G : Mem) (vs_h : List Value) (h : HeadD) (h_h : EHead.R G vs_h h)  : Con Try.prog 92 #[.agg vs_h.toArray] G [] (fun u G' L' => u = .tuple #[U ((headMark h).1), I ((headMark h).2)]) := by
  obtain ⟨rfl, w1, w2, w3, w4⟩ := h_h
  refine con_of Try.func92 16 [(0, .agg #[I h.epoch, U h.root, U h.prev, I h.at_])] rfl (fun w0 G0 => ?_)
  refine tc_seq ?_
  refine tc_region ?_
  refine runL_box 1 #[I h.epoch, U h.root, U h.prev, I h.at_] 28 (fun b1 => ?_)
  refine runL_b [0,0] [(1, Pt b1 0), (2, U 0), (3, I 0)] ?_
  refine runL_nil ?_
  refine tq_then ?_
  refine tc_seq ?_
  refine tc_region ?_
  refine runL_b [2] [(2, U 0), (3, I 0), (7, .agg #[I h.epoch, U h.root, U h.prev, I h.at_])] ?_
  refine runL_callV 8 (.tuple #[Sr ((headSaid h).1), I ((headSaid h).2)]) (headSaid_con h G) ?_
  refine runL_b [0,0,0,0,0] [(2, U 0), (3, I 0), (4, Sr ((headSaid h).1)), (5, I ((headSaid h).2))] ?_
  refine runL_nil ?_
  refine tq_then ?_
  refine tc_seq ?_
  refine tc_rb [0,0] [(2, U 0), (3, I 0), (4, Sr ((headSaid h).1)), (5, I ((headSaid h).2)), (12, Bo (!decide ((headSaid h).2 = 0)))] ?_
  refine tc_cond (!decide ((headSaid h).2 = 0)) (fun h1 => ?_) (fun h1 => ?_)
  ·
    try simp only [decide_eq_true_eq, decide_eq_false_iff_not, Bool.and_eq_true, Bool.or_eq_true, Bool.and_eq_false_imp, Bool.or_eq_false_iff, Bool.not_eq_true', Bool.not_eq_false', Bool.not_eq_true, Bool.not_eq_false, beq_iff_eq, beq_eq_false_iff_ne, bne_iff_ne, ne_eq, Decidable.not_not, Int.not_lt, Int.not_le] at h1
    refine tc_rb [0,0,0] [(2, U 0), (3, I ((headSaid h).2)), (4, Sr ((headSaid h).1)), (5, I ((headSaid h).2)), (12, Bo (!decide ((headSaid h).2 = 0)))] ?_
    refine tc_ret ?_
    refine tq_then_ret ?_
    refine tq_ret [0, 0] [U 0, I ((headSaid h).2)] (bp_ret (Mem.le_refl _) ?_)
    have hf_ : (headMark h) = (0, ((headSaid h).2)) := by
      unfold headMark; simp_all
    (try rw [hf_]); rfl
  ·
    try simp only [decide_eq_true_eq, decide_eq_false_iff_not, Bool.and_eq_true, Bool.or_eq_true, Bool.and_eq_false_imp, Bool.or_eq_false_iff, Bool.not_eq_true', Bool.not_eq_false', Bool.not_eq_true, Bool.not_eq_false, beq_iff_eq, beq_eq_false_iff_ne, bne_iff_ne, ne_eq, Decidable.not_not, Int.not_lt, Int.not_le] at h1
    refine tc_skip ?_
    refine tq_then ?_
    refine tc_seq ?_
    refine tc_region ?_
    refine runL_b [0] [(2, U 0), (3, I 0), (5, I ((headSaid h).2)), (12, Bo (!decide ((headSaid h).2 = 0))), (14, Sr ((headSaid h).1))] ?_
    refine runL_callV 15 (U (markOf ((headSaid h).1))) (markOf_con ((headSaid h).1) (le48 (Nat.le_trans (headSaid_len h) (by decide))) G) ?_
    refine runL_b [0,0] [(2, U (markOf ((headSaid h).1))), (3, I 0), (5, I ((headSaid h).2)), (12, Bo (!decide ((headSaid h).2 = 0)))] ?_
    refine runL_nil ?_
    refine tq_then ?_
    refine tc_ret ?_
    refine tq_ret [0, 0] [U (markOf ((headSaid h).1)), I 0] (bp_ret (Mem.le_refl _) ?_)
    have hf_ : (headMark h) = ((markOf ((headSaid h).1)), 0) := by
      unfold headMark; simp_all
    (try rw [hf_]); rfl

theorem headNext_con (G : Mem) (vs_h : List Value) (h : HeadD) (h_h : EHead.R G vs_h h) (root : Int) (hw_root : 0 ≤ root ∧ root < 18446744073709551616) (a : Int) (hw_a : -9223372036854775808 ≤ a ∧ a < 9223372036854775808)  : Con Try.prog 81 #[.agg vs_h.toArray, U root, I a] G [] (fun u G' L' => u = .tuple #[.agg #[I (((headNext h root a).1).epoch), U (((headNext h root a).1).root), U (((headNext h root a).1).prev), I (((headNext h root a).1).at_)], I ((headNext h root a).2)]) := by
  obtain ⟨rfl, w1, w2, w3, w4⟩ := h_h
  refine con_of Try.func81 46 [(0, .agg #[I h.epoch, U h.root, U h.prev, I h.at_]), (1, U root), (2, I a)] rfl (fun w0 G0 => ?_)
  refine tc_seq ?_
  refine tc_region ?_
  refine runL_box 3 #[I h.epoch, U h.root, U h.prev, I h.at_] 28 (fun b1 => ?_)
  refine runL_box 6 #[I 0, U 0, U 0, I 0] 28 (fun b2 => ?_)
  refine runL_b [0] [(1, U root), (2, I a), (3, Pt b1 0), (6, Pt b2 0), (7, I 0)] ?_
  refine runL_nil ?_
  refine tq_then ?_
  refine tc_seq ?_
  refine tc_region ?_
  refine runL_b [4] [(1, U root), (2, I a), (3, Pt b1 0), (6, Pt b2 0), (7, I 0), (13, .agg #[I h.epoch, U h.root, U h.prev, I h.at_])] ?_
  refine runL_callV 14 (.tuple #[U ((headMark h).1), I ((headMark h).2)]) (headMark_con G [I h.epoch, U h.root, U h.prev, I h.at_] h (⟨rfl, w1, w2, w3, w4⟩)) ?_
  refine runL_b [0,0,0,0,0] [(1, U root), (2, I a), (3, Pt b1 0), (6, Pt b2 0), (7, I 0), (8, U ((headMark h).1)), (9, I ((headMark h).2))] ?_
  refine runL_nil ?_
  refine tq_then ?_
  refine tc_seq ?_
  refine tc_block ?_
  refine tc_rb [0,0,0] [(1, U root), (2, I a), (3, Pt b1 0), (6, Pt b2 0), (7, I 0), (8, U ((headMark h).1)), (9, I ((headMark h).2)), (17, Bo (!decide ((headMark h).2 = 0)))] ?_
  refine tc_cond (!decide ((headMark h).2 = 0)) (fun h1 => ?_) (fun h1 => ?_)
  ·
    try simp only [decide_eq_true_eq, decide_eq_false_iff_not, Bool.and_eq_true, Bool.or_eq_true, Bool.and_eq_false_imp, Bool.or_eq_false_iff, Bool.not_eq_true', Bool.not_eq_false', Bool.not_eq_true, Bool.not_eq_false, beq_iff_eq, beq_eq_false_iff_ne, bne_iff_ne, ne_eq, Decidable.not_not, Int.not_lt, Int.not_le] at h1
    refine tc_rb [0,0,3,0] [(1, U root), (2, I a), (3, Pt b1 0), (6, Pt b2 0), (7, I ((headMark h).2)), (8, U ((headMark h).1)), (9, I ((headMark h).2)), (17, Bo (!decide ((headMark h).2 = 0)))] ?_
    refine tc_ret ?_
    refine tq_block_ret ?_
    refine tq_then_ret ?_
    refine tq_ret [0, 0] [.agg #[I 0, U 0, U 0, I 0], I ((headMark h).2)] (bp_ret (Mem.le_refl _) ?_)
    have hf_ : (headNext h root a) = ((⟨0, 0, 0, 0⟩ : HeadD), ((headMark h).2)) := by
      (try rw [headMark_err] at *); unfold headNext headNextE headZ; grind
    (try rw [hf_]); rfl
  ·
    try simp only [decide_eq_true_eq, decide_eq_false_iff_not, Bool.and_eq_true, Bool.or_eq_true, Bool.and_eq_false_imp, Bool.or_eq_false_iff, Bool.not_eq_true', Bool.not_eq_false', Bool.not_eq_true, Bool.not_eq_false, beq_iff_eq, beq_eq_false_iff_ne, bne_iff_ne, ne_eq, Decidable.not_not, Int.not_lt, Int.not_le] at h1
    refine tc_rb [0,4,0,0] [(1, U root), (2, I a), (3, Pt b1 0), (6, Pt b2 0), (7, I 0), (8, U ((headMark h).1)), (9, I ((headMark h).2)), (17, Bo (!decide ((headMark h).2 = 0))), (22, Bo (decide (h.epoch = 1000000)))] ?_
    refine tc_cond (decide (h.epoch = 1000000)) (fun h2 => ?_) (fun h2 => ?_)
    ·
      try simp only [decide_eq_true_eq, decide_eq_false_iff_not, Bool.and_eq_true, Bool.or_eq_true, Bool.and_eq_false_imp, Bool.or_eq_false_iff, Bool.not_eq_true', Bool.not_eq_false', Bool.not_eq_true, Bool.not_eq_false, beq_iff_eq, beq_eq_false_iff_ne, bne_iff_ne, ne_eq, Decidable.not_not, Int.not_lt, Int.not_le] at h2
      refine tc_rb [0,3,0] [(1, U root), (2, I a), (3, Pt b1 0), (6, Pt b2 0), (7, I 7), (8, U ((headMark h).1)), (9, I ((headMark h).2)), (17, Bo (!decide ((headMark h).2 = 0))), (22, Bo (decide (h.epoch = 1000000)))] ?_
      refine tc_ret ?_
      refine tq_block_ret ?_
      refine tq_then_ret ?_
      refine tq_ret [0, 0] [.agg #[I 0, U 0, U 0, I 0], I 7] (bp_ret (Mem.le_refl _) ?_)
      have hf_ : (headNext h root a) = ((⟨0, 0, 0, 0⟩ : HeadD), 7) := by
        (try rw [headMark_err] at *); unfold headNext headNextE headZ; grind
      (try rw [hf_]); rfl
    ·
      try simp only [decide_eq_true_eq, decide_eq_false_iff_not, Bool.and_eq_true, Bool.or_eq_true, Bool.and_eq_false_imp, Bool.or_eq_false_iff, Bool.not_eq_true', Bool.not_eq_false', Bool.not_eq_true, Bool.not_eq_false, beq_iff_eq, beq_eq_false_iff_ne, bne_iff_ne, ne_eq, Decidable.not_not, Int.not_lt, Int.not_le] at h2
      refine tc_skip ?_
      refine tq_block ?_
      refine tq_then ?_
      refine tc_seq ?_
      refine tc_region ?_
      refine runL_b [0,4,0,0,0,0,0] [(2, I a), (3, Pt b1 0), (6, Pt b2 0), (7, I 0), (9, I ((headMark h).2)), (17, Bo (!decide ((headMark h).2 = 0))), (22, Bo (decide (h.epoch = 1000000))), (33, .agg #[I (IntKind.i64.wrap (h.epoch + 1)), U root, U ((headMark h).1), I a])] ?_
      have e1 : IntKind.i64.wrap (h.epoch + 1) = h.epoch + 1 := IntWalk.i64_in _ (by have := headCheck_ok (h := h) (by rw [← headMark_err]; assumption); omega)
      refine runL_eq (fr' := [(2, I a), (3, Pt b1 0), (6, Pt b2 0), (7, I 0), (9, I ((headMark h).2)), (17, Bo (!decide ((headMark h).2 = 0))), (22, Bo (decide (h.epoch = 1000000))), (33, .agg #[I (h.epoch + 1), U root, U ((headMark h).1), I a])]) (L' := [[Sg b2 0 [I 0, U 0, U 0, I 0]], [Sg b1 0 [I h.epoch, U h.root, U h.prev, I h.at_]]]) (by simp only [e1]) (by rfl) ?_
      clear e1
      refine runL_box 10 #[I 0, U 0, U 0, I 0] 28 (fun b3 => ?_)
      refine runL_bs [3] [(2, I a), (3, Pt b1 0), (6, Pt b2 0), (7, I 0), (9, I ((headMark h).2)), (10, Pt b3 0), (17, Bo (!decide ((headMark h).2 = 0))), (22, Bo (decide (h.epoch = 1000000)))] [[Sg b3 0 [I (h.epoch + 1), U root, U ((headMark h).1), I a]], [Sg b2 0 [I 0, U 0, U 0, I 0]], [Sg b1 0 [I h.epoch, U h.root, U h.prev, I h.at_]]] ?_
      refine runL_nil ?_
      refine tq_then ?_
      refine tc_seq ?_
      refine tc_rb [0,0,6,0] [(2, I a), (3, Pt b1 0), (6, Pt b2 0), (7, I 0), (9, I ((headMark h).2)), (10, Pt b3 0), (17, Bo (!decide ((headMark h).2 = 0))), (22, Bo (decide (h.epoch = 1000000))), (37, Bo (decide (a < h.at_)))] ?_
      refine tc_cond (decide (a < h.at_)) (fun h3 => ?_) (fun h3 => ?_)
      ·
        try simp only [decide_eq_true_eq, decide_eq_false_iff_not, Bool.and_eq_true, Bool.or_eq_true, Bool.and_eq_false_imp, Bool.or_eq_false_iff, Bool.not_eq_true', Bool.not_eq_false', Bool.not_eq_true, Bool.not_eq_false, beq_iff_eq, beq_eq_false_iff_ne, bne_iff_ne, ne_eq, Decidable.not_not, Int.not_lt, Int.not_le] at h3
        refine tc_rb [0,5,0] [(2, I a), (3, Pt b1 0), (6, Pt b2 0), (7, I 4), (9, I ((headMark h).2)), (10, Pt b3 0), (17, Bo (!decide ((headMark h).2 = 0))), (22, Bo (decide (h.epoch = 1000000))), (37, Bo (decide (a < h.at_)))] ?_
        refine tc_ret ?_
        refine tq_then_ret ?_
        refine tq_ret [1, 0] [.agg #[I 0, U 0, U 0, I 0], I 4] (bp_ret (Mem.le_refl _) ?_)
        have hf_ : (headNext h root a) = ((⟨0, 0, 0, 0⟩ : HeadD), 4) := by
          (try rw [headMark_err] at *); unfold headNext headNextE headZ; grind
        (try rw [hf_]); rfl
      ·
        try simp only [decide_eq_true_eq, decide_eq_false_iff_not, Bool.and_eq_true, Bool.or_eq_true, Bool.and_eq_false_imp, Bool.or_eq_false_iff, Bool.not_eq_true', Bool.not_eq_false', Bool.not_eq_true, Bool.not_eq_false, beq_iff_eq, beq_eq_false_iff_ne, bne_iff_ne, ne_eq, Decidable.not_not, Int.not_lt, Int.not_le] at h3
        refine tc_skip ?_
        refine tq_then ?_
        refine tc_seq ?_
        refine tc_seq ?_
        refine tc_region ?_
        refine runL_b [2] [(2, I a), (3, Pt b1 0), (6, Pt b2 0), (7, I 0), (9, I ((headMark h).2)), (10, Pt b3 0), (17, Bo (!decide ((headMark h).2 = 0))), (22, Bo (decide (h.epoch = 1000000))), (37, Bo (decide (a < h.at_))), (39, .agg #[I (h.epoch + 1), U root, U ((headMark h).1), I a])] ?_
        refine runL_callV 40 (I (headCheck (⟨h.epoch + 1, root, (headMark h).1, a⟩ : HeadD))) (headCheck_con (⟨h.epoch + 1, root, (headMark h).1, a⟩ : HeadD) G) ?_
        refine runL_b [0] [(2, I a), (3, Pt b1 0), (6, Pt b2 0), (7, I 0), (9, I ((headMark h).2)), (10, Pt b3 0), (11, I (headCheck (⟨h.epoch + 1, root, (headMark h).1, a⟩ : HeadD))), (17, Bo (!decide ((headMark h).2 = 0))), (22, Bo (decide (h.epoch = 1000000))), (37, Bo (decide (a < h.at_)))] ?_
        refine runL_nil ?_
        refine tq_then ?_
        refine tc_rb [0,0] [(2, I a), (3, Pt b1 0), (6, Pt b2 0), (7, I 0), (9, I ((headMark h).2)), (10, Pt b3 0), (11, I (headCheck (⟨h.epoch + 1, root, (headMark h).1, a⟩ : HeadD))), (17, Bo (!decide ((headMark h).2 = 0))), (22, Bo (decide (h.epoch = 1000000))), (37, Bo (decide (a < h.at_))), (42, Bo (!decide (headCheck (⟨h.epoch + 1, root, (headMark h).1, a⟩ : HeadD) = 0)))] ?_
        refine tc_cond (!decide (headCheck (⟨h.epoch + 1, root, (headMark h).1, a⟩ : HeadD) = 0)) (fun h4 => ?_) (fun h4 => ?_)
        ·
          try simp only [decide_eq_true_eq, decide_eq_false_iff_not, Bool.and_eq_true, Bool.or_eq_true, Bool.and_eq_false_imp, Bool.or_eq_false_iff, Bool.not_eq_true', Bool.not_eq_false', Bool.not_eq_true, Bool.not_eq_false, beq_iff_eq, beq_eq_false_iff_ne, bne_iff_ne, ne_eq, Decidable.not_not, Int.not_lt, Int.not_le] at h4
          refine tc_rb [0,0,5,0] [(2, I a), (3, Pt b1 0), (6, Pt b2 0), (7, I (headCheck (⟨h.epoch + 1, root, (headMark h).1, a⟩ : HeadD))), (9, I ((headMark h).2)), (10, Pt b3 0), (11, I (headCheck (⟨h.epoch + 1, root, (headMark h).1, a⟩ : HeadD))), (17, Bo (!decide ((headMark h).2 = 0))), (22, Bo (decide (h.epoch = 1000000))), (37, Bo (decide (a < h.at_))), (42, Bo (!decide (headCheck (⟨h.epoch + 1, root, (headMark h).1, a⟩ : HeadD) = 0)))] ?_
          refine tc_ret ?_
          refine tq_then_ret ?_
          refine tq_ret [1, 0] [.agg #[I 0, U 0, U 0, I 0], I (headCheck (⟨h.epoch + 1, root, (headMark h).1, a⟩ : HeadD))] (bp_ret (Mem.le_refl _) ?_)
          have hf_ : (headNext h root a) = ((⟨0, 0, 0, 0⟩ : HeadD), (headCheck (⟨h.epoch + 1, root, (headMark h).1, a⟩ : HeadD))) := by
            (try rw [headMark_err] at *); unfold headNext headNextE headZ; grind
          (try rw [hf_]); rfl
        ·
          try simp only [decide_eq_true_eq, decide_eq_false_iff_not, Bool.and_eq_true, Bool.or_eq_true, Bool.and_eq_false_imp, Bool.or_eq_false_iff, Bool.not_eq_true', Bool.not_eq_false', Bool.not_eq_true, Bool.not_eq_false, beq_iff_eq, beq_eq_false_iff_ne, bne_iff_ne, ne_eq, Decidable.not_not, Int.not_lt, Int.not_le] at h4
          refine tc_skip ?_
          refine tq_then ?_
          refine tc_rbs [2,5,0] [(2, I a), (3, Pt b1 0), (6, Pt b2 0), (7, I 0), (9, I ((headMark h).2)), (10, Pt b3 0), (11, I (headCheck (⟨h.epoch + 1, root, (headMark h).1, a⟩ : HeadD))), (17, Bo (!decide ((headMark h).2 = 0))), (22, Bo (decide (h.epoch = 1000000))), (37, Bo (decide (a < h.at_))), (42, Bo (!decide (headCheck (⟨h.epoch + 1, root, (headMark h).1, a⟩ : HeadD) = 0)))] [[Sg b3 0 [I (h.epoch + 1), U root, U ((headMark h).1), I a]], [Sg b2 0 [I (h.epoch + 1), U root, U ((headMark h).1), I a]], [Sg b1 0 [I h.epoch, U h.root, U h.prev, I h.at_]]] ?_
          refine tc_ret ?_
          refine tq_ret [1, 0] [.agg #[I (h.epoch + 1), U root, U ((headMark h).1), I a], I 0] (bp_ret (Mem.le_refl _) ?_)
          have hf_ : (headNext h root a) = ((⟨h.epoch + 1, root, (headMark h).1, a⟩ : HeadD), 0) := by
            (try rw [headMark_err] at *); unfold headNext headNextE headZ; grind
          (try rw [hf_]); rfl

theorem askRight_con (G : Mem) (name : List UInt8) (value : List UInt8)  : Con Try.prog 89 #[Sr name, Sr value] G [] (fun u G' L' => u = I (askRight name value)) := by
  refine con_of Try.func89 13 [(0, Sr name), (1, Sr value)] rfl (fun w0 G0 => ?_)
  refine tc_rb [0] [(0, Sr name), (1, Sr value), (4, I 0)] ?_
  refine tc_seq ?_
  refine tc_block ?_
  refine tc_seq ?_
  refine tc_region ?_
  refine runL_b [0] [(1, Sr value), (4, I 0), (6, Sr name)] ?_
  refine runL_callV 7 (Bo (pathName name)) (pathName_con G name) ?_
  refine runL_b [0,0] [(1, Sr value), (4, I 0), (5, Bo (!(pathName name)))] ?_
  refine runL_nil ?_
  refine tq_then ?_
  refine tc_cond (!(pathName name)) (fun h1 => ?_) (fun h1 => ?_)
  ·
    try simp only [decide_eq_true_eq, decide_eq_false_iff_not, Bool.and_eq_true, Bool.or_eq_true, Bool.and_eq_false_imp, Bool.or_eq_false_iff, Bool.not_eq_true', Bool.not_eq_false', Bool.not_eq_true, Bool.not_eq_false, beq_iff_eq, beq_eq_false_iff_ne, bne_iff_ne, ne_eq, Decidable.not_not, Int.not_lt, Int.not_le] at h1
    refine tc_rb [0] [(1, Sr value), (4, I 3), (5, Bo (!(pathName name)))] ?_
    refine tc_ret ?_
    refine tq_block_ret ?_
    refine tq_then_ret ?_
    refine tq_ret [0] [I 3] (bp_ret (Mem.le_refl _) ?_)
    have hf_ : (askRight name value) = 3 := by
      unfold askRight; simp_all; try omega
    (try rw [hf_]); rfl
  ·
    try simp only [decide_eq_true_eq, decide_eq_false_iff_not, Bool.and_eq_true, Bool.or_eq_true, Bool.and_eq_false_imp, Bool.or_eq_false_iff, Bool.not_eq_true', Bool.not_eq_false', Bool.not_eq_true, Bool.not_eq_false, beq_iff_eq, beq_eq_false_iff_ne, bne_iff_ne, ne_eq, Decidable.not_not, Int.not_lt, Int.not_le] at h1
    refine tc_rb [0,0,0,0] [(4, I 0), (5, Bo (!(pathName name))), (9, Bo (decide (((value).length : Int) > 20)))] ?_
    refine tc_cond (decide (((value).length : Int) > 20)) (fun h2 => ?_) (fun h2 => ?_)
    ·
      try simp only [decide_eq_true_eq, decide_eq_false_iff_not, Bool.and_eq_true, Bool.or_eq_true, Bool.and_eq_false_imp, Bool.or_eq_false_iff, Bool.not_eq_true', Bool.not_eq_false', Bool.not_eq_true, Bool.not_eq_false, beq_iff_eq, beq_eq_false_iff_ne, bne_iff_ne, ne_eq, Decidable.not_not, Int.not_lt, Int.not_le] at h2
      refine tc_rb [0] [(4, I 2), (5, Bo (!(pathName name))), (9, Bo (decide (((value).length : Int) > 20)))] ?_
      refine tc_ret ?_
      refine tq_block_ret ?_
      refine tq_then_ret ?_
      refine tq_ret [0] [I 2] (bp_ret (Mem.le_refl _) ?_)
      have hf_ : (askRight name value) = 2 := by
        unfold askRight; simp_all; try omega
      (try rw [hf_]); rfl
    ·
      try simp only [decide_eq_true_eq, decide_eq_false_iff_not, Bool.and_eq_true, Bool.or_eq_true, Bool.and_eq_false_imp, Bool.or_eq_false_iff, Bool.not_eq_true', Bool.not_eq_false', Bool.not_eq_true, Bool.not_eq_false, beq_iff_eq, beq_eq_false_iff_ne, bne_iff_ne, ne_eq, Decidable.not_not, Int.not_lt, Int.not_le] at h2
      refine tc_skip ?_
      refine tq_block ?_
      refine tq_then ?_
      refine tc_rb [0] [(4, I 0), (5, Bo (!(pathName name))), (9, Bo (decide (((value).length : Int) > 20)))] ?_
      refine tc_ret ?_
      refine tq_ret [0] [I 0] (bp_ret (Mem.le_refl _) ?_)
      have hf_ : (askRight name value) = 0 := by
        unfold askRight; simp_all; try omega
      (try rw [hf_]); rfl

theorem tagOf_con (G : Mem) (key : Int) (s : List UInt8) (hs : s.length ≤ 1000000) : Con Try.prog 68 #[U key, Sr s] G [] (fun u G' L' => u = U (tagOf key s)) := by
  refine con_of Try.func68 13 [(0, U key), (1, Sr s)] rfl (fun w0 G0 => ?_)
  refine tc_rb [0] [(0, U key), (1, Sr s), (4, U 0)] ?_
  refine tc_seq ?_
  refine tc_region ?_
  refine runL_b [0] [(0, U key), (1, Sr s), (4, U 0), (5, U key)] ?_
  refine runL_callV 6 (Sr (numB key)) (num_con key G) ?_
  refine runL_b [0] [(0, U key), (4, U 0), (6, Sr (numB key)), (7, Sr s)] ?_
  refine runL_cat 8 (numB key) s (by simp only [List.length_append, numB_len]; omega) ?_
  refine runL_b [0] [(4, U 0), (8, Sr ((numB key) ++ s)), (9, U key)] ?_
  refine runL_callV 10 (Sr (numB key)) (num_con key G) ?_
  refine runL_cat 11 ((numB key) ++ s) (numB key) (by simp only [List.length_append, numB_len]; omega) ?_
  refine runL_callV 12 (U (markOf (((numB key) ++ s) ++ (numB key)))) (markOf_con (((numB key) ++ s) ++ (numB key)) (le48 (by first | assumption | omega | (simp; done) | (simp; omega))) G) ?_
  refine runL_b [0] [(4, U (markOf (((numB key) ++ s) ++ (numB key))))] ?_
  refine runL_nil ?_
  refine tq_then ?_
  refine tc_ret ?_
  refine tq_ret [0] [U (markOf (((numB key) ++ s) ++ (numB key)))] (bp_ret (Mem.le_refl _) ?_)
  have hf_ : (tagOf key s) = (markOf (((numB key) ++ s) ++ (numB key))) := by
    rfl
  (try rw [hf_]); rfl

theorem tagRight_con (G : Mem) (key : Int) (s : List UInt8) (t : Int) (hs : s.length ≤ 1000000) : Con Try.prog 26 #[U key, Sr s, U t] G [] (fun u G' L' => u = Bo (tagRight key s t)) := by
  refine con_of Try.func26 12 [(0, U key), (1, Sr s), (2, U t)] rfl (fun w0 G0 => ?_)
  refine tc_rb [0] [(0, U key), (1, Sr s), (2, U t), (6, Bo false)] ?_
  refine tc_seq ?_
  refine tc_region ?_
  refine runL_b [0,0] [(2, U t), (6, Bo false), (7, U key), (8, Sr s)] ?_
  refine runL_callV 9 (U (tagOf key s)) (tagOf_con G key s (by first | assumption | (have := tagSaid_len; omega))) ?_
  refine runL_b [0,0,0] [(6, Bo (decide (tagOf key s = t)))] ?_
  refine runL_nil ?_
  refine tq_then ?_
  refine tc_ret ?_
  refine tq_ret [0] [Bo (decide (tagOf key s = t))] (bp_ret (Mem.le_refl _) ?_)
  have hf_ : (tagRight key s t) = (decide (tagOf key s = t)) := by
    rfl
  (try rw [hf_]); rfl

theorem tagSaid_con (G : Mem) (name : List UInt8) (hw_name : (name).length ≤ 140737488351232) (value : List UInt8) (hw_value : (value).length ≤ 140737488351232) (n : Int)  : Con Try.prog 90 #[Sr name, Sr value, U n] G [] (fun u G' L' => u = Sr (tagSaid name value n)) := by
  refine con_of Try.func90 20 [(0, Sr name), (1, Sr value), (2, U n)] rfl (fun w0 G0 => ?_)
  refine tc_rb [0] [(0, Sr name), (1, Sr value), (2, U n), (6, Sr ([]))] ?_
  refine tc_seq ?_
  refine tc_region ?_
  refine runL_b [0,0] [(2, U n), (6, Sr ([])), (10, Sr name), (11, Sr value)] ?_
  refine runL_bsl 12 2 #[Sr name, Sr value] 9 (fun b1 => ?_)
  refine runL_frz1 (b := b1) (o := 0) (cs := [Sr name, Sr value]) 0 (fun G1 hl1 hz1 => ?_)
  have hs1 : RS ES G1 (At b1 0) 2 [name, value] := RS.lit [[Sr name], [Sr value]] [name, value] ⟨⟨rfl, hw_name⟩, ⟨⟨rfl, hw_value⟩, trivial⟩⟩ hz1 (Nat.le_of_ble_eq_true rfl) (Nat.le_of_ble_eq_true rfl)
  refine runL_callV 13 (.tuple #[Sr ((wPut ([name, value])).1), I ((wPut ([name, value])).2)]) (wPut_con G1 (At b1 0) 2 ([name, value]) hs1) ?_
  refine runL_b [0,0,0,0,0] [(2, U n), (6, Sr ([])), (7, Sr ((wPut ([name, value])).1))] ?_
  refine runL_nil ?_
  refine tq_then ?_
  refine tc_seq ?_
  refine tc_region ?_
  refine runL_b [0] [(6, Sr ([])), (7, Sr ((wPut ([name, value])).1)), (16, U n)] ?_
  refine runL_callV 17 (Sr (numB n)) (num_con n G1) ?_
  refine runL_b [0] [(6, Sr ([])), (17, Sr (numB n)), (18, Sr ((wPut ([name, value])).1))] ?_
  refine runL_cat 19 (numB n) ((wPut ([name, value])).1) (by have := wPut_len2 [name, value]; simp only [numB_len]; omega) ?_
  refine runL_b [0] [(6, Sr ((numB n) ++ ((wPut ([name, value])).1)))] ?_
  refine runL_nil ?_
  refine tq_then ?_
  refine tc_ret ?_
  refine tq_ret [0] [Sr ((numB n) ++ ((wPut ([name, value])).1))] (bp_ret hl1 ?_)
  have hf_ : (tagSaid name value n) = (numB n) ++ ((wPut ([name, value])).1) := by
    rfl
  (try rw [hf_]); rfl

theorem tagAsk_con (G : Mem) (key : Int) (name : List UInt8) (hw_name : (name).length ≤ 140737488351232) (value : List UInt8) (hw_value : (value).length ≤ 140737488351232) (n : Int) (hw_n : 0 ≤ n ∧ n < 18446744073709551616)  : Con Try.prog 67 #[U key, Sr name, Sr value, U n] G [] (fun u G' L' => u = .tuple #[.agg #[Sr (((tagAsk key name value n).1).name), Sr (((tagAsk key name value n).1).value), U (((tagAsk key name value n).1).n), U (((tagAsk key name value n).1).tag)], I ((tagAsk key name value n).2)] ∧ ((((tagAsk key name value n).1).name).length ≤ 140737488351232) ∧ ((((tagAsk key name value n).1).value).length ≤ 140737488351232) ∧ (0 ≤ (((tagAsk key name value n).1).n) ∧ (((tagAsk key name value n).1).n) < 18446744073709551616) ∧ (0 ≤ (((tagAsk key name value n).1).tag) ∧ (((tagAsk key name value n).1).tag) < 18446744073709551616) ∧ L' = []) := by
  refine con_of Try.func67 28 [(0, U key), (1, Sr name), (2, Sr value), (3, U n)] rfl (fun w0 G0 => ?_)
  refine tc_seq ?_
  refine tc_region ?_
  refine runL_box 8 #[Sr ([]), Sr ([]), U 0, U 0] 75 (fun b1 => ?_)
  refine runL_b [0] [(0, U key), (1, Sr name), (2, Sr value), (3, U n), (8, Pt b1 0), (9, I 0)] ?_
  refine runL_nil ?_
  refine tq_then ?_
  refine tc_seq ?_
  refine tc_seq ?_
  refine tc_region ?_
  refine runL_b [0,0] [(0, U key), (1, Sr name), (2, Sr value), (3, U n), (8, Pt b1 0), (9, I 0), (11, Sr name), (12, Sr value)] ?_
  refine runL_callV 13 (I (askRight name value)) (askRight_con G name value) ?_
  refine runL_b [0] [(0, U key), (1, Sr name), (2, Sr value), (3, U n), (8, Pt b1 0), (9, I 0), (10, I (askRight name value))] ?_
  refine runL_nil ?_
  refine tq_then ?_
  refine tc_rb [0,0] [(0, U key), (1, Sr name), (2, Sr value), (3, U n), (8, Pt b1 0), (9, I 0), (10, I (askRight name value)), (15, Bo (!decide (askRight name value = 0)))] ?_
  refine tc_cond (!decide (askRight name value = 0)) (fun h1 => ?_) (fun h1 => ?_)
  ·
    try simp only [decide_eq_true_eq, decide_eq_false_iff_not, Bool.and_eq_true, Bool.or_eq_true, Bool.and_eq_false_imp, Bool.or_eq_false_iff, Bool.not_eq_true', Bool.not_eq_false', Bool.not_eq_true, Bool.not_eq_false, beq_iff_eq, beq_eq_false_iff_ne, bne_iff_ne, ne_eq, Decidable.not_not, Int.not_lt, Int.not_le] at h1
    refine tc_rb [0,0,3,0] [(0, U key), (1, Sr name), (2, Sr value), (3, U n), (8, Pt b1 0), (9, I (askRight name value)), (10, I (askRight name value)), (15, Bo (!decide (askRight name value = 0)))] ?_
    refine tc_ret ?_
    refine tq_then_ret ?_
    have hf1 : tagAsk key name value n = ((⟨[], [], 0, 0⟩ : AskD), askRight name value) := by
      unfold tagAsk askZ; simp_all
    refine tq_ret [0, 0] [.agg #[Sr ([]), Sr ([]), U 0, U 0], I (askRight name value)] (bp_rows [] (.cons _ .slnil) (Mem.le_refl _) ?_)
    rw [hf1]
    try dsimp only
    exact ⟨rfl, (Nat.le_of_ble_eq_true rfl), (Nat.le_of_ble_eq_true rfl), (by first | assumption | omega | (simp; done) | (simp; omega)), (by first | assumption | omega | (simp; done) | (simp; omega)), rfl⟩
  ·
    try simp only [decide_eq_true_eq, decide_eq_false_iff_not, Bool.and_eq_true, Bool.or_eq_true, Bool.and_eq_false_imp, Bool.or_eq_false_iff, Bool.not_eq_true', Bool.not_eq_false', Bool.not_eq_true, Bool.not_eq_false, beq_iff_eq, beq_eq_false_iff_ne, bne_iff_ne, ne_eq, Decidable.not_not, Int.not_lt, Int.not_le] at h1
    refine tc_skip ?_
    refine tq_then ?_
    refine tc_seq ?_
    refine tc_region ?_
    refine runL_b [0,0,0,0,0,0,0] [(1, Sr name), (2, Sr value), (8, Pt b1 0), (9, I 0), (10, I (askRight name value)), (15, Bo (!decide (askRight name value = 0))), (18, Sr name), (19, Sr value), (20, U n), (21, U key), (22, Sr name), (23, Sr value), (24, U n)] ?_
    refine runL_callV 25 (Sr (tagSaid name value n)) (tagSaid_con G name hw_name value hw_value n) ?_
    refine runL_callV 26 (U (tagOf key (tagSaid name value n))) (tagOf_con G key (tagSaid name value n) (Nat.le_trans (tagSaid_len name value n) (by decide))) ?_
    refine runL_bs [0,3,0] [(1, Sr name), (2, Sr value), (8, Pt b1 0), (9, I 0), (10, I (askRight name value)), (15, Bo (!decide (askRight name value = 0)))] [[Sg b1 0 [Sr name, Sr value, U n, U (tagOf key (tagSaid name value n))]]] ?_
    refine runL_nil ?_
    refine tq_then ?_
    refine tc_ret ?_
    have hf2 : tagAsk key name value n = ((⟨name, value, n, tagOf key (tagSaid name value n)⟩ : AskD), 0) := by
      unfold tagAsk askZ; simp_all
    refine tq_ret [0, 0] [.agg #[Sr name, Sr value, U n, U (tagOf key (tagSaid name value n))], I 0] (bp_rows [] (.cons _ .slnil) (Mem.le_refl _) ?_)
    rw [hf2]
    try dsimp only
    exact ⟨rfl, hw_name, hw_value, hw_n, (tagOf_bd _ _), rfl⟩

theorem tagHolds_con (G : Mem) (key : Int) (vs_a : List Value) (a : AskD) (h_a : EAsk.R G vs_a a)  : Con Try.prog 44 #[U key, .agg vs_a.toArray] G [] (fun u G' L' => u = Bo (tagHolds key a)) := by
  obtain ⟨rfl, w1, w2, w3, w4⟩ := h_a
  refine con_of Try.func44 24 [(0, U key), (1, .agg #[Sr a.name, Sr a.value, U a.n, U a.tag])] rfl (fun w0 G0 => ?_)
  refine tc_seq ?_
  refine tc_region ?_
  refine runL_box 3 #[Sr a.name, Sr a.value, U a.n, U a.tag] 75 (fun b1 => ?_)
  refine runL_b [0] [(0, U key), (3, Pt b1 0), (4, Bo false)] ?_
  refine runL_nil ?_
  refine tq_then ?_
  refine tc_seq ?_
  rcases Bool.eq_false_or_eq_true (decide (askRight a.name a.value = 0)) with h1 | h1
  ·
    refine tc_draw [] ?_
    refine dr_V [(0, Pt b1 0), (1, Sr a.name), (2, Pt b1 1), (3, Sr a.value), (4, I (askRight a.name a.value)), (5, Bo true), (6, Bo true), (7, U key), (8, Pt b1 0), (9, Sr a.name), (10, Pt b1 1), (11, Sr a.value), (12, Pt b1 2), (13, U a.n), (14, Sr (tagSaid a.name a.value a.n)), (15, Pt b1 3), (16, U a.tag), (17, Bo (tagRight key (tagSaid a.name a.value a.n) a.tag)), (18, Bo (tagRight key (tagSaid a.name a.value a.n) a.tag)), (19, Bo (tagRight key (tagSaid a.name a.value a.n) a.tag))] ?_
    refine dr_end [] [(0,0), (1,2), (2,0), (3,2), (6,0), (7,0), (8,0), (9,2), (10,0), (11,2), (12,0), (13,2), (15,0), (16,2), (18,0), (19,0)] [4, 5, 14, 17] [(4, Bo (tagRight key (tagSaid a.name a.value a.n) a.tag))] (List.forall_mem_cons.2 ⟨?_, (List.forall_mem_cons.2 ⟨?_, (List.forall_mem_cons.2 ⟨?_, (List.forall_mem_cons.2 ⟨?_, List.forall_mem_nil _⟩)⟩)⟩)⟩) ?_
    · refine stab_of 4 9 (I (askRight a.name a.value)) [(6, Sr a.name), (8, Sr a.value)] (fun X => ?_)
      exact runL_callV 9 (I (askRight a.name a.value)) (askRight_con G a.name a.value) stab_end
    · refine stab_of 5 10 (Bo true) [(9, I (askRight a.name a.value))] (fun X => ?_)
      exact runL_p1 10 (Bo (decide (askRight a.name a.value = 0))) (Bo true) (by rw [h1]) stab_end
    · refine stab_of 14 19 (Sr (tagSaid a.name a.value a.n)) [(11, Bo true), (14, Sr a.name), (16, Sr a.value), (18, U a.n)] (fun X => ?_)
      exact runL_callV 19 (Sr (tagSaid a.name a.value a.n)) (tagSaid_con G a.name w1 a.value w2 a.n) stab_end
    · refine stab_of 17 22 (Bo (tagRight key (tagSaid a.name a.value a.n) a.tag)) [(11, Bo true), (12, U key), (19, Sr (tagSaid a.name a.value a.n)), (21, U a.tag)] (fun X => ?_)
      exact runL_callV 22 (Bo (tagRight key (tagSaid a.name a.value a.n) a.tag)) (tagRight_con G key (tagSaid a.name a.value a.n) a.tag (Nat.le_trans (tagSaid_len a.name a.value a.n) (by decide))) stab_end
    refine tq_then ?_
    refine tc_ret ?_
    refine tq_ret [0] [Bo (tagRight key (tagSaid a.name a.value a.n) a.tag)] (bp_ret (Mem.le_refl _) ?_)
    have hf_ : (tagHolds key a) = (tagRight key (tagSaid a.name a.value a.n) a.tag) := by
      unfold tagHolds; simp_all [tagRight]
    (try rw [hf_]); rfl
  ·
    refine tc_draw [] ?_
    refine dr_V [(0, Pt b1 0), (1, Sr a.name), (2, Pt b1 1), (3, Sr a.value), (4, I (askRight a.name a.value)), (5, Bo false), (6, Bo false), (7, undef), (8, undef), (9, undef), (10, undef), (11, undef), (12, undef), (13, undef), (14, undef), (15, undef), (16, undef), (17, undef), (18, Bo false), (19, Bo false)] ?_
    refine dr_end [] [(0,0), (1,2), (2,0), (3,2), (6,0), (7,1), (8,1), (9,1), (10,1), (11,1), (12,1), (13,1), (14,1), (15,1), (16,1), (17,1), (18,0), (19,0)] [4, 5] [(4, Bo false)] (List.forall_mem_cons.2 ⟨?_, (List.forall_mem_cons.2 ⟨?_, List.forall_mem_nil _⟩)⟩) ?_
    · refine stab_of 4 9 (I (askRight a.name a.value)) [(6, Sr a.name), (8, Sr a.value)] (fun X => ?_)
      exact runL_callV 9 (I (askRight a.name a.value)) (askRight_con G a.name a.value) stab_end
    · refine stab_of 5 10 (Bo false) [(9, I (askRight a.name a.value))] (fun X => ?_)
      exact runL_p1 10 (Bo (decide (askRight a.name a.value = 0))) (Bo false) (by rw [h1]) stab_end
    refine tq_then ?_
    refine tc_ret ?_
    refine tq_ret [0] [Bo false] (bp_ret (Mem.le_refl _) ?_)
    have hf_ : (tagHolds key a) = false := by
      unfold tagHolds; simp_all [tagRight]
    (try rw [hf_]); rfl

theorem tags_con (G : Mem)   : Con Try.prog 25 #[] G [] (fun u G' L' => u = Bo true) := by
  refine con_of Try.func25 18 [] rfl (fun w0 G0 => ?_)
  refine tc_rb [0] [(0, Bo false)] ?_
  refine tc_seq ?_
  refine tc_region ?_
  refine runL_callR 4 (tagAsk_con G 1 ([97]) (Nat.le_of_ble_eq_true rfl) ([98]) (Nat.le_of_ble_eq_true rfl) 2 (by first | assumption | omega | (simp; done) | (simp; omega))) (fun v G1 L1 hl1 hp => ?_)
  obtain ⟨rfl, w1, w2, w3, w4, rfl⟩ := hp
  refine runL_b [0,0,0] [(0, Bo false), (5, .agg #[Sr (((tagAsk 1 ([97]) ([98]) 2).1).name), Sr (((tagAsk 1 ([97]) ([98]) 2).1).value), U (((tagAsk 1 ([97]) ([98]) 2).1).n), U (((tagAsk 1 ([97]) ([98]) 2).1).tag)]), (6, I ((tagAsk 1 ([97]) ([98]) 2).2))] ?_
  refine runL_box 1 #[Sr ([]), Sr ([]), U 0, U 0] 75 (fun b1 => ?_)
  refine runL_bs [3,0] [(0, Bo false), (1, Pt b1 0), (2, I ((tagAsk 1 ([97]) ([98]) 2).2))] [[Sg b1 0 [Sr (((tagAsk 1 ([97]) ([98]) 2).1).name), Sr (((tagAsk 1 ([97]) ([98]) 2).1).value), U (((tagAsk 1 ([97]) ([98]) 2).1).n), U (((tagAsk 1 ([97]) ([98]) 2).1).tag)]]] ?_
  refine runL_nil ?_
  refine tq_then ?_
  refine tc_seq ?_
  refine tc_region ?_
  refine runL_b [0,0,0] [(0, Bo false), (1, Pt b1 0), (9, Bo (decide ((tagAsk 1 ([97]) ([98]) 2).2 = 0)))] ?_
  refine runL_b2 (decide ((tagAsk 1 ([97]) ([98]) 2).2 = 0)) (fun bb => [(0, Bo false), (1, Pt b1 0), (9, Bo bb)]) [0,2,0,0] [1,1,1,0] (fun bb => [(0, Bo false), (1, Pt b1 0), (13, Bo (bb && (decide (((tagAsk 1 ([97]) ([98]) 2).1).n = 2))))]) ?_
  refine runL_b [0] [(0, Bo false), (1, Pt b1 0), (14, Bo ((decide ((tagAsk 1 ([97]) ([98]) 2).2 = 0)) && (decide (((tagAsk 1 ([97]) ([98]) 2).1).n = 2))))] ?_
  refine runL_cases (fun bb => [(0, Bo false), (1, Pt b1 0), (14, Bo bb)]) ((decide ((tagAsk 1 ([97]) ([98]) 2).2 = 0)) && (decide (((tagAsk 1 ([97]) ([98]) 2).1).n = 2))) (fun h1 => ?_) (fun h1 => ?_)
  ·
    try simp only [decide_eq_true_eq, decide_eq_false_iff_not, Bool.and_eq_true, Bool.or_eq_true, Bool.and_eq_false_imp, Bool.or_eq_false_iff, Bool.not_eq_true', Bool.not_eq_false', Bool.not_eq_true, Bool.not_eq_false, beq_iff_eq, beq_eq_false_iff_ne, bne_iff_ne, ne_eq, Decidable.not_not, Int.not_lt, Int.not_le] at h1
    refine runL_b [2] [(0, Bo false), (14, Bo true), (15, .agg #[Sr (((tagAsk 1 ([97]) ([98]) 2).1).name), Sr (((tagAsk 1 ([97]) ([98]) 2).1).value), U (((tagAsk 1 ([97]) ([98]) 2).1).n), U (((tagAsk 1 ([97]) ([98]) 2).1).tag)])] ?_
    refine runL_callV 16 (Bo (tagHolds 1 (((tagAsk 1 ([97]) ([98]) 2).1)))) (tagHolds_con G1 1 [Sr (((tagAsk 1 ([97]) ([98]) 2).1).name), Sr (((tagAsk 1 ([97]) ([98]) 2).1).value), U (((tagAsk 1 ([97]) ([98]) 2).1).n), U (((tagAsk 1 ([97]) ([98]) 2).1).tag)] (((tagAsk 1 ([97]) ([98]) 2).1)) (⟨rfl, w1, w2, w3, w4⟩)) ?_
    refine runL_b [0,0] [(0, Bo (tagHolds 1 (((tagAsk 1 ([97]) ([98]) 2).1))))] ?_
    refine runL_nil ?_
    refine tq_then ?_
    refine tc_ret ?_
    refine tq_ret [0] [Bo (tagHolds 1 (((tagAsk 1 ([97]) ([98]) 2).1)))] (bp_ret hl1 ?_)
    have hf_ : (tagHolds 1 (((tagAsk 1 ([97]) ([98]) 2).1))) = true := by
      first | decide +kernel | (revert h1; decide +kernel)
    exact congrArg Bo hf_
  ·
    try simp only [decide_eq_true_eq, decide_eq_false_iff_not, Bool.and_eq_true, Bool.or_eq_true, Bool.and_eq_false_imp, Bool.or_eq_false_iff, Bool.not_eq_true', Bool.not_eq_false', Bool.not_eq_true, Bool.not_eq_false, beq_iff_eq, beq_eq_false_iff_ne, bne_iff_ne, ne_eq, Decidable.not_not, Int.not_lt, Int.not_le] at h1
    refine runL_b [1,1,0,0] [(0, Bo false)] ?_
    refine runL_nil ?_
    refine tq_then ?_
    refine tc_ret ?_
    refine tq_ret [0] [Bo false] (bp_ret hl1 ?_)
    exfalso
    first | decide +kernel | (revert h1; decide +kernel)

theorem tagBindsLaw_con (G : Mem) (key : Int) (hw_key : 0 ≤ key ∧ key < 18446744073709551616) (s : List UInt8) (hw_s : (s).length ≤ 140737488351232) (t : List UInt8) (hw_t : (t).length ≤ 140737488351232) (x : Int) (hw_x : 0 ≤ x ∧ x < 18446744073709551616)  : Con Try.prog 5 #[U key, Sr s, Sr t, U x] G [] (fun u G' L' => u = Bo true) := by
  refine con_of Try.func5 52 [(0, U key), (1, Sr s), (2, Sr t), (3, U x)] rfl (fun w0 G0 => ?_)
  refine tc_rb [0] [(0, U key), (1, Sr s), (2, Sr t), (3, U x), (8, Bo false)] ?_
  refine tc_seq ?_
  refine tc_seq ?_
  refine tc_region ?_
  refine runL_callV 10 (Bo true) (tags_con G) ?_
  refine runL_b [0] [(0, U key), (1, Sr s), (2, Sr t), (3, U x), (8, Bo false), (11, Bo false)] ?_
  refine runL_nil ?_
  refine tq_then ?_
  refine tc_cond_false ?_
  refine tc_skip ?_
  refine tq_then ?_
  refine tc_seq ?_
  refine tc_seq ?_
  refine tc_region ?_
  refine runL_b [0,0,0,0] [(0, U key), (1, Sr s), (2, Sr t), (3, U x), (8, Bo false), (11, Bo false), (15, Bo (decide (((s).length : Int) > 1000)))] ?_
  refine runL_b2 (decide (((s).length : Int) > 1000)) (fun bb => [(0, U key), (1, Sr s), (2, Sr t), (3, U x), (8, Bo false), (11, Bo false), (15, Bo bb)]) [1,1,1,0] [0,0,0,0] (fun bb => [(0, U key), (1, Sr s), (2, Sr t), (3, U x), (8, Bo false), (11, Bo false), (19, Bo (bb || (decide (((t).length : Int) > 1000))))]) ?_
  refine runL_b [0] [(0, U key), (1, Sr s), (2, Sr t), (3, U x), (8, Bo false), (11, Bo false), (20, Bo ((decide (((s).length : Int) > 1000)) || (decide (((t).length : Int) > 1000))))] ?_
  refine runL_b2 ((decide (((s).length : Int) > 1000)) || (decide (((t).length : Int) > 1000))) (fun bb => [(0, U key), (1, Sr s), (2, Sr t), (3, U x), (8, Bo false), (11, Bo false), (20, Bo bb)]) [1,1,1,0] [0,0,0,0] (fun bb => [(0, U key), (1, Sr s), (2, Sr t), (3, U x), (8, Bo false), (11, Bo false), (24, Bo (bb || (((B s).toList == (B t).toList))))]) ?_
  refine runL_eq (fr' := [(0, U key), (1, Sr s), (2, Sr t), (3, U x), (8, Bo false), (11, Bo false), (24, Bo (((decide (((s).length : Int) > 1000)) || (decide (((t).length : Int) > 1000))) || ((s == t))))]) (L' := []) (by simp only [B_toList]) (by rfl) ?_
  refine runL_b [0] [(0, U key), (1, Sr s), (2, Sr t), (3, U x), (8, Bo false), (11, Bo false), (25, Bo (((decide (((s).length : Int) > 1000)) || (decide (((t).length : Int) > 1000))) || ((s == t))))] ?_
  refine runL_cases (fun bb => [(0, U key), (1, Sr s), (2, Sr t), (3, U x), (8, Bo false), (11, Bo false), (25, Bo bb)]) (((decide (((s).length : Int) > 1000)) || (decide (((t).length : Int) > 1000))) || ((s == t))) (fun h1 => ?_) (fun h1 => ?_)
  ·
    try simp only [decide_eq_true_eq, decide_eq_false_iff_not, Bool.and_eq_true, Bool.or_eq_true, Bool.and_eq_false_imp, Bool.or_eq_false_iff, Bool.not_eq_true', Bool.not_eq_false', Bool.not_eq_true, Bool.not_eq_false, beq_iff_eq, beq_eq_false_iff_ne, bne_iff_ne, ne_eq, Decidable.not_not, Int.not_lt, Int.not_le] at h1
    refine runL_b [1,1,1,1,1,0,0,1,1,1,1,1,0] [(0, U key), (1, Sr s), (2, Sr t), (8, Bo false), (11, Bo false), (38, Bo true)] ?_
    refine runL_nil ?_
    refine tq_then ?_
    refine tc_cond_true ?_
    refine tc_rb [0] [(0, U key), (1, Sr s), (2, Sr t), (8, Bo true), (11, Bo false), (38, Bo true)] ?_
    refine tc_ret ?_
    refine tq_then_ret ?_
    refine tq_ret [0] [Bo true] (bp_ret (Mem.le_refl _) ?_)
    rfl
  ·
    try simp only [decide_eq_true_eq, decide_eq_false_iff_not, Bool.and_eq_true, Bool.or_eq_true, Bool.and_eq_false_imp, Bool.or_eq_false_iff, Bool.not_eq_true', Bool.not_eq_false', Bool.not_eq_true, Bool.not_eq_false, beq_iff_eq, beq_eq_false_iff_ne, bne_iff_ne, ne_eq, Decidable.not_not, Int.not_lt, Int.not_le] at h1
    refine runL_b [0,0,0] [(0, U key), (1, Sr s), (2, Sr t), (3, U x), (8, Bo false), (11, Bo false), (25, Bo false), (26, U key), (27, Sr s), (28, U x)] ?_
    refine runL_callV 29 (Bo (tagRight key s x)) (tagRight_con G key s x (by first | assumption | omega)) ?_
    refine runL_b [0,0,0] [(0, U key), (1, Sr s), (2, Sr t), (3, U x), (8, Bo false), (11, Bo false), (32, Bo (!(tagRight key s x)))] ?_
    refine runL_cases (fun bb => [(0, U key), (1, Sr s), (2, Sr t), (3, U x), (8, Bo false), (11, Bo false), (32, Bo bb)]) (!(tagRight key s x)) (fun h2 => ?_) (fun h2 => ?_)
    ·
      try simp only [decide_eq_true_eq, decide_eq_false_iff_not, Bool.and_eq_true, Bool.or_eq_true, Bool.and_eq_false_imp, Bool.or_eq_false_iff, Bool.not_eq_true', Bool.not_eq_false', Bool.not_eq_true, Bool.not_eq_false, beq_iff_eq, beq_eq_false_iff_ne, bne_iff_ne, ne_eq, Decidable.not_not, Int.not_lt, Int.not_le] at h2
      refine runL_b [1,1,1,1,1,0] [(0, U key), (1, Sr s), (2, Sr t), (8, Bo false), (11, Bo false), (38, Bo true)] ?_
      refine runL_nil ?_
      refine tq_then ?_
      refine tc_cond_true ?_
      refine tc_rb [0] [(0, U key), (1, Sr s), (2, Sr t), (8, Bo true), (11, Bo false), (38, Bo true)] ?_
      refine tc_ret ?_
      refine tq_then_ret ?_
      refine tq_ret [0] [Bo true] (bp_ret (Mem.le_refl _) ?_)
      rfl
    ·
      try simp only [decide_eq_true_eq, decide_eq_false_iff_not, Bool.and_eq_true, Bool.or_eq_true, Bool.and_eq_false_imp, Bool.or_eq_false_iff, Bool.not_eq_true', Bool.not_eq_false', Bool.not_eq_true, Bool.not_eq_false, beq_iff_eq, beq_eq_false_iff_ne, bne_iff_ne, ne_eq, Decidable.not_not, Int.not_lt, Int.not_le] at h2
      refine runL_b [0,0,0] [(0, U key), (1, Sr s), (2, Sr t), (8, Bo false), (11, Bo false), (32, Bo false), (33, U key), (34, Sr t), (35, U x)] ?_
      refine runL_callV 36 (Bo (tagRight key t x)) (tagRight_con G key t x (by first | assumption | omega)) ?_
      refine runL_b [0,0] [(0, U key), (1, Sr s), (2, Sr t), (8, Bo false), (11, Bo false), (38, Bo (!(tagRight key t x)))] ?_
      refine runL_nil ?_
      refine tq_then ?_
      refine tc_cond (!(tagRight key t x)) (fun h3 => ?_) (fun h3 => ?_)
      ·
        try simp only [decide_eq_true_eq, decide_eq_false_iff_not, Bool.and_eq_true, Bool.or_eq_true, Bool.and_eq_false_imp, Bool.or_eq_false_iff, Bool.not_eq_true', Bool.not_eq_false', Bool.not_eq_true, Bool.not_eq_false, beq_iff_eq, beq_eq_false_iff_ne, bne_iff_ne, ne_eq, Decidable.not_not, Int.not_lt, Int.not_le] at h3
        refine tc_rb [0] [(0, U key), (1, Sr s), (2, Sr t), (8, Bo true), (11, Bo false), (38, Bo (!(tagRight key t x)))] ?_
        refine tc_ret ?_
        refine tq_then_ret ?_
        refine tq_ret [0] [Bo true] (bp_ret (Mem.le_refl _) ?_)
        rfl
      ·
        try simp only [decide_eq_true_eq, decide_eq_false_iff_not, Bool.and_eq_true, Bool.or_eq_true, Bool.and_eq_false_imp, Bool.or_eq_false_iff, Bool.not_eq_true', Bool.not_eq_false', Bool.not_eq_true, Bool.not_eq_false, beq_iff_eq, beq_eq_false_iff_ne, bne_iff_ne, ne_eq, Decidable.not_not, Int.not_lt, Int.not_le] at h3
        refine tc_skip ?_
        refine tq_then ?_
        refine tc_seq ?_
        refine tc_region ?_
        refine runL_b [0] [(0, U key), (1, Sr s), (2, Sr t), (8, Bo false), (11, Bo false), (38, Bo (!(tagRight key t x))), (39, U key)] ?_
        refine runL_callV 40 (Sr (numB key)) (num_con key G) ?_
        refine runL_b [0] [(0, U key), (1, Sr s), (2, Sr t), (8, Bo false), (9, Sr (numB key)), (11, Bo false), (38, Bo (!(tagRight key t x)))] ?_
        refine runL_nil ?_
        refine tq_then ?_
        refine tc_seq ?_
        refine tc_region ?_
        refine runL_b [0,0] [(0, U key), (1, Sr s), (2, Sr t), (8, Bo false), (9, Sr (numB key)), (11, Bo false), (38, Bo (!(tagRight key t x))), (41, Sr (numB key)), (42, Sr s)] ?_
        refine runL_cat 43 (numB key) s (by simp only [List.length_append, numB_len]; omega) ?_
        refine runL_b [0] [(0, U key), (1, Sr s), (2, Sr t), (8, Bo false), (9, Sr (numB key)), (11, Bo false), (38, Bo (!(tagRight key t x))), (43, Sr ((numB key) ++ s)), (44, Sr (numB key))] ?_
        refine runL_cat 45 ((numB key) ++ s) (numB key) (by simp only [List.length_append, numB_len]; omega) ?_
        refine runL_b [0,0] [(0, U key), (1, Sr s), (2, Sr t), (8, Bo false), (9, Sr (numB key)), (11, Bo false), (38, Bo (!(tagRight key t x))), (45, Sr (((numB key) ++ s) ++ (numB key))), (46, Sr (numB key)), (47, Sr t)] ?_
        refine runL_cat 48 (numB key) t (by simp only [List.length_append, numB_len]; omega) ?_
        refine runL_b [0] [(0, U key), (1, Sr s), (2, Sr t), (8, Bo false), (11, Bo false), (38, Bo (!(tagRight key t x))), (45, Sr (((numB key) ++ s) ++ (numB key))), (48, Sr ((numB key) ++ t)), (49, Sr (numB key))] ?_
        refine runL_cat 50 ((numB key) ++ t) (numB key) (by simp only [List.length_append, numB_len]; omega) ?_
        refine runL_callV 51 (Bo (!((((numB key) ++ s) ++ (numB key)) == (((numB key) ++ t) ++ (numB key))) && decide (markOf (((numB key) ++ s) ++ (numB key)) = markOf (((numB key) ++ t) ++ (numB key))))) (markAlike_con (((numB key) ++ s) ++ (numB key)) (((numB key) ++ t) ++ (numB key)) (le48 (by first | assumption | omega | (simp; done) | (simp; omega))) (le48 (by first | assumption | omega | (simp; done) | (simp; omega))) G) ?_
        refine runL_b [0] [(0, U key), (1, Sr s), (2, Sr t), (8, Bo (!((((numB key) ++ s) ++ (numB key)) == (((numB key) ++ t) ++ (numB key))) && decide (markOf (((numB key) ++ s) ++ (numB key)) = markOf (((numB key) ++ t) ++ (numB key))))), (11, Bo false), (38, Bo (!(tagRight key t x)))] ?_
        refine runL_nil ?_
        refine tq_then ?_
        refine tc_ret ?_
        refine tq_ret [0] [Bo (!((((numB key) ++ s) ++ (numB key)) == (((numB key) ++ t) ++ (numB key))) && decide (markOf (((numB key) ++ s) ++ (numB key)) = markOf (((numB key) ++ t) ++ (numB key))))] (bp_ret (Mem.le_refl _) ?_)
        have hf_ : (!((((numB key) ++ s) ++ (numB key)) == (((numB key) ++ t) ++ (numB key))) && decide (markOf (((numB key) ++ s) ++ (numB key)) = markOf (((numB key) ++ t) ++ (numB key)))) = true := by
          have q_ := fun e1 e2 => @tagBinds_law key s t x e1 e2; (try simp only [beq_iff_eq] at *); first | grind | (simp_all; done)
        exact congrArg Bo hf_
end Go.Proofs.Ytggljibhfbgmpaa
