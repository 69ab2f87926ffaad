import Derived.Test.YtgcnkcajfjpbcaaMark
namespace Go.Proofs.Ytgcnkcajfjpbcaa
open Go.Tx
set_option linter.unusedVariables false
set_option linter.unusedSimpArgs false

theorem emod_ex (a : Int) : ∃ k, a % 2305843009213693951 = a - 2305843009213693951 * k := ⟨a / 2305843009213693951, by omega⟩
theorem emod_of_eq {a b k : Int} (h : a = b + 2305843009213693951 * k) : a % 2305843009213693951 = b % 2305843009213693951 := by omega
theorem mark_lin : ∀ (s : List UInt8) (m : Int), (s.foldl markS m) % 2305843009213693951 = (m * 1099511628211 ^ s.length + s.foldl markS 0) % 2305843009213693951
  | [], m => by simp
  | b :: s, m => by
    have h1 := mark_lin s (markS m b)
    have h2 := mark_lin s (markS 0 b)
    rw [List.foldl_cons, List.foldl_cons, List.length_cons, h1]
    obtain ⟨k1, e1⟩ := emod_ex (s.foldl markS (markS 0 b))
    obtain ⟨k2, e2⟩ := emod_ex (markS 0 b * 1099511628211 ^ s.length + s.foldl markS 0)
    have e3 : s.foldl markS (markS 0 b) = markS 0 b * 1099511628211 ^ s.length + s.foldl markS 0 + 2305843009213693951 * (k1 - k2) := by omega
    obtain ⟨k3, e4⟩ : ∃ k, markS m b = m * 1099511628211 + markS 0 b + 2305843009213693951 * k := by
      unfold markS timesM
      exact ⟨(m * 1099511628211 + (b.toNat : Int) + 1) / 2305843009213693951 * (-1) + (0 * 1099511628211 % 2305843009213693951 + (b.toNat : Int) + 1) / 2305843009213693951 + (((m * 1099511628211) % 2305843009213693951 + (b.toNat : Int) + 1) / 2305843009213693951 * (-1) + (m * 1099511628211 + (b.toNat : Int) + 1) / 2305843009213693951 - m * 1099511628211 / 2305843009213693951), by omega⟩
    rw [e3, e4, Int.pow_succ]
    refine emod_of_eq (k := k3 * 1099511628211 ^ s.length - (k1 - k2)) ?_
    generalize (1099511628211 : Int) ^ s.length = P
    generalize markS 0 b = x
    generalize s.foldl markS 0 = y
    rw [Int.add_mul, Int.add_mul, Int.mul_sub, ← Int.mul_assoc m P, Int.mul_assoc m 1099511628211 P, Int.mul_comm 1099511628211 P, ← Int.mul_assoc m P, Int.mul_assoc 2305843009213693951 k3 P]
    omega
theorem alike_symm (s t : List UInt8) : (!s == t && decide (markOf s = markOf t)) = (!t == s && decide (markOf t = markOf s)) := by
  have e1 : (s == t) = (t == s) := Bool.eq_iff_iff.2 (by simp only [beq_iff_eq]; exact ⟨Eq.symm, Eq.symm⟩)
  have e2 : decide (markOf s = markOf t) = decide (markOf t = markOf s) := decide_eq_decide.2 ⟨Eq.symm, Eq.symm⟩
  rw [e1, e2]
theorem alike_app {s t u : List UInt8} (h : ¬ s = t ∧ markOf s = markOf t) : ¬ s ++ u = t ++ u ∧ markOf (s ++ u) = markOf (t ++ u) := by
  refine ⟨fun e => h.1 (List.append_cancel_right e), ?_⟩
  have h2 := h.2
  unfold markOf at h2 ⊢
  rw [List.foldl_append, List.foldl_append, h2]
theorem alike_pre {s t u : List UInt8} (h : ¬ s = t ∧ markOf s = markOf t) (hl : s.length = t.length) : ¬ u ++ s = u ++ t ∧ markOf (u ++ s) = markOf (u ++ t) := by
  refine ⟨fun e => h.1 (List.append_cancel_left e), ?_⟩
  have h2 := h.2
  have b1 := markOf_bd (u ++ s)
  have b2 := markOf_bd (u ++ t)
  unfold markOf at h2 b1 b2 ⊢
  rw [List.foldl_append] at b1 b2 ⊢
  rw [List.foldl_append]
  have l1 := mark_lin s 1
  have l2 := mark_lin t 1
  have l3 := mark_lin s (u.foldl markS 1)
  have l4 := mark_lin t (u.foldl markS 1)
  rw [hl] at l1 l3
  rw [h2] at l1
  have b3 := foldl_bd s 1 (by omega)
  omega

theorem markAlikeLaw_con (s t u : List UInt8) (hs : s.length ≤ 140737488355328) (ht : t.length ≤ 140737488355328) (hu : u.length ≤ 140737488355328) (G : Mem) : Con Try.prog 11 #[Sr s, Sr t, Sr u] G [] (fun u G' L' => u = Bo true) := by
  refine con_of Try.func11 63 [(0, Sr s), (1, Sr t), (2, Sr u)] rfl (fun w0 G0 => ?_)
  refine tc_rb [0] [(0, Sr s), (1, Sr t), (2, Sr u), (6, Bo false)] ?_
  refine tc_seq ?_
  refine tc_seq ?_
  refine tc_region ?_
  refine runL_callV 8 (Bo true) (marked_con  G) ?_
  refine runL_b [0] [(0, Sr s), (1, Sr t), (2, Sr u), (6, Bo false), (9, Bo false)] ?_
  refine runL_nil ?_
  refine tq_then ?_
  refine tc_cond_false ?_
  refine tc_skip ?_
  refine tq_then ?_
  refine tc_seq ?_
  refine tc_seq ?_
  refine tc_region ?_
  refine runL_b [0,0,0,0] [(0, Sr s), (1, Sr t), (2, Sr u), (6, Bo false), (9, Bo false), (13, Bo (decide (((s).length : Int) > 1000)))] ?_
  refine runL_b2 (decide (((s).length : Int) > 1000)) (fun bb => [(0, Sr s), (1, Sr t), (2, Sr u), (6, Bo false), (9, Bo false), (13, Bo bb)]) [1,1,1,0] [0,0,0,0] (fun bb => [(0, Sr s), (1, Sr t), (2, Sr u), (6, Bo false), (9, Bo false), (17, Bo (bb || (decide (((t).length : Int) > 1000))))]) ?_
  refine runL_b [0] [(0, Sr s), (1, Sr t), (2, Sr u), (6, Bo false), (9, Bo false), (18, Bo ((decide (((s).length : Int) > 1000)) || (decide (((t).length : Int) > 1000))))] ?_
  refine runL_b2 ((decide (((s).length : Int) > 1000)) || (decide (((t).length : Int) > 1000))) (fun bb => [(0, Sr s), (1, Sr t), (2, Sr u), (6, Bo false), (9, Bo false), (18, Bo bb)]) [1,1,1,0] [0,0,0,0] (fun bb => [(0, Sr s), (1, Sr t), (2, Sr u), (6, Bo false), (9, Bo false), (22, Bo (bb || (decide (((u).length : Int) > 1000))))]) ?_
  refine runL_nil ?_
  refine tq_then ?_
  refine tc_cond (((decide (((s).length : Int) > 1000)) || (decide (((t).length : Int) > 1000))) || (decide (((u).length : Int) > 1000))) (fun h1 => ?_) (fun h1 => ?_)
  ·
    try simp only [decide_eq_true_eq, decide_eq_false_iff_not, Bool.and_eq_true, Bool.or_eq_true, Bool.and_eq_false_imp, Bool.or_eq_false_iff, Bool.not_eq_true', Bool.not_eq_false', Bool.not_eq_true, Bool.not_eq_false, beq_iff_eq, beq_eq_false_iff_ne, bne_iff_ne, ne_eq, Decidable.not_not, Int.not_lt, Int.not_le] at h1
    refine tc_rb [0] [(0, Sr s), (1, Sr t), (2, Sr u), (6, Bo true), (9, Bo false), (22, Bo (((decide (((s).length : Int) > 1000)) || (decide (((t).length : Int) > 1000))) || (decide (((u).length : Int) > 1000))))] ?_
    refine tc_ret ?_
    refine tq_then_ret ?_
    refine tq_ret [0] [Bo true] (bp_ret (Mem.le_refl _) ?_)
    first | rfl | (exfalso; exact h2 (alike_symm s t)) | (exfalso; exact h3.1 trivial) | (have hp := alike_pre (u := u) h4 (by omega); simp [hp.1, hp.2, packR]; done) | (exfalso; exact h5 (alike_app h4).1 (alike_app h4).2)
  ·
    try simp only [decide_eq_true_eq, decide_eq_false_iff_not, Bool.and_eq_true, Bool.or_eq_true, Bool.and_eq_false_imp, Bool.or_eq_false_iff, Bool.not_eq_true', Bool.not_eq_false', Bool.not_eq_true, Bool.not_eq_false, beq_iff_eq, beq_eq_false_iff_ne, bne_iff_ne, ne_eq, Decidable.not_not, Int.not_lt, Int.not_le] at h1
    refine tc_skip ?_
    refine tq_then ?_
    refine tc_seq ?_
    refine tc_region ?_
    refine runL_b [0,0] [(0, Sr s), (1, Sr t), (2, Sr u), (6, Bo false), (9, Bo false), (22, Bo (((decide (((s).length : Int) > 1000)) || (decide (((t).length : Int) > 1000))) || (decide (((u).length : Int) > 1000)))), (23, Sr s), (24, Sr t)] ?_
    refine runL_callV 25 (Bo (!(s == t) && decide (markOf s = markOf t))) (markAlike_con s t (by first | assumption | omega | (simp [markSaid]; done) | (simp; omega)) (by first | assumption | omega | (simp [markSaid]; done) | (simp; omega)) G) ?_
    refine runL_b [0] [(0, Sr s), (1, Sr t), (2, Sr u), (6, Bo false), (7, Bo (!(s == t) && decide (markOf s = markOf t))), (9, Bo false), (22, Bo (((decide (((s).length : Int) > 1000)) || (decide (((t).length : Int) > 1000))) || (decide (((u).length : Int) > 1000))))] ?_
    refine runL_nil ?_
    refine tq_then ?_
    refine tc_seq ?_
    refine tc_seq ?_
    refine tc_region ?_
    refine runL_b [0,0,0] [(0, Sr s), (1, Sr t), (2, Sr u), (6, Bo false), (7, Bo (!(s == t) && decide (markOf s = markOf t))), (9, Bo false), (22, Bo (((decide (((s).length : Int) > 1000)) || (decide (((t).length : Int) > 1000))) || (decide (((u).length : Int) > 1000)))), (26, Bo (!(s == t) && decide (markOf s = markOf t))), (27, Sr t), (28, Sr s)] ?_
    refine runL_callV 29 (Bo (!(t == s) && decide (markOf t = markOf s))) (markAlike_con t s (by first | assumption | omega | (simp [markSaid]; done) | (simp; omega)) (by first | assumption | omega | (simp [markSaid]; done) | (simp; omega)) G) ?_
    refine runL_b [0,0] [(0, Sr s), (1, Sr t), (2, Sr u), (6, Bo false), (7, Bo (!(s == t) && decide (markOf s = markOf t))), (9, Bo false), (22, Bo (((decide (((s).length : Int) > 1000)) || (decide (((t).length : Int) > 1000))) || (decide (((u).length : Int) > 1000)))), (31, Bo (!((!(s == t) && decide (markOf s = markOf t)) == (!(t == s) && decide (markOf t = markOf s)))))] ?_
    refine runL_cases (fun bb => [(0, Sr s), (1, Sr t), (2, Sr u), (6, Bo false), (7, Bo (!(s == t) && decide (markOf s = markOf t))), (9, Bo false), (22, Bo (((decide (((s).length : Int) > 1000)) || (decide (((t).length : Int) > 1000))) || (decide (((u).length : Int) > 1000)))), (31, Bo bb)]) (!((!(s == t) && decide (markOf s = markOf t)) == (!(t == s) && decide (markOf t = markOf s)))) (fun h2 => ?_) (fun h2 => ?_)
    ·
      try simp only [decide_eq_true_eq, decide_eq_false_iff_not, Bool.and_eq_true, Bool.or_eq_true, Bool.and_eq_false_imp, Bool.or_eq_false_iff, Bool.not_eq_true', Bool.not_eq_false', Bool.not_eq_true, Bool.not_eq_false, beq_iff_eq, beq_eq_false_iff_ne, bne_iff_ne, ne_eq, Decidable.not_not, Int.not_lt, Int.not_le] at h2
      refine runL_b [1,1,1,0] [(0, Sr s), (1, Sr t), (2, Sr u), (6, Bo false), (7, Bo (!(s == t) && decide (markOf s = markOf t))), (9, Bo false), (22, Bo (((decide (((s).length : Int) > 1000)) || (decide (((t).length : Int) > 1000))) || (decide (((u).length : Int) > 1000)))), (35, Bo true)] ?_
      refine runL_nil ?_
      refine tq_then ?_
      refine tc_cond_true ?_
      refine tc_rb [0] [(0, Sr s), (1, Sr t), (2, Sr u), (6, Bo false), (7, Bo (!(s == t) && decide (markOf s = markOf t))), (9, Bo false), (22, Bo (((decide (((s).length : Int) > 1000)) || (decide (((t).length : Int) > 1000))) || (decide (((u).length : Int) > 1000)))), (35, Bo true)] ?_
      refine tc_ret ?_
      refine tq_then_ret ?_
      refine tq_ret [0] [Bo false] (bp_ret (Mem.le_refl _) ?_)
      first | rfl | (exfalso; exact h2 (alike_symm s t)) | (exfalso; exact h3.1 trivial) | (have hp := alike_pre (u := u) h4 (by omega); simp [hp.1, hp.2, packR]; done) | (exfalso; exact h5 (alike_app h4).1 (alike_app h4).2)
    ·
      try simp only [decide_eq_true_eq, decide_eq_false_iff_not, Bool.and_eq_true, Bool.or_eq_true, Bool.and_eq_false_imp, Bool.or_eq_false_iff, Bool.not_eq_true', Bool.not_eq_false', Bool.not_eq_true, Bool.not_eq_false, beq_iff_eq, beq_eq_false_iff_ne, bne_iff_ne, ne_eq, Decidable.not_not, Int.not_lt, Int.not_le] at h2
      refine runL_b [0,0] [(0, Sr s), (1, Sr t), (2, Sr u), (6, Bo false), (7, Bo (!(s == t) && decide (markOf s = markOf t))), (9, Bo false), (22, Bo (((decide (((s).length : Int) > 1000)) || (decide (((t).length : Int) > 1000))) || (decide (((u).length : Int) > 1000)))), (31, Bo false), (32, Sr s), (33, Sr s)] ?_
      refine runL_callV 34 (Bo (!(s == s) && decide (markOf s = markOf s))) (markAlike_con s s (by first | assumption | omega | (simp [markSaid]; done) | (simp; omega)) (by first | assumption | omega | (simp [markSaid]; done) | (simp; omega)) G) ?_
      refine runL_b [0] [(0, Sr s), (1, Sr t), (2, Sr u), (6, Bo false), (7, Bo (!(s == t) && decide (markOf s = markOf t))), (9, Bo false), (22, Bo (((decide (((s).length : Int) > 1000)) || (decide (((t).length : Int) > 1000))) || (decide (((u).length : Int) > 1000)))), (35, Bo (!(s == s) && decide (markOf s = markOf s)))] ?_
      refine runL_nil ?_
      refine tq_then ?_
      refine tc_cond (!(s == s) && decide (markOf s = markOf s)) (fun h3 => ?_) (fun h3 => ?_)
      ·
        try simp only [decide_eq_true_eq, decide_eq_false_iff_not, Bool.and_eq_true, Bool.or_eq_true, Bool.and_eq_false_imp, Bool.or_eq_false_iff, Bool.not_eq_true', Bool.not_eq_false', Bool.not_eq_true, Bool.not_eq_false, beq_iff_eq, beq_eq_false_iff_ne, bne_iff_ne, ne_eq, Decidable.not_not, Int.not_lt, Int.not_le] at h3
        refine tc_rb [0] [(0, Sr s), (1, Sr t), (2, Sr u), (6, Bo false), (7, Bo (!(s == t) && decide (markOf s = markOf t))), (9, Bo false), (22, Bo (((decide (((s).length : Int) > 1000)) || (decide (((t).length : Int) > 1000))) || (decide (((u).length : Int) > 1000)))), (35, Bo (!(s == s) && decide (markOf s = markOf s)))] ?_
        refine tc_ret ?_
        refine tq_then_ret ?_
        refine tq_ret [0] [Bo false] (bp_ret (Mem.le_refl _) ?_)
        first | rfl | (exfalso; exact h2 (alike_symm s t)) | (exfalso; exact h3.1 trivial) | (have hp := alike_pre (u := u) h4 (by omega); simp [hp.1, hp.2, packR]; done) | (exfalso; exact h5 (alike_app h4).1 (alike_app h4).2)
      ·
        try simp only [decide_eq_true_eq, decide_eq_false_iff_not, Bool.and_eq_true, Bool.or_eq_true, Bool.and_eq_false_imp, Bool.or_eq_false_iff, Bool.not_eq_true', Bool.not_eq_false', Bool.not_eq_true, Bool.not_eq_false, beq_iff_eq, beq_eq_false_iff_ne, bne_iff_ne, ne_eq, Decidable.not_not, Int.not_lt, Int.not_le] at h3
        refine tc_skip ?_
        refine tq_then ?_
        refine tc_seq ?_
        refine tc_region ?_
        refine runL_b [0,0,0] [(0, Sr s), (1, Sr t), (2, Sr u), (6, Bo false), (7, Bo (!(s == t) && decide (markOf s = markOf t))), (9, Bo false), (22, Bo (((decide (((s).length : Int) > 1000)) || (decide (((t).length : Int) > 1000))) || (decide (((u).length : Int) > 1000)))), (35, Bo (!(s == s) && decide (markOf s = markOf s))), (38, Bo (!(!(s == t) && decide (markOf s = markOf t))))] ?_
        refine runL_cases (fun bb => [(0, Sr s), (1, Sr t), (2, Sr u), (6, Bo false), (7, Bo (!(s == t) && decide (markOf s = markOf t))), (9, Bo false), (22, Bo (((decide (((s).length : Int) > 1000)) || (decide (((t).length : Int) > 1000))) || (decide (((u).length : Int) > 1000)))), (35, Bo (!(s == s) && decide (markOf s = markOf s))), (38, Bo bb)]) (!(!(s == t) && decide (markOf s = markOf t))) (fun h4 => ?_) (fun h4 => ?_)
        ·
          try simp only [decide_eq_true_eq, decide_eq_false_iff_not, Bool.and_eq_true, Bool.or_eq_true, Bool.and_eq_false_imp, Bool.or_eq_false_iff, Bool.not_eq_true', Bool.not_eq_false', Bool.not_eq_true, Bool.not_eq_false, beq_iff_eq, beq_eq_false_iff_ne, bne_iff_ne, ne_eq, Decidable.not_not, Int.not_lt, Int.not_le] at h4
          refine runL_b [1,1,1,1,1,1,1,1,1,1,1,1,1,1,1,1,1,1,1,1,1,1,1,0,0] [(0, Sr s), (1, Sr t), (2, Sr u), (6, Bo true), (7, Bo (!(s == t) && decide (markOf s = markOf t))), (9, Bo false), (22, Bo (((decide (((s).length : Int) > 1000)) || (decide (((t).length : Int) > 1000))) || (decide (((u).length : Int) > 1000)))), (35, Bo (!(s == s) && decide (markOf s = markOf s)))] ?_
          refine runL_nil ?_
          refine tq_then ?_
          refine tc_ret ?_
          refine tq_ret [0] [Bo true] (bp_ret (Mem.le_refl _) ?_)
          first | rfl | (exfalso; exact h2 (alike_symm s t)) | (exfalso; exact h3.1 trivial) | (have hp := alike_pre (u := u) h4 (by omega); simp [hp.1, hp.2, packR]; done) | (exfalso; exact h5 (alike_app h4).1 (alike_app h4).2)
        ·
          try simp only [decide_eq_true_eq, decide_eq_false_iff_not, Bool.and_eq_true, Bool.or_eq_true, Bool.and_eq_false_imp, Bool.or_eq_false_iff, Bool.not_eq_true', Bool.not_eq_false', Bool.not_eq_true, Bool.not_eq_false, beq_iff_eq, beq_eq_false_iff_ne, bne_iff_ne, ne_eq, Decidable.not_not, Int.not_lt, Int.not_le] at h4
          refine runL_b [0,0] [(0, Sr s), (1, Sr t), (2, Sr u), (6, Bo false), (7, Bo (!(s == t) && decide (markOf s = markOf t))), (9, Bo false), (22, Bo (((decide (((s).length : Int) > 1000)) || (decide (((t).length : Int) > 1000))) || (decide (((u).length : Int) > 1000)))), (35, Bo (!(s == s) && decide (markOf s = markOf s))), (38, Bo false), (39, Sr s), (40, Sr u)] ?_
          refine runL_cat 41 s u (by omega) ?_
          refine runL_b [0,0] [(0, Sr s), (1, Sr t), (2, Sr u), (6, Bo false), (7, Bo (!(s == t) && decide (markOf s = markOf t))), (9, Bo false), (22, Bo (((decide (((s).length : Int) > 1000)) || (decide (((t).length : Int) > 1000))) || (decide (((u).length : Int) > 1000)))), (35, Bo (!(s == s) && decide (markOf s = markOf s))), (38, Bo false), (41, Sr (s ++ u)), (42, Sr t), (43, Sr u)] ?_
          refine runL_cat 44 t u (by omega) ?_
          refine runL_callV 45 (Bo (!((s ++ u) == (t ++ u)) && decide (markOf (s ++ u) = markOf (t ++ u)))) (markAlike_con (s ++ u) (t ++ u) (by first | assumption | omega | (simp [markSaid]; done) | (simp; omega)) (by first | assumption | omega | (simp [markSaid]; done) | (simp; omega)) G) ?_
          refine runL_b [0] [(0, Sr s), (1, Sr t), (2, Sr u), (6, Bo false), (7, Bo (!(s == t) && decide (markOf s = markOf t))), (9, Bo false), (22, Bo (((decide (((s).length : Int) > 1000)) || (decide (((t).length : Int) > 1000))) || (decide (((u).length : Int) > 1000)))), (35, Bo (!(s == s) && decide (markOf s = markOf s))), (38, Bo false), (46, Bo (!((s ++ u) == (t ++ u)) && decide (markOf (s ++ u) = markOf (t ++ u))))] ?_
          refine runL_cases (fun bb => [(0, Sr s), (1, Sr t), (2, Sr u), (6, Bo false), (7, Bo (!(s == t) && decide (markOf s = markOf t))), (9, Bo false), (22, Bo (((decide (((s).length : Int) > 1000)) || (decide (((t).length : Int) > 1000))) || (decide (((u).length : Int) > 1000)))), (35, Bo (!(s == s) && decide (markOf s = markOf s))), (38, Bo false), (46, Bo bb)]) (!((s ++ u) == (t ++ u)) && decide (markOf (s ++ u) = markOf (t ++ u))) (fun h5 => ?_) (fun h5 => ?_)
          ·
            try simp only [decide_eq_true_eq, decide_eq_false_iff_not, Bool.and_eq_true, Bool.or_eq_true, Bool.and_eq_false_imp, Bool.or_eq_false_iff, Bool.not_eq_true', Bool.not_eq_false', Bool.not_eq_true, Bool.not_eq_false, beq_iff_eq, beq_eq_false_iff_ne, bne_iff_ne, ne_eq, Decidable.not_not, Int.not_lt, Int.not_le] at h5
            refine runL_b [0,0,0,0,0,0] [(0, Sr s), (1, Sr t), (2, Sr u), (6, Bo false), (7, Bo (!(s == t) && decide (markOf s = markOf t))), (9, Bo false), (22, Bo (((decide (((s).length : Int) > 1000)) || (decide (((t).length : Int) > 1000))) || (decide (((u).length : Int) > 1000)))), (35, Bo (!(s == s) && decide (markOf s = markOf s))), (38, Bo false), (46, Bo true), (52, Bo (!decide (((s).length : Int) = ((t).length : Int))))] ?_
            refine runL_cases (fun bb => [(0, Sr s), (1, Sr t), (2, Sr u), (6, Bo false), (7, Bo (!(s == t) && decide (markOf s = markOf t))), (9, Bo false), (22, Bo (((decide (((s).length : Int) > 1000)) || (decide (((t).length : Int) > 1000))) || (decide (((u).length : Int) > 1000)))), (35, Bo (!(s == s) && decide (markOf s = markOf s))), (38, Bo false), (46, Bo true), (52, Bo bb)]) (!decide (((s).length : Int) = ((t).length : Int))) (fun h6 => ?_) (fun h6 => ?_)
            ·
              try simp only [decide_eq_true_eq, decide_eq_false_iff_not, Bool.and_eq_true, Bool.or_eq_true, Bool.and_eq_false_imp, Bool.or_eq_false_iff, Bool.not_eq_true', Bool.not_eq_false', Bool.not_eq_true, Bool.not_eq_false, beq_iff_eq, beq_eq_false_iff_ne, bne_iff_ne, ne_eq, Decidable.not_not, Int.not_lt, Int.not_le] at h6
              refine runL_b [1,1,1,1,1,1,1,0,0,0,0] [(0, Sr s), (1, Sr t), (2, Sr u), (6, Bo true), (7, Bo (!(s == t) && decide (markOf s = markOf t))), (9, Bo false), (22, Bo (((decide (((s).length : Int) > 1000)) || (decide (((t).length : Int) > 1000))) || (decide (((u).length : Int) > 1000)))), (35, Bo (!(s == s) && decide (markOf s = markOf s)))] ?_
              refine runL_nil ?_
              refine tq_then ?_
              refine tc_ret ?_
              refine tq_ret [0] [Bo true] (bp_ret (Mem.le_refl _) ?_)
              first | rfl | (exfalso; exact h2 (alike_symm s t)) | (exfalso; exact h3.1 trivial) | (have hp := alike_pre (u := u) h4 (by omega); simp [hp.1, hp.2, packR]; done) | (exfalso; exact h5 (alike_app h4).1 (alike_app h4).2)
            ·
              try simp only [decide_eq_true_eq, decide_eq_false_iff_not, Bool.and_eq_true, Bool.or_eq_true, Bool.and_eq_false_imp, Bool.or_eq_false_iff, Bool.not_eq_true', Bool.not_eq_false', Bool.not_eq_true, Bool.not_eq_false, beq_iff_eq, beq_eq_false_iff_ne, bne_iff_ne, ne_eq, Decidable.not_not, Int.not_lt, Int.not_le] at h6
              refine runL_b [0,0] [(0, Sr s), (1, Sr t), (2, Sr u), (6, Bo false), (7, Bo (!(s == t) && decide (markOf s = markOf t))), (9, Bo false), (22, Bo (((decide (((s).length : Int) > 1000)) || (decide (((t).length : Int) > 1000))) || (decide (((u).length : Int) > 1000)))), (35, Bo (!(s == s) && decide (markOf s = markOf s))), (38, Bo false), (46, Bo true), (52, Bo false), (53, Sr u), (54, Sr s)] ?_
              refine runL_cat 55 u s (by omega) ?_
              refine runL_b [0,0] [(0, Sr s), (1, Sr t), (2, Sr u), (6, Bo false), (7, Bo (!(s == t) && decide (markOf s = markOf t))), (9, Bo false), (22, Bo (((decide (((s).length : Int) > 1000)) || (decide (((t).length : Int) > 1000))) || (decide (((u).length : Int) > 1000)))), (35, Bo (!(s == s) && decide (markOf s = markOf s))), (38, Bo false), (46, Bo true), (52, Bo false), (55, Sr (u ++ s)), (56, Sr u), (57, Sr t)] ?_
              refine runL_cat 58 u t (by omega) ?_
              refine runL_callV 59 (Bo (!((u ++ s) == (u ++ t)) && decide (markOf (u ++ s) = markOf (u ++ t)))) (markAlike_con (u ++ s) (u ++ t) (by first | assumption | omega | (simp [markSaid]; done) | (simp; omega)) (by first | assumption | omega | (simp [markSaid]; done) | (simp; omega)) G) ?_
              refine runL_b [0,0,0,0] [(0, Sr s), (1, Sr t), (2, Sr u), (6, Bo (!((u ++ s) == (u ++ t)) && decide (markOf (u ++ s) = markOf (u ++ t)))), (7, Bo (!(s == t) && decide (markOf s = markOf t))), (9, Bo false), (22, Bo (((decide (((s).length : Int) > 1000)) || (decide (((t).length : Int) > 1000))) || (decide (((u).length : Int) > 1000)))), (35, Bo (!(s == s) && decide (markOf s = markOf s)))] ?_
              refine runL_nil ?_
              refine tq_then ?_
              refine tc_ret ?_
              refine tq_ret [0] [Bo (!((u ++ s) == (u ++ t)) && decide (markOf (u ++ s) = markOf (u ++ t)))] (bp_ret (Mem.le_refl _) ?_)
              first | rfl | (exfalso; exact h2 (alike_symm s t)) | (exfalso; exact h3.1 trivial) | (have hp := alike_pre (u := u) h4 (by omega); simp [hp.1, hp.2, packR]; done) | (exfalso; exact h5 (alike_app h4).1 (alike_app h4).2)
          ·
            try simp only [decide_eq_true_eq, decide_eq_false_iff_not, Bool.and_eq_true, Bool.or_eq_true, Bool.and_eq_false_imp, Bool.or_eq_false_iff, Bool.not_eq_true', Bool.not_eq_false', Bool.not_eq_true, Bool.not_eq_false, beq_iff_eq, beq_eq_false_iff_ne, bne_iff_ne, ne_eq, Decidable.not_not, Int.not_lt, Int.not_le] at h5
            refine runL_b [1,1,1,1,1,1,1,1,1,1,1,1,1,1,0,0,0] [(0, Sr s), (1, Sr t), (2, Sr u), (6, Bo false), (7, Bo (!(s == t) && decide (markOf s = markOf t))), (9, Bo false), (22, Bo (((decide (((s).length : Int) > 1000)) || (decide (((t).length : Int) > 1000))) || (decide (((u).length : Int) > 1000)))), (35, Bo (!(s == s) && decide (markOf s = markOf s)))] ?_
            refine runL_nil ?_
            refine tq_then ?_
            refine tc_ret ?_
            refine tq_ret [0] [Bo false] (bp_ret (Mem.le_refl _) ?_)
            first | rfl | (exfalso; exact h2 (alike_symm s t)) | (exfalso; exact h3.1 trivial) | (have hp := alike_pre (u := u) h4 (by omega); simp [hp.1, hp.2, packR]; done) | (exfalso; exact h5 (alike_app h4).1 (alike_app h4).2)
end Go.Proofs.Ytgcnkcajfjpbcaa
