import Derived.Test.YtgcnkcajfjpbcaaMarkAlike
namespace Go.Proofs.Ytgcnkcajfjpbcaa
open Go.Tx
set_option linter.unusedVariables false
set_option linter.unusedSimpArgs false

def powM (n : Nat) : Int := 1099511628211 ^ n % 2305843009213693951
theorem powM_bd (n : Nat) : 0 ≤ powM n ∧ powM n < 2305843009213693951 := by unfold powM; omega
theorem powM_succ (n : Nat) : timesM (powM n) 1099511628211 = powM (n + 1) := by
  unfold timesM powM; rw [Int.pow_succ]; generalize (1099511628211 : Int) ^ n = P; omega
def markJoin (a b n : Int) : Int × Int := if 2305843009213693951 ≤ a ∨ 2305843009213693951 ≤ b ∨ n < 0 ∨ 600 < n then (0, 4) else ((timesM a (powM n.toNat) + b + 2305843009213693951 - powM n.toNat) % 2305843009213693951, 0)
theorem markJoin_of (s t : List UInt8) (ht : t.length ≤ 600) : markJoin (markOf s) (markOf t) (t.length : Int) = (markOf (s ++ t), 0) := by
  have b1 := markOf_bd s
  have b2 := markOf_bd t
  have b3 := markOf_bd (s ++ t)
  unfold markJoin
  rw [if_neg (by omega), Int.toNat_natCast]
  refine Prod.ext ?_ rfl
  dsimp only
  have l1 := mark_lin t (markOf s)
  have l2 := mark_lin t 1
  have e1 : t.foldl markS (markOf s) = markOf (s ++ t) := by unfold markOf; rw [List.foldl_append]
  have e2 : t.foldl markS 1 = markOf t := rfl
  rw [e1] at l1
  rw [e2] at l2
  have e3 : timesM (markOf s) (powM t.length) = markOf s * 1099511628211 ^ t.length % 2305843009213693951 := by unfold timesM powM; rw [Int.mul_emod, Int.emod_emod, ← Int.mul_emod]
  rw [e3]
  unfold powM
  generalize markOf s * 1099511628211 ^ t.length = X at *
  rw [Int.one_mul] at l2
  generalize (1099511628211 : Int) ^ t.length = P at *
  omega

theorem markJoin_con (a b n : Int) (ha : 0 ≤ a ∧ a < 18446744073709551616) (hb : 0 ≤ b ∧ b < 18446744073709551616) (G : Mem) : Con Try.prog 47 #[U a, U b, I n] G [] (fun u G' L' => u = .tuple #[U ((markJoin a b n).1), I ((markJoin a b n).2)]) := by
  refine con_of Try.func47 38 [(0, U a), (1, U b), (2, I n)] rfl (fun w0 G0 => ?_)
  refine tc_rb [0,0] [(0, U a), (1, U b), (2, I n), (6, U 0), (7, I 0)] ?_
  refine tc_seq ?_
  refine tc_seq ?_
  refine tc_region ?_
  refine runL_b [0,0,0] [(0, U a), (1, U b), (2, I n), (6, U 0), (7, I 0), (11, Bo (decide (a ≥ 2305843009213693951)))] ?_
  refine runL_b2 (decide (a ≥ 2305843009213693951)) (fun bb => [(0, U a), (1, U b), (2, I n), (6, U 0), (7, I 0), (11, Bo bb)]) [1,1,0] [0,0,0] (fun bb => [(0, U a), (1, U b), (2, I n), (6, U 0), (7, I 0), (14, Bo (bb || (decide (b ≥ 2305843009213693951))))]) ?_
  refine runL_b [0] [(0, U a), (1, U b), (2, I n), (6, U 0), (7, I 0), (15, Bo ((decide (a ≥ 2305843009213693951)) || (decide (b ≥ 2305843009213693951))))] ?_
  refine runL_b2 ((decide (a ≥ 2305843009213693951)) || (decide (b ≥ 2305843009213693951))) (fun bb => [(0, U a), (1, U b), (2, I n), (6, U 0), (7, I 0), (15, Bo bb)]) [1,1,0] [0,0,0] (fun bb => [(0, U a), (1, U b), (2, I n), (6, U 0), (7, I 0), (18, Bo (bb || (decide (n < 0))))]) ?_
  refine runL_b [0] [(0, U a), (1, U b), (2, I n), (6, U 0), (7, I 0), (19, Bo (((decide (a ≥ 2305843009213693951)) || (decide (b ≥ 2305843009213693951))) || (decide (n < 0))))] ?_
  refine runL_b2 (((decide (a ≥ 2305843009213693951)) || (decide (b ≥ 2305843009213693951))) || (decide (n < 0))) (fun bb => [(0, U a), (1, U b), (2, I n), (6, U 0), (7, I 0), (19, Bo bb)]) [1,1,0] [0,0,0] (fun bb => [(0, U a), (1, U b), (2, I n), (6, U 0), (7, I 0), (22, Bo (bb || (decide (n > 600))))]) ?_
  refine runL_nil ?_
  refine tq_then ?_
  refine tc_cond ((((decide (a ≥ 2305843009213693951)) || (decide (b ≥ 2305843009213693951))) || (decide (n < 0))) || (decide (n > 600))) (fun h1 => ?_) (fun h1 => ?_)
  ·
    try simp only [decide_eq_true_eq, decide_eq_false_iff_not, Bool.and_eq_true, Bool.or_eq_true, Bool.and_eq_false_imp, Bool.or_eq_false_iff, Bool.not_eq_true', Bool.not_eq_false', Bool.not_eq_true, Bool.not_eq_false, beq_iff_eq, beq_eq_false_iff_ne, bne_iff_ne, ne_eq, Decidable.not_not, Int.not_lt, Int.not_le] at h1
    refine tc_rb [0,0] [(0, U a), (1, U b), (2, I n), (6, U 0), (7, I 4), (22, Bo ((((decide (a ≥ 2305843009213693951)) || (decide (b ≥ 2305843009213693951))) || (decide (n < 0))) || (decide (n > 600))))] ?_
    refine tc_ret ?_
    refine tq_then_ret ?_
    refine tq_ret [0, 0] [U 0, I 4] (bp_ret (Mem.le_refl _) ?_)
    first | (unfold markJoin; rw [if_pos (by omega)]; rfl) | (have : k = n.toNat := by omega); subst this; subst hp; unfold markJoin; rw [if_neg (by omega)]; rfl
  ·
    try simp only [decide_eq_true_eq, decide_eq_false_iff_not, Bool.and_eq_true, Bool.or_eq_true, Bool.and_eq_false_imp, Bool.or_eq_false_iff, Bool.not_eq_true', Bool.not_eq_false', Bool.not_eq_true, Bool.not_eq_false, beq_iff_eq, beq_eq_false_iff_ne, bne_iff_ne, ne_eq, Decidable.not_not, Int.not_lt, Int.not_le] at h1
    refine tc_skip ?_
    refine tq_then ?_
    refine tc_rb [0] [(0, U a), (1, U b), (2, I n), (6, U 0), (7, I 0), (8, U 1), (22, Bo ((((decide (a ≥ 2305843009213693951)) || (decide (b ≥ 2305843009213693951))) || (decide (n < 0))) || (decide (n > 600))))] ?_
    refine tc_seq ?_
    refine tc_rb [0,0] [(0, U a), (1, U b), (2, I n), (6, U 0), (7, I 0), (8, U 1), (22, Bo ((((decide (a ≥ 2305843009213693951)) || (decide (b ≥ 2305843009213693951))) || (decide (n < 0))) || (decide (n > 600)))), (23, I n), (24, I 0)] ?_
    refine tc_block ?_
    refine tc_loop (σ := Nat × Int) (fun s => ((s.1 : Int) ≤ n) ∧ (0 ≤ s.2 ∧ s.2 < 2305843009213693951) ∧ (s.2 = powM s.1)) (fun s => [(0, U a), (1, U b), (2, I n), (6, U 0), (7, I 0), (8, U s.2), (22, Bo ((((decide (a ≥ 2305843009213693951)) || (decide (b ≥ 2305843009213693951))) || (decide (n < 0))) || (decide (n > 600)))), (23, I n), (24, I ((s.1 : Int)))]) (fun s => G) (fun s => []) (fun s => n.toNat - s.1) ((0, 1)) (⟨by omega, by omega, by rfl⟩) (fun s hs => ?_)
    obtain ⟨k, p⟩ := s
    obtain ⟨hk, hb_, hp⟩ := hs
    dsimp only at hk hb_ hp
    refine tc_eq (fr' := [(0, U a), (1, U b), (2, I n), (6, U 0), (7, I 0), (8, U p), (22, Bo ((((decide (a ≥ 2305843009213693951)) || (decide (b ≥ 2305843009213693951))) || (decide (n < 0))) || (decide (n > 600)))), (23, I n), (24, I ((k : Int)))]) (L' := []) rfl rfl ?_
    refine tc_rb [0] [(0, U a), (1, U b), (2, I n), (6, U 0), (7, I 0), (8, U p), (22, Bo ((((decide (a ≥ 2305843009213693951)) || (decide (b ≥ 2305843009213693951))) || (decide (n < 0))) || (decide (n > 600)))), (23, I n), (24, I ((k : Int))), (25, Bo (decide ((k : Int) < n)))] ?_
    refine tc_seq ?_
    refine tc_cond (decide ((k : Int) < n)) (fun h2 => ?_) (fun h2 => ?_)
    ·
      try simp only [decide_eq_true_eq, decide_eq_false_iff_not, Bool.and_eq_true, Bool.or_eq_true, Bool.and_eq_false_imp, Bool.or_eq_false_iff, Bool.not_eq_true', Bool.not_eq_false', Bool.not_eq_true, Bool.not_eq_false, beq_iff_eq, beq_eq_false_iff_ne, bne_iff_ne, ne_eq, Decidable.not_not, Int.not_lt, Int.not_le] at h2
      refine tc_skip ?_
      refine tq_then ?_
      refine tc_seq ?_
      refine tc_block ?_
      refine tc_region ?_
      refine runL_b [0] [(0, U a), (1, U b), (2, I n), (6, U 0), (7, I 0), (8, U p), (22, Bo ((((decide (a ≥ 2305843009213693951)) || (decide (b ≥ 2305843009213693951))) || (decide (n < 0))) || (decide (n > 600)))), (23, I n), (24, I ((k : Int))), (25, Bo (decide ((k : Int) < n))), (26, U p)] ?_
      refine runL_callV 27 (U (timesM p 1099511628211)) (times_con p 1099511628211 (by omega) (by omega) G) ?_
      refine runL_b [0] [(0, U a), (1, U b), (2, I n), (6, U 0), (7, I 0), (8, U (timesM p 1099511628211)), (22, Bo ((((decide (a ≥ 2305843009213693951)) || (decide (b ≥ 2305843009213693951))) || (decide (n < 0))) || (decide (n > 600)))), (23, I n), (24, I ((k : Int))), (25, Bo (decide ((k : Int) < n)))] ?_
      refine runL_nil ?_
      refine tq_block ?_
      refine tq_then ?_
      refine tc_region ?_
      refine runL_b [0,0] [(0, U a), (1, U b), (2, I n), (6, U 0), (7, I 0), (8, U (timesM p 1099511628211)), (22, Bo ((((decide (a ≥ 2305843009213693951)) || (decide (b ≥ 2305843009213693951))) || (decide (n < 0))) || (decide (n > 600)))), (23, I n), (24, I (IntKind.i64.wrap (((k : Int)) + 1))), (25, Bo (decide ((k : Int) < n)))] ?_
      have e1 : IntKind.i64.wrap (((k : Int)) + 1) = ((k : Int)) + 1 := IntWalk.i64_in _ (by first | omega | (have h1_ := powM_bd k; have h2_ := timesM_bd a p; omega))
      refine runL_eq (fr' := [(0, U a), (1, U b), (2, I n), (6, U 0), (7, I 0), (8, U (timesM p 1099511628211)), (22, Bo ((((decide (a ≥ 2305843009213693951)) || (decide (b ≥ 2305843009213693951))) || (decide (n < 0))) || (decide (n > 600)))), (23, I n), (24, I (((k : Int)) + 1)), (25, Bo (decide ((k : Int) < n)))]) (L' := []) (by simp only [e1]) (by rfl) ?_
      clear e1
      refine runL_nil ?_
      exact tq_rnd ((k + 1, timesM p 1099511628211)) (⟨by omega, timesM_bd _ _, by rw [hp]; exact powM_succ k⟩) (by dsimp only; omega)
    ·
      try simp only [decide_eq_true_eq, decide_eq_false_iff_not, Bool.and_eq_true, Bool.or_eq_true, Bool.and_eq_false_imp, Bool.or_eq_false_iff, Bool.not_eq_true', Bool.not_eq_false', Bool.not_eq_true, Bool.not_eq_false, beq_iff_eq, beq_eq_false_iff_ne, bne_iff_ne, ne_eq, Decidable.not_not, Int.not_lt, Int.not_le] at h2
      refine tc_exit ?_
      refine tq_then_exit ?_
      refine tq_rnd_exit ?_
      refine tq_block_here ?_
      refine tq_then ?_
      refine tc_seq ?_
      refine tc_region ?_
      refine runL_b [0,0] [(0, U a), (1, U b), (2, I n), (6, U 0), (7, I 0), (8, U p), (22, Bo ((((decide (a ≥ 2305843009213693951)) || (decide (b ≥ 2305843009213693951))) || (decide (n < 0))) || (decide (n > 600)))), (23, I n), (24, I ((k : Int))), (25, Bo (decide ((k : Int) < n))), (29, U a), (30, U p)] ?_
      refine runL_callV 31 (U (timesM a p)) (times_con a p (by omega) (by omega) G) ?_
      refine runL_b [0,0,0,0,0,0,0,0] [(0, U a), (1, U b), (2, I n), (6, U ((IntKind.u64.wrap ((IntKind.u64.wrap ((IntKind.u64.wrap ((timesM a p) + b)) + 2305843009213693951)) - p)).tmod 2305843009213693951)), (7, I 0), (8, U p), (22, Bo ((((decide (a ≥ 2305843009213693951)) || (decide (b ≥ 2305843009213693951))) || (decide (n < 0))) || (decide (n > 600)))), (23, I n), (24, I ((k : Int))), (25, Bo (decide ((k : Int) < n)))] ?_
      have e2 : IntKind.u64.wrap ((timesM a p) + b) = (timesM a p) + b := IntWalk.u64_in _ (by first | omega | (have h1_ := powM_bd k; have h2_ := timesM_bd a p; omega))
      have e3 : IntKind.u64.wrap (((timesM a p) + b) + 2305843009213693951) = ((timesM a p) + b) + 2305843009213693951 := IntWalk.u64_in _ (by first | omega | (have h1_ := powM_bd k; have h2_ := timesM_bd a p; omega))
      have e4 : IntKind.u64.wrap ((((timesM a p) + b) + 2305843009213693951) - p) = (((timesM a p) + b) + 2305843009213693951) - p := IntWalk.u64_in _ (by first | omega | (have h1_ := powM_bd k; have h2_ := timesM_bd a p; omega))
      have e5 : ((((timesM a p) + b) + 2305843009213693951) - p).tmod 2305843009213693951 = ((((timesM a p) + b) + 2305843009213693951) - p) % 2305843009213693951 := IntWalk.rem_in _ _ (by first | omega | (have h1_ := powM_bd k; have h2_ := timesM_bd a p; omega))
      refine runL_eq (fr' := [(0, U a), (1, U b), (2, I n), (6, U (((((timesM a p) + b) + 2305843009213693951) - p) % 2305843009213693951)), (7, I 0), (8, U p), (22, Bo ((((decide (a ≥ 2305843009213693951)) || (decide (b ≥ 2305843009213693951))) || (decide (n < 0))) || (decide (n > 600)))), (23, I n), (24, I ((k : Int))), (25, Bo (decide ((k : Int) < n)))]) (L' := []) (by simp only [e2, e3, e4, e5]) (by rfl) ?_
      clear e5 e4 e3 e2
      refine runL_nil ?_
      refine tq_then ?_
      refine tc_ret ?_
      refine tq_ret [0, 0] [U (((((timesM a p) + b) + 2305843009213693951) - p) % 2305843009213693951), I 0] (bp_ret (Mem.le_refl _) ?_)
      first | (unfold markJoin; rw [if_pos (by omega)]; rfl) | (have : k = n.toNat := by omega); subst this; subst hp; unfold markJoin; rw [if_neg (by omega)]; rfl

theorem markJoinsLaw_con (s t : List UInt8) (hs : s.length ≤ 140737488355328) (ht : t.length ≤ 140737488355328) (G : Mem) : Con Try.prog 12 #[Sr s, Sr t] G [] (fun u G' L' => u = Bo true) := by
  refine con_of Try.func12 37 [(0, Sr s), (1, Sr t)] rfl (fun w0 G0 => ?_)
  refine tc_rb [0] [(0, Sr s), (1, Sr t), (4, Bo false)] ?_
  refine tc_seq ?_
  refine tc_seq ?_
  refine tc_region ?_
  refine runL_callV 7 (Bo true) (marked_con  G) ?_
  refine runL_b [0] [(0, Sr s), (1, Sr t), (4, Bo false), (8, Bo false)] ?_
  refine runL_nil ?_
  refine tq_then ?_
  refine tc_cond_false ?_
  refine tc_skip ?_
  refine tq_then ?_
  refine tc_seq ?_
  refine tc_seq ?_
  refine tc_region ?_
  refine runL_b [0,0,0,0] [(0, Sr s), (1, Sr t), (4, Bo false), (8, Bo false), (12, Bo (decide (((s).length : Int) > 2000)))] ?_
  refine runL_b2 (decide (((s).length : Int) > 2000)) (fun bb => [(0, Sr s), (1, Sr t), (4, Bo false), (8, Bo false), (12, Bo bb)]) [1,1,1,0] [0,0,0,0] (fun bb => [(0, Sr s), (1, Sr t), (4, Bo false), (8, Bo false), (16, Bo (bb || (decide (((t).length : Int) > 600))))]) ?_
  refine runL_nil ?_
  refine tq_then ?_
  refine tc_cond ((decide (((s).length : Int) > 2000)) || (decide (((t).length : Int) > 600))) (fun h1 => ?_) (fun h1 => ?_)
  ·
    try simp only [decide_eq_true_eq, decide_eq_false_iff_not, Bool.and_eq_true, Bool.or_eq_true, Bool.and_eq_false_imp, Bool.or_eq_false_iff, Bool.not_eq_true', Bool.not_eq_false', Bool.not_eq_true, Bool.not_eq_false, beq_iff_eq, beq_eq_false_iff_ne, bne_iff_ne, ne_eq, Decidable.not_not, Int.not_lt, Int.not_le] at h1
    refine tc_rb [0] [(0, Sr s), (1, Sr t), (4, Bo true), (8, Bo false), (16, Bo ((decide (((s).length : Int) > 2000)) || (decide (((t).length : Int) > 600))))] ?_
    refine tc_ret ?_
    refine tq_then_ret ?_
    refine tq_ret [0] [Bo true] (bp_ret (Mem.le_refl _) ?_)
    first | rfl | (simp [markJoin_of s t (by omega), packR]; done) | (exfalso; exact h2 (by rw [markJoin_of s t (by omega)]))
  ·
    try simp only [decide_eq_true_eq, decide_eq_false_iff_not, Bool.and_eq_true, Bool.or_eq_true, Bool.and_eq_false_imp, Bool.or_eq_false_iff, Bool.not_eq_true', Bool.not_eq_false', Bool.not_eq_true, Bool.not_eq_false, beq_iff_eq, beq_eq_false_iff_ne, bne_iff_ne, ne_eq, Decidable.not_not, Int.not_lt, Int.not_le] at h1
    refine tc_skip ?_
    refine tq_then ?_
    refine tc_seq ?_
    refine tc_region ?_
    refine runL_b [0] [(0, Sr s), (1, Sr t), (4, Bo false), (8, Bo false), (16, Bo ((decide (((s).length : Int) > 2000)) || (decide (((t).length : Int) > 600)))), (18, Sr s)] ?_
    refine runL_callV 19 (U (markOf s)) (markOf_con s (by first | assumption | omega | (simp [markSaid]; done) | (simp; omega)) G) ?_
    refine runL_b [0] [(0, Sr s), (1, Sr t), (4, Bo false), (8, Bo false), (16, Bo ((decide (((s).length : Int) > 2000)) || (decide (((t).length : Int) > 600)))), (19, U (markOf s)), (20, Sr t)] ?_
    refine runL_callV 21 (U (markOf t)) (markOf_con t (by first | assumption | omega | (simp [markSaid]; done) | (simp; omega)) G) ?_
    refine runL_b [0,0] [(0, Sr s), (1, Sr t), (4, Bo false), (8, Bo false), (16, Bo ((decide (((s).length : Int) > 2000)) || (decide (((t).length : Int) > 600)))), (19, U (markOf s)), (21, U (markOf t)), (23, I (((t).length : Int)))] ?_
    refine runL_callV 24 (.tuple #[U ((markJoin (markOf s) (markOf t) (((t).length : Int))).1), I ((markJoin (markOf s) (markOf t) (((t).length : Int))).2)]) (markJoin_con (markOf s) (markOf t) (((t).length : Int)) (by have := markOf_bd s; omega) (by have := markOf_bd t; omega) G) ?_
    refine runL_b [0,0,0,0,0] [(0, Sr s), (1, Sr t), (4, Bo false), (5, U ((markJoin (markOf s) (markOf t) (((t).length : Int))).1)), (6, I ((markJoin (markOf s) (markOf t) (((t).length : Int))).2)), (8, Bo false), (16, Bo ((decide (((s).length : Int) > 2000)) || (decide (((t).length : Int) > 600))))] ?_
    refine runL_nil ?_
    refine tq_then ?_
    refine tc_seq ?_
    refine tc_region ?_
    refine runL_b [0,0,0] [(0, Sr s), (1, Sr t), (4, Bo false), (5, U ((markJoin (markOf s) (markOf t) (((t).length : Int))).1)), (8, Bo false), (16, Bo ((decide (((s).length : Int) > 2000)) || (decide (((t).length : Int) > 600)))), (29, Bo (decide ((markJoin (markOf s) (markOf t) (((t).length : Int))).2 = 0)))] ?_
    refine runL_cases (fun bb => [(0, Sr s), (1, Sr t), (4, Bo false), (5, U ((markJoin (markOf s) (markOf t) (((t).length : Int))).1)), (8, Bo false), (16, Bo ((decide (((s).length : Int) > 2000)) || (decide (((t).length : Int) > 600)))), (29, Bo bb)]) (decide ((markJoin (markOf s) (markOf t) (((t).length : Int))).2 = 0)) (fun h2 => ?_) (fun h2 => ?_)
    ·
      try simp only [decide_eq_true_eq, decide_eq_false_iff_not, Bool.and_eq_true, Bool.or_eq_true, Bool.and_eq_false_imp, Bool.or_eq_false_iff, Bool.not_eq_true', Bool.not_eq_false', Bool.not_eq_true, Bool.not_eq_false, beq_iff_eq, beq_eq_false_iff_ne, bne_iff_ne, ne_eq, Decidable.not_not, Int.not_lt, Int.not_le] at h2
      refine runL_b [0,0,0] [(0, Sr s), (1, Sr t), (4, Bo false), (8, Bo false), (16, Bo ((decide (((s).length : Int) > 2000)) || (decide (((t).length : Int) > 600)))), (29, Bo true), (30, U ((markJoin (markOf s) (markOf t) (((t).length : Int))).1)), (31, Sr s), (32, Sr t)] ?_
      refine runL_cat 33 s t (by omega) ?_
      refine runL_callV 34 (U (markOf (s ++ t))) (markOf_con (s ++ t) (by first | assumption | omega | (simp [markSaid]; done) | (simp; omega)) G) ?_
      refine runL_b [0,0,0] [(0, Sr s), (1, Sr t), (4, Bo (decide ((markJoin (markOf s) (markOf t) (((t).length : Int))).1 = markOf (s ++ t)))), (8, Bo false), (16, Bo ((decide (((s).length : Int) > 2000)) || (decide (((t).length : Int) > 600))))] ?_
      refine runL_nil ?_
      refine tq_then ?_
      refine tc_ret ?_
      refine tq_ret [0] [Bo (decide ((markJoin (markOf s) (markOf t) (((t).length : Int))).1 = markOf (s ++ t)))] (bp_ret (Mem.le_refl _) ?_)
      first | rfl | (simp [markJoin_of s t (by omega), packR]; done) | (exfalso; exact h2 (by rw [markJoin_of s t (by omega)]))
    ·
      try simp only [decide_eq_true_eq, decide_eq_false_iff_not, Bool.and_eq_true, Bool.or_eq_true, Bool.and_eq_false_imp, Bool.or_eq_false_iff, Bool.not_eq_true', Bool.not_eq_false', Bool.not_eq_true, Bool.not_eq_false, beq_iff_eq, beq_eq_false_iff_ne, bne_iff_ne, ne_eq, Decidable.not_not, Int.not_lt, Int.not_le] at h2
      refine runL_b [1,1,1,1,1,1,0,0] [(0, Sr s), (1, Sr t), (4, Bo false), (8, Bo false), (16, Bo ((decide (((s).length : Int) > 2000)) || (decide (((t).length : Int) > 600))))] ?_
      refine runL_nil ?_
      refine tq_then ?_
      refine tc_ret ?_
      refine tq_ret [0] [Bo false] (bp_ret (Mem.le_refl _) ?_)
      first | rfl | (simp [markJoin_of s t (by omega), packR]; done) | (exfalso; exact h2 (by rw [markJoin_of s t (by omega)]))
end Go.Proofs.Ytgcnkcajfjpbcaa
