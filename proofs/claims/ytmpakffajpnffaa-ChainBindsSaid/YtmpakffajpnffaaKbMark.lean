import Derived.Test.YtmpakffajpnffaaKbWire
import Derived.Test.YtmpakffajpnffaaKbBits
namespace Go.Proofs.Ytmpakffajpnffaa
open Go.Tx
set_option linter.unusedVariables false
set_option linter.unusedSimpArgs false
def markSaid (k a b : Int) : List UInt8 := (([k] : List Int).map (fun n => UInt8.ofNat n.toNat) ++ numB a) ++ numB b
theorem markOf_con (l : List UInt8) (hl : l.length ≤ 140737488355328) (G : Mem) : Con Try.prog 29 #[Sr l] G [] (fun u G' L' => u = U (markOf l)) := by
 refine con_of Try.func29 21 [(0, Sr l)] rfl (fun w0 G0 => ?_)
 refine tc_rb [0] [(0, Sr l)] ?_
 refine tc_rb [0] [(0, Sr l), (3, U 1)] (tc_seq ?_)
 refine tc_rb [0,0,0] [(0, Sr l), (3, U 1), (6, I ((l).length : Int)), (7, I 0)] (tc_block ?_)
 refine tc_loop (σ := Nat × Int) (fun s => (s.1 ≤ l.length) ∧ (0 ≤ s.2 ∧ s.2 < 2305843009213693951) ∧ (s.2 = (l.take s.1).foldl markS 1)) (fun s => [(0, Sr l), (3, U s.2), (6, I ((l).length : Int)), (7, I (s.1 : Int))]) (fun s => G) (fun s => []) (fun s => l.length - s.1) (0, 1) (⟨Nat.zero_le _, by omega, by simp⟩) (fun s hs => ?_)
 obtain ⟨i, m⟩ := s
 obtain ⟨hi, hb, hm⟩ := hs
 dsimp only at hi hb hm
 refine tc_eq (fr' := [(0, Sr l), (3, U m), (6, I ((l).length : Int)), (7, I (i : Int))]) (L' := []) rfl rfl ?_
 refine tc_rb [0] [(0, Sr l), (3, U m), (6, I ((l).length : Int)), (7, I (i : Int)), (8, Bo (decide ((i : Int) < ((l).length : Int))))] (tc_seq ?_)
 refine tc_cond (decide ((i : Int) < ((l).length : Int))) (fun h1 => ?_) (fun h1 => ?_)
 ·
  try simp only [BB] at h1
  refine tc_skip (tq_then (tc_seq (tc_block ?_)))
  refine tc_rb [0,0] [(0, Sr l), (3, U m), (4, I (i : Int)), (6, I ((l).length : Int)), (7, I (i : Int))] ?_
  obtain ⟨y1, hy1⟩ := getX (l := l) (k := i) (by first | omega | (have := timesM_bd m 1099511628211; have := y1.toNat_lt; omega) | (have := foldl_bd (l.take i) 1 (by omega); omega))
  have e1 : IntKind.u64.wrap (y1.toNat : Int) = (y1.toNat : Int) := IntWalk.u64_in _ (by first | omega | (have := timesM_bd m 1099511628211; have := y1.toNat_lt; omega) | (have := foldl_bd (l.take i) 1 (by omega); omega))
  have e2 : IntKind.u64.wrap ((timesM m 1099511628211) + (y1.toNat : Int)) = (timesM m 1099511628211) + (y1.toNat : Int) := IntWalk.u64_in _ (by first | omega | (have := timesM_bd m 1099511628211; have := y1.toNat_lt; omega) | (have := foldl_bd (l.take i) 1 (by omega); omega))
  have e3 : IntKind.u64.wrap (((timesM m 1099511628211) + (y1.toNat : Int)) + 1) = ((timesM m 1099511628211) + (y1.toNat : Int)) + 1 := IntWalk.u64_in _ (by first | omega | (have := timesM_bd m 1099511628211; have := y1.toNat_lt; omega) | (have := foldl_bd (l.take i) 1 (by omega); omega))
  have e4 : (((timesM m 1099511628211) + (y1.toNat : Int)) + 1).tmod 2305843009213693951 = (((timesM m 1099511628211) + (y1.toNat : Int)) + 1) % 2305843009213693951 := IntWalk.rem_in _ _ (by first | omega | (have := timesM_bd m 1099511628211; have := y1.toNat_lt; omega) | (have := foldl_bd (l.take i) 1 (by omega); omega))
  refine tc_draw [] ?_
  refine dr_V [(0, U m), (1, U (timesM m 1099511628211)), (2, Sr l), (3, I (i : Int)), (4, Y (y1.toNat : Int)), (5, U (y1.toNat : Int)), (6, U ((timesM m 1099511628211) + (y1.toNat : Int))), (7, U (((timesM m 1099511628211) + (y1.toNat : Int)) + 1)), (8, U ((((timesM m 1099511628211) + (y1.toNat : Int)) + 1) % 2305843009213693951)), (9, U ((((timesM m 1099511628211) + (y1.toNat : Int)) + 1) % 2305843009213693951))] ?_
  refine dr_end [] [(0,0), (2,0), (3,0), (9,0)] [1, 4, 5, 6, 7, 8] [(0, Sr l), (3, U ((((timesM m 1099511628211) + (y1.toNat : Int)) + 1) % 2305843009213693951)), (6, I ((l).length : Int)), (7, I (i : Int))] (List.forall_mem_cons.2 ⟨?_, (List.forall_mem_cons.2 ⟨?_, (List.forall_mem_cons.2 ⟨?_, (List.forall_mem_cons.2 ⟨?_, (List.forall_mem_cons.2 ⟨?_, (List.forall_mem_cons.2 ⟨?_, List.forall_mem_nil _⟩)⟩)⟩)⟩)⟩)⟩) ?_
  ·
   refine stab_of 1 11 (U (timesM m 1099511628211)) [(10, U m)] (fun X => ?_)
   exact runL_callV 11 (U (timesM m 1099511628211)) (times_con m 1099511628211 (by omega) (by omega) G) stab_end
  ·
   refine stab_of 4 14 (Y (y1.toNat : Int)) [(12, Sr l), (13, I (i : Int))] (fun X => ?_)
   exact runL_sidx (ik := .i64) 14 i y1 hy1 stab_end
  ·
   refine stab_of 5 15 (U (y1.toNat : Int)) [(14, Y (y1.toNat : Int))] (fun X => ?_)
   exact runL_p1 15 (U (IntKind.u64.wrap (y1.toNat : Int))) (U (y1.toNat : Int)) (by simp only [e1]) stab_end
  ·
   refine stab_of 6 16 (U ((timesM m 1099511628211) + (y1.toNat : Int))) [(11, U (timesM m 1099511628211)), (15, U (y1.toNat : Int))] (fun X => ?_)
   exact runL_p1 16 (U (IntKind.u64.wrap ((timesM m 1099511628211) + (y1.toNat : Int)))) (U ((timesM m 1099511628211) + (y1.toNat : Int))) (by simp only [e2]) stab_end
  ·
   refine stab_of 7 17 (U (((timesM m 1099511628211) + (y1.toNat : Int)) + 1)) [(16, U ((timesM m 1099511628211) + (y1.toNat : Int)))] (fun X => ?_)
   exact runL_p1 17 (U (IntKind.u64.wrap (((timesM m 1099511628211) + (y1.toNat : Int)) + 1))) (U (((timesM m 1099511628211) + (y1.toNat : Int)) + 1)) (by simp only [e3]) stab_end
  ·
   refine stab_of 8 18 (U ((((timesM m 1099511628211) + (y1.toNat : Int)) + 1) % 2305843009213693951)) [(17, U (((timesM m 1099511628211) + (y1.toNat : Int)) + 1))] (fun X => ?_)
   exact runL_p1 18 (U ((((timesM m 1099511628211) + (y1.toNat : Int)) + 1).tmod 2305843009213693951)) (U ((((timesM m 1099511628211) + (y1.toNat : Int)) + 1) % 2305843009213693951)) (by simp only [e4]) stab_end
  refine tq_block (tq_then (tc_region ?_))
  refine runL_b [0,0] [(0, Sr l), (3, U ((((timesM m 1099511628211) + (y1.toNat : Int)) + 1) % 2305843009213693951)), (6, I ((l).length : Int)), (7, I (IntKind.i64.wrap ((i : Int) + 1)))] ?_
  have e5 : IntKind.i64.wrap ((i : Int) + 1) = (i : Int) + 1 := IntWalk.i64_in _ (by first | omega | (have := timesM_bd m 1099511628211; have := y1.toNat_lt; omega) | (have := foldl_bd (l.take i) 1 (by omega); omega))
  refine runL_eq (fr' := [(0, Sr l), (3, U ((((timesM m 1099511628211) + (y1.toNat : Int)) + 1) % 2305843009213693951)), (6, I ((l).length : Int)), (7, I ((i : Int) + 1))]) (L' := []) (by simp only [e5]) (by rfl) ?_
  clear e5
  refine runL_nil ?_
  exact tq_rnd (i + 1, (((timesM m 1099511628211) + (y1.toNat : Int)) + 1) % 2305843009213693951) (⟨by omega, by dsimp only; omega, by rw [hm]; exact (foldl_take (f := markS) hy1).symm⟩) (by dsimp only; omega)
 ·
  try simp only [BB] at h1
  refine tc_exit (tq_then_exit (tq_rnd_exit (tq_block_here (tq_then ?_))))
  refine tc_rb [0,0] [(2, U m)] (tc_ret ?_)
  refine tq_ret [0] [U m] (bp_ret (Mem.le_refl _) ?_)
  exact congrArg U (by rw [hm, List.take_of_length_le (by omega)]; rfl)
theorem markAlike_con (s t : List UInt8) (hs : s.length ≤ 140737488355328) (ht : t.length ≤ 140737488355328) (G : Mem) : Con Try.prog 9 #[Sr s, Sr t] G [] (fun u G' L' => u = Bo (!(s == t) && decide (markOf s = markOf t))) := by
 refine con_of Try.func9 15 [(0, Sr s), (1, Sr t)] rfl (fun w0 G0 => ?_)
 refine tc_rb [0] [(0, Sr s), (1, Sr t)] (tc_seq (tc_region ?_))
 refine runL_b [0,0,0,0] [(0, Sr s), (1, Sr t), (8, Bo (!((B s).toList == (B t).toList)))] ?_
 refine runL_eq (fr' := [(0, Sr s), (1, Sr t), (8, Bo (!(s == t)))]) (L' := []) (by simp only [B_toList]) (by rfl) ?_
 refine runL_cases (fun bb => [(0, Sr s), (1, Sr t), (8, Bo bb)]) (!(s == t)) (fun h1 => ?_) (fun h1 => ?_)
 ·
  try simp only [BB] at h1
  refine runL_b [0] [(1, Sr t), (8, Bo true), (9, Sr s)] ?_
  refine runL_callV 10 (U (markOf s)) (markOf_con s (by first | assumption | omega | (simp [markSaid]; done) | (simp; omega)) G) ?_
  refine runL_b [0] [(8, Bo true), (10, U (markOf s)), (11, Sr t)] ?_
  refine runL_callV 12 (U (markOf t)) (markOf_con t (by first | assumption | omega | (simp [markSaid]; done) | (simp; omega)) G) ?_
  refine runL_b [0,0,0] [(4, Bo (decide (markOf s = markOf t)))] (runL_nil (tq_then (tc_ret ?_)))
  refine tq_ret [0] [Bo (decide (markOf s = markOf t))] (bp_ret (Mem.le_refl _) ?_)
  first | rfl | (simp_all [packR])
 ·
  try simp only [BB] at h1
  refine runL_b [1,1,1,1,1,0,0] [(4, Bo false)] (runL_nil (tq_then (tc_ret ?_)))
  refine tq_ret [0] [Bo false] (bp_ret (Mem.le_refl _) ?_)
  first | rfl | (simp_all [packR])
end Go.Proofs.Ytmpakffajpnffaa
