import Derived.Test.YtngoijkcbmchdaaGreatDoorWire
import Derived.Test.YtngoijkcbmchdaaGreatDoorBits
namespace Go.Proofs.YtngoijkcbmchdaaGreatDoor
open Go.Tx
set_option linter.unusedVariables false
set_option linter.unusedSimpArgs false

def markSaid (k a b : Int) : List UInt8 := (([k] : List Int).map (fun n => UInt8.ofNat n.toNat) ++ numB a) ++ numB b
theorem numB_inj {a b : Int} (ha : 0 ≤ a ∧ a < 18446744073709551616) (hb : 0 ≤ b ∧ b < 18446744073709551616) (h : numB a = numB b) : a = b := by
  rw [← readN_numB ha.1 ha.2, ← readN_numB hb.1 hb.2, h]
theorem markSaid_inj {k a b j c d : Int} (hk : 0 ≤ k ∧ k < 256) (hj : 0 ≤ j ∧ j < 256) (ha : 0 ≤ a ∧ a < 18446744073709551616) (hb : 0 ≤ b ∧ b < 18446744073709551616) (hc : 0 ≤ c ∧ c < 18446744073709551616) (hd : 0 ≤ d ∧ d < 18446744073709551616) :
    (markSaid k a b == markSaid j c d) = (decide (k = j) && decide (a = c) && decide (b = d)) := by
  rw [Bool.eq_iff_iff]
  simp only [beq_iff_eq, Bool.and_eq_true, decide_eq_true_eq]
  constructor
  · intro h
    unfold markSaid at h
    obtain ⟨h1, h2⟩ := List.append_inj h (by simp)
    obtain ⟨h3, h4⟩ := List.append_inj h1 (by simp)
    simp only [List.map_cons, List.map_nil, List.cons.injEq, and_true] at h3
    have h5 := congrArg UInt8.toNat h3
    rw [UInt8.toNat_ofNat', UInt8.toNat_ofNat'] at h5
    exact ⟨⟨by omega, numB_inj ha hc h4⟩, numB_inj hb hd h2⟩
  · rintro ⟨⟨rfl, rfl⟩, rfl⟩; rfl
theorem markSaid_length (k a b : Int) : (markSaid k a b).length = 17 := by simp [markSaid]

theorem markOf_con (l : List UInt8) (hl : l.length ≤ 140737488355328) (G : Mem) : Con Tryz.prog 63 #[Sr l] G [] (fun u G' L' => u = U (markOf l)) := by
  refine con_of Tryz.func63 21 [(0, Sr l)] rfl (fun w0 G0 => ?_)
  refine tc_rbn [0] [] ?_
  refine tc_rbn [0] [(3, U 1)] ?_
  refine tc_seq ?_
  refine tc_rbn [0,0,0] [(6, I (((l).length : Int))), (7, I 0)] ?_
  refine tc_block ?_
  refine tc_loop (σ := Nat × Int) (fun s => (s.1 ≤ l.length) ∧ (0 ≤ s.2 ∧ s.2 < 2305843009213693951) ∧ (s.2 = (l.take s.1).foldl markS 1)) (fun s => [(0, Sr l), (3, U s.2), (6, I (((l).length : Int))), (7, I ((s.1 : Int)))]) (fun s => G) (fun s => []) (fun s => l.length - s.1) ((0, 1)) (⟨Nat.zero_le _, by omega, by simp⟩) (fun s hs => ?_)
  obtain ⟨i, m⟩ := s
  obtain ⟨hi, hb, hm⟩ := hs
  dsimp only at hi hb hm
  refine tc_eq (fr' := [(0, Sr l), (3, U m), (6, I (((l).length : Int))), (7, I ((i : Int)))]) (L' := []) rfl rfl ?_
  refine tc_rbn [0] [(8, Bo (decide ((i : Int) < ((l).length : Int))))] ?_
  refine tc_seq ?_
  refine tc_condP (decide ((i : Int) < ((l).length : Int))) (fun h1 => ?_) (fun h1 => ?_)
  ·
    refine tc_skip ?_
    refine tq_then ?_
    refine tc_seq ?_
    refine tc_block ?_
    refine tc_rbn [0,0] [(4, I ((i : Int)))] ?_
    obtain ⟨y1, hy1⟩ := getX (l := l) (k := i) (by first | omega | (have := timesM_bd m 1099511628211; have := y1.toNat_lt; omega) | (have := foldl_bd (l.take i) 1 (by omega); omega))
    have e1 : IntKind.u64.wrap ((y1.toNat : Int)) = (y1.toNat : Int) := IntWalk.u64_in _ (by first | omega | (have := timesM_bd m 1099511628211; have := y1.toNat_lt; omega) | (have := foldl_bd (l.take i) 1 (by omega); omega))
    have e2 : IntKind.u64.wrap ((timesM m 1099511628211) + ((y1.toNat : Int))) = (timesM m 1099511628211) + ((y1.toNat : Int)) := IntWalk.u64_in _ (by first | omega | (have := timesM_bd m 1099511628211; have := y1.toNat_lt; omega) | (have := foldl_bd (l.take i) 1 (by omega); omega))
    have e3 : IntKind.u64.wrap (((timesM m 1099511628211) + ((y1.toNat : Int))) + 1) = ((timesM m 1099511628211) + ((y1.toNat : Int))) + 1 := IntWalk.u64_in _ (by first | omega | (have := timesM_bd m 1099511628211; have := y1.toNat_lt; omega) | (have := foldl_bd (l.take i) 1 (by omega); omega))
    have e4 : (((timesM m 1099511628211) + ((y1.toNat : Int))) + 1).tmod 2305843009213693951 = (((timesM m 1099511628211) + ((y1.toNat : Int))) + 1) % 2305843009213693951 := IntWalk.rem_in _ _ (by first | omega | (have := timesM_bd m 1099511628211; have := y1.toNat_lt; omega) | (have := foldl_bd (l.take i) 1 (by omega); omega))
    refine tc_draw [] ?_
    refine dr_V [(0, U m), (1, U (timesM m 1099511628211)), (2, Sr l), (3, I ((i : Int))), (4, Y ((y1.toNat : Int))), (5, U ((y1.toNat : Int))), (6, U ((timesM m 1099511628211) + ((y1.toNat : Int)))), (7, U (((timesM m 1099511628211) + ((y1.toNat : Int))) + 1)), (8, U ((((timesM m 1099511628211) + ((y1.toNat : Int))) + 1) % 2305843009213693951)), (9, U ((((timesM m 1099511628211) + ((y1.toNat : Int))) + 1) % 2305843009213693951))] ?_
    refine dr_end [] [(0,0), (2,0), (3,0), (9,0)] [1, 4, 5, 6, 7, 8] [(0, Sr l), (3, U ((((timesM m 1099511628211) + ((y1.toNat : Int))) + 1) % 2305843009213693951)), (6, I (((l).length : Int))), (7, I ((i : Int)))] (fmc ?_ (fmc ?_ (fmc ?_ (fmc ?_ (fmc ?_ (fmc ?_ fm0)))))) ?_
    · refine stab_of 1 11 (U (timesM m 1099511628211)) [(10, U m)] (fun X => ?_)
      exact runL_callV 11 (U (timesM m 1099511628211)) (times_con m 1099511628211 (by omega) (by omega) G) stab_end
    · refine stab_of 4 14 (Y ((y1.toNat : Int))) [(12, Sr l), (13, I ((i : Int)))] (fun X => ?_)
      exact runL_sidx (ik := .i64) 14 i y1 hy1 stab_end
    · refine stab_of 5 15 (U ((y1.toNat : Int))) [(14, Y ((y1.toNat : Int)))] (fun X => ?_)
      exact runL_p1 15 (U (IntKind.u64.wrap ((y1.toNat : Int)))) (U ((y1.toNat : Int))) (by simp only [e1]) stab_end
    · refine stab_of 6 16 (U ((timesM m 1099511628211) + ((y1.toNat : Int)))) [(11, U (timesM m 1099511628211)), (15, U ((y1.toNat : Int)))] (fun X => ?_)
      exact runL_p1 16 (U (IntKind.u64.wrap ((timesM m 1099511628211) + ((y1.toNat : Int))))) (U ((timesM m 1099511628211) + ((y1.toNat : Int)))) (by simp only [e2]) stab_end
    · refine stab_of 7 17 (U (((timesM m 1099511628211) + ((y1.toNat : Int))) + 1)) [(16, U ((timesM m 1099511628211) + ((y1.toNat : Int))))] (fun X => ?_)
      exact runL_p1 17 (U (IntKind.u64.wrap (((timesM m 1099511628211) + ((y1.toNat : Int))) + 1))) (U (((timesM m 1099511628211) + ((y1.toNat : Int))) + 1)) (by simp only [e3]) stab_end
    · refine stab_of 8 18 (U ((((timesM m 1099511628211) + ((y1.toNat : Int))) + 1) % 2305843009213693951)) [(17, U (((timesM m 1099511628211) + ((y1.toNat : Int))) + 1))] (fun X => ?_)
      exact runL_p1 18 (U ((((timesM m 1099511628211) + ((y1.toNat : Int))) + 1).tmod 2305843009213693951)) (U ((((timesM m 1099511628211) + ((y1.toNat : Int))) + 1) % 2305843009213693951)) (by simp only [e4]) stab_end
    refine tq_block ?_
    refine tq_then ?_
    refine tc_region ?_
    refine runL_bn [0,0] [(7, I (IntKind.i64.wrap (((i : Int)) + 1)))] ?_
    refine runL_wi64 7 (((i : Int)) + 1) (by first | omega | (have := timesM_bd m 1099511628211; have := y1.toNat_lt; omega) | (have := foldl_bd (l.take i) 1 (by omega); omega)) ?_
    refine runL_nil ?_
    exact tq_rnd ((i + 1, (((timesM m 1099511628211) + ((y1.toNat : Int))) + 1) % 2305843009213693951)) (⟨by omega, by dsimp only; omega, by rw [hm]; exact (foldl_take (f := markS) hy1).symm⟩) (by dsimp only; omega)
  ·
    refine tc_exit ?_
    refine tq_then_exit ?_
    refine tq_rnd_exit ?_
    refine tq_block_here ?_
    refine tq_then ?_
    refine tc_rbn [0,0] [(2, U m)] ?_
    refine tc_ret ?_
    refine tq_ret [0] [U m] (bp_ret (Mem.le_refl _) ?_)
    exact congrArg U (by rw [hm, List.take_of_length_le (by omega)]; rfl)

theorem markSaid_con (k x y : Int) (G : Mem) : Con Tryz.prog 82 #[Y k, U x, U y] G [] (fun u G' L' => u = Sr (markSaid k x y)) := by
  refine con_of Tryz.func82 16 [(0, Y k), (1, U x), (2, U y)] rfl (fun w0 G0 => ?_)
  refine tc_rbn [0] [] ?_
  refine tc_seq ?_
  refine tc_draw [1] ?_
  refine dr_V [(0, Y k), (3, U x), (4, Sr (numB x)), (6, U y), (7, Sr (numB y))] ?_
  refine dr_mid [] [(0,0), (3,0), (6,0)] [4, 7] [1] (fmc ?_ (fmc ?_ fm0)) (fmc ?_ fm0)
  · refine stab_of 4 11 (Sr (numB x)) [(10, U x)] (fun X => ?_)
    exact runL_callV 11 (Sr (numB x)) (num_con x G) stab_end
  · refine stab_of 7 14 (Sr (numB y)) [(13, U y)] (fun X => ?_)
    exact runL_callV 14 (Sr (numB y)) (num_con y G) stab_end
  refine act_of 1 [(7, Y k)] (fun X => ?_)
  refine runL_bsl 8 1 #[Y k] 5 (fun b1 => ?_)
  refine act_endN [(1, Sl (At b1 0) 1 1), (2, Sr (([k] : List Int).map fun n => UInt8.ofNat n.toNat)), (5, Sr ((([k] : List Int).map fun n => UInt8.ofNat n.toNat) ++ (numB x))), (8, Sr (((([k] : List Int).map fun n => UInt8.ofNat n.toNat) ++ (numB x)) ++ (numB y))), (9, Sr (((([k] : List Int).map fun n => UInt8.ofNat n.toNat) ++ (numB x)) ++ (numB y)))] ?_
  refine dr_end [0] [(3,0), (6,0), (9,0)] [2, 4, 5, 7, 8] [(6, Sr (((([k] : List Int).map fun n => UInt8.ofNat n.toNat) ++ (numB x)) ++ (numB y)))] (fmc ?_ (fmc ?_ (fmc ?_ (fmc ?_ (fmc ?_ fm0))))) ?_
  · refine stab_of 2 9 (Sr (([k] : List Int).map fun n => UInt8.ofNat n.toNat)) [(8, Sl (At b1 0) 1 1)] (fun X => ?_)
    exact runL_b2s (b := b1) (off := 0) (len := 1) (cap := 1) (cs := List.map (Value.int .u8) [k]) 9 0 [k] rfl (lit_bytes (ns := [k]) rfl) stab_end
  · refine stab_of 4 11 (Sr (numB x)) [(10, U x)] (fun X => ?_)
    exact runL_callV 11 (Sr (numB x)) (num_con x G) stab_end
  · refine stab_of 5 12 (Sr ((([k] : List Int).map fun n => UInt8.ofNat n.toNat) ++ (numB x))) [(9, Sr (([k] : List Int).map fun n => UInt8.ofNat n.toNat)), (11, Sr (numB x))] (fun X => ?_)
    exact runL_cat 12 (([k] : List Int).map fun n => UInt8.ofNat n.toNat) (numB x) (by simp) stab_end
  · refine stab_of 7 14 (Sr (numB y)) [(13, U y)] (fun X => ?_)
    exact runL_callV 14 (Sr (numB y)) (num_con y G) stab_end
  · refine stab_of 8 15 (Sr (((([k] : List Int).map fun n => UInt8.ofNat n.toNat) ++ (numB x)) ++ (numB y))) [(12, Sr ((([k] : List Int).map fun n => UInt8.ofNat n.toNat) ++ (numB x))), (14, Sr (numB y))] (fun X => ?_)
    exact runL_cat 15 ((([k] : List Int).map fun n => UInt8.ofNat n.toNat) ++ (numB x)) (numB y) (by simp) stab_end
  refine tq_then ?_
  refine tc_ret ?_
  refine tq_ret [0] [Sr (((([k] : List Int).map fun n => UInt8.ofNat n.toNat) ++ (numB x)) ++ (numB y))] (bp_ret (Mem.le_refl _) ?_)
  rfl

theorem markTwo_con (k x y : Int) (G : Mem) : Con Tryz.prog 65 #[Y k, U x, U y] G [] (fun u G' L' => u = U (markOf (markSaid k x y))) := by
  refine con_of Tryz.func65 12 [(0, Y k), (1, U x), (2, U y)] rfl (fun w0 G0 => ?_)
  refine tc_rbn [0] [] ?_
  refine tc_seq ?_
  refine tc_region ?_
  refine runL_bn [0,0,0] [(7, Y k), (8, U x), (9, U y)] ?_
  refine runL_callV 10 (Sr (markSaid k x y)) (markSaid_con k x y G) ?_
  refine runL_callV 11 (U (markOf (markSaid k x y))) (markOf_con (markSaid k x y) (by first | assumption | omega | (simp [markSaid]; done) | (simp; omega)) G) ?_
  refine runL_bn [0] [(6, U (markOf (markSaid k x y)))] ?_
  refine runL_nil ?_
  refine tq_then ?_
  refine tc_ret ?_
  refine tq_ret [0] [U (markOf (markSaid k x y))] (bp_ret (Mem.le_refl _) ?_)
  rfl
end Go.Proofs.YtngoijkcbmchdaaGreatDoor
