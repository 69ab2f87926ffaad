import Derived.Test.YtpofnmobbbcpgaaGreatDoorTy
namespace Go.Proofs.YtpofnmobbbcpgaaGreatDoor
open Go.Tx
set_option linter.unusedVariables false
set_option linter.unusedSimpArgs false

theorem num_con (n : Int) (G : Mem) : Con Tryz.prog 42 #[U n] G [] (fun u G' L' => u = Sr (numB n)) := by
  refine con_of Tryz.func42 19 [(0, U n)] rfl (fun w0 G0 => ?_)
  refine tc_rbn [0] [] ?_
  refine tc_seq ?_
  refine tc_region ?_
  refine runL_box 3 #[Y 0, Y 0, Y 0, Y 0, Y 0, Y 0, Y 0, Y 0] 131 (fun b1 => ?_)
  refine runL_nil ?_
  refine tq_then ?_
  refine tc_seq ?_
  refine tc_rbn [0] [(5, I 0)] ?_
  refine tc_block ?_
  refine tc_unroll 9 ?_
  refine ti_step ?_
  refine tc_rbn [0] [(6, Bo true)] ?_
  refine tc_seq ?_
  refine tc_cond_true ?_
  refine tc_skip ?_
  refine tq_then ?_
  refine tc_seq ?_
  refine tc_block ?_
  refine tc_rbn [0,0] [(4, I 0)] ?_
  refine tc_region ?_
  refine runL_bsn [0,0,0,0,0,0,0,0,3] [] [[Sg b1 0 [Y (IntKind.u8.wrap ((n).fdiv (2 ^ 56))), Y 0, Y 0, Y 0, Y 0, Y 0, Y 0, Y 0]]] ?_
  refine runL_nil ?_
  refine tq_block ?_
  refine tq_then ?_
  refine tc_region ?_
  refine runL_bn [0,0] [(5, I 1)] ?_
  refine runL_nil ?_
  refine tq_iter ?_
  refine ti_step ?_
  refine tc_rbn [0] [(6, Bo true)] ?_
  refine tc_seq ?_
  refine tc_cond_true ?_
  refine tc_skip ?_
  refine tq_then ?_
  refine tc_seq ?_
  refine tc_block ?_
  refine tc_rbn [0,0] [(4, I 1)] ?_
  refine tc_region ?_
  refine runL_bsn [0,0,0,0,0,0,0,0,3] [] [[Sg b1 0 [Y (IntKind.u8.wrap ((n).fdiv (2 ^ 56))), Y (IntKind.u8.wrap ((n).fdiv (2 ^ 48))), Y 0, Y 0, Y 0, Y 0, Y 0, Y 0]]] ?_
  refine runL_nil ?_
  refine tq_block ?_
  refine tq_then ?_
  refine tc_region ?_
  refine runL_bn [0,0] [(5, I 2)] ?_
  refine runL_nil ?_
  refine tq_iter ?_
  refine ti_step ?_
  refine tc_rbn [0] [(6, Bo true)] ?_
  refine tc_seq ?_
  refine tc_cond_true ?_
  refine tc_skip ?_
  refine tq_then ?_
  refine tc_seq ?_
  refine tc_block ?_
  refine tc_rbn [0,0] [(4, I 2)] ?_
  refine tc_region ?_
  refine runL_bsn [0,0,0,0,0,0,0,0,3] [] [[Sg b1 0 [Y (IntKind.u8.wrap ((n).fdiv (2 ^ 56))), Y (IntKind.u8.wrap ((n).fdiv (2 ^ 48))), Y (IntKind.u8.wrap ((n).fdiv (2 ^ 40))), Y 0, Y 0, Y 0, Y 0, Y 0]]] ?_
  refine runL_nil ?_
  refine tq_block ?_
  refine tq_then ?_
  refine tc_region ?_
  refine runL_bn [0,0] [(5, I 3)] ?_
  refine runL_nil ?_
  refine tq_iter ?_
  refine ti_step ?_
  refine tc_rbn [0] [(6, Bo true)] ?_
  refine tc_seq ?_
  refine tc_cond_true ?_
  refine tc_skip ?_
  refine tq_then ?_
  refine tc_seq ?_
  refine tc_block ?_
  refine tc_rbn [0,0] [(4, I 3)] ?_
  refine tc_region ?_
  refine runL_bsn [0,0,0,0,0,0,0,0,3] [] [[Sg b1 0 [Y (IntKind.u8.wrap ((n).fdiv (2 ^ 56))), Y (IntKind.u8.wrap ((n).fdiv (2 ^ 48))), Y (IntKind.u8.wrap ((n).fdiv (2 ^ 40))), Y (IntKind.u8.wrap ((n).fdiv (2 ^ 32))), Y 0, Y 0, Y 0, Y 0]]] ?_
  refine runL_nil ?_
  refine tq_block ?_
  refine tq_then ?_
  refine tc_region ?_
  refine runL_bn [0,0] [(5, I 4)] ?_
  refine runL_nil ?_
  refine tq_iter ?_
  refine ti_step ?_
  refine tc_rbn [0] [(6, Bo true)] ?_
  refine tc_seq ?_
  refine tc_cond_true ?_
  refine tc_skip ?_
  refine tq_then ?_
  refine tc_seq ?_
  refine tc_block ?_
  refine tc_rbn [0,0] [(4, I 4)] ?_
  refine tc_region ?_
  refine runL_bsn [0,0,0,0,0,0,0,0,3] [] [[Sg b1 0 [Y (IntKind.u8.wrap ((n).fdiv (2 ^ 56))), Y (IntKind.u8.wrap ((n).fdiv (2 ^ 48))), Y (IntKind.u8.wrap ((n).fdiv (2 ^ 40))), Y (IntKind.u8.wrap ((n).fdiv (2 ^ 32))), Y (IntKind.u8.wrap ((n).fdiv (2 ^ 24))), Y 0, Y 0, Y 0]]] ?_
  refine runL_nil ?_
  refine tq_block ?_
  refine tq_then ?_
  refine tc_region ?_
  refine runL_bn [0,0] [(5, I 5)] ?_
  refine runL_nil ?_
  refine tq_iter ?_
  refine ti_step ?_
  refine tc_rbn [0] [(6, Bo true)] ?_
  refine tc_seq ?_
  refine tc_cond_true ?_
  refine tc_skip ?_
  refine tq_then ?_
  refine tc_seq ?_
  refine tc_block ?_
  refine tc_rbn [0,0] [(4, I 5)] ?_
  refine tc_region ?_
  refine runL_bsn [0,0,0,0,0,0,0,0,3] [] [[Sg b1 0 [Y (IntKind.u8.wrap ((n).fdiv (2 ^ 56))), Y (IntKind.u8.wrap ((n).fdiv (2 ^ 48))), Y (IntKind.u8.wrap ((n).fdiv (2 ^ 40))), Y (IntKind.u8.wrap ((n).fdiv (2 ^ 32))), Y (IntKind.u8.wrap ((n).fdiv (2 ^ 24))), Y (IntKind.u8.wrap ((n).fdiv (2 ^ 16))), Y 0, Y 0]]] ?_
  refine runL_nil ?_
  refine tq_block ?_
  refine tq_then ?_
  refine tc_region ?_
  refine runL_bn [0,0] [(5, I 6)] ?_
  refine runL_nil ?_
  refine tq_iter ?_
  refine ti_step ?_
  refine tc_rbn [0] [(6, Bo true)] ?_
  refine tc_seq ?_
  refine tc_cond_true ?_
  refine tc_skip ?_
  refine tq_then ?_
  refine tc_seq ?_
  refine tc_block ?_
  refine tc_rbn [0,0] [(4, I 6)] ?_
  refine tc_region ?_
  refine runL_bsn [0,0,0,0,0,0,0,0,3] [] [[Sg b1 0 [Y (IntKind.u8.wrap ((n).fdiv (2 ^ 56))), Y (IntKind.u8.wrap ((n).fdiv (2 ^ 48))), Y (IntKind.u8.wrap ((n).fdiv (2 ^ 40))), Y (IntKind.u8.wrap ((n).fdiv (2 ^ 32))), Y (IntKind.u8.wrap ((n).fdiv (2 ^ 24))), Y (IntKind.u8.wrap ((n).fdiv (2 ^ 16))), Y (IntKind.u8.wrap ((n).fdiv (2 ^ 8))), Y 0]]] ?_
  refine runL_nil ?_
  refine tq_block ?_
  refine tq_then ?_
  refine tc_region ?_
  refine runL_bn [0,0] [(5, I 7)] ?_
  refine runL_nil ?_
  refine tq_iter ?_
  refine ti_step ?_
  refine tc_rbn [0] [(6, Bo true)] ?_
  refine tc_seq ?_
  refine tc_cond_true ?_
  refine tc_skip ?_
  refine tq_then ?_
  refine tc_seq ?_
  refine tc_block ?_
  refine tc_rbn [0,0] [(4, I 7)] ?_
  refine tc_region ?_
  refine runL_bsn [0,0,0,0,0,0,0,0,3] [] [[Sg b1 0 [Y (IntKind.u8.wrap ((n).fdiv (2 ^ 56))), Y (IntKind.u8.wrap ((n).fdiv (2 ^ 48))), Y (IntKind.u8.wrap ((n).fdiv (2 ^ 40))), Y (IntKind.u8.wrap ((n).fdiv (2 ^ 32))), Y (IntKind.u8.wrap ((n).fdiv (2 ^ 24))), Y (IntKind.u8.wrap ((n).fdiv (2 ^ 16))), Y (IntKind.u8.wrap ((n).fdiv (2 ^ 8))), Y (IntKind.u8.wrap ((n).fdiv (2 ^ 0)))]]] ?_
  refine runL_nil ?_
  refine tq_block ?_
  refine tq_then ?_
  refine tc_region ?_
  refine runL_bn [0,0] [(5, I 8)] ?_
  refine runL_nil ?_
  refine tq_iter ?_
  refine ti_step ?_
  refine tc_rbn [0] [(6, Bo false)] ?_
  refine tc_seq ?_
  refine tc_cond_false ?_
  refine tc_exit ?_
  refine tq_then_exit ?_
  refine tq_then_exit ?_
  refine tq_block_here ?_
  refine tq_then ?_
  refine tc_seq ?_
  refine tc_region ?_
  refine runL_bn [0] [(17, Sl (At b1 0) 8 8)] ?_
  refine runL_b2s (b := b1) (off := 0) (len := 8) (cap := 8) (cs := List.map (Value.int .u8) [IntKind.u8.wrap ((n).fdiv (2 ^ 56)), IntKind.u8.wrap ((n).fdiv (2 ^ 48)), IntKind.u8.wrap ((n).fdiv (2 ^ 40)), IntKind.u8.wrap ((n).fdiv (2 ^ 32)), IntKind.u8.wrap ((n).fdiv (2 ^ 24)), IntKind.u8.wrap ((n).fdiv (2 ^ 16)), IntKind.u8.wrap ((n).fdiv (2 ^ 8)), IntKind.u8.wrap ((n).fdiv (2 ^ 0))]) 18 0 [IntKind.u8.wrap ((n).fdiv (2 ^ 56)), IntKind.u8.wrap ((n).fdiv (2 ^ 48)), IntKind.u8.wrap ((n).fdiv (2 ^ 40)), IntKind.u8.wrap ((n).fdiv (2 ^ 32)), IntKind.u8.wrap ((n).fdiv (2 ^ 24)), IntKind.u8.wrap ((n).fdiv (2 ^ 16)), IntKind.u8.wrap ((n).fdiv (2 ^ 8)), IntKind.u8.wrap ((n).fdiv (2 ^ 0))] rfl (lit_bytes (ns := [IntKind.u8.wrap ((n).fdiv (2 ^ 56)), IntKind.u8.wrap ((n).fdiv (2 ^ 48)), IntKind.u8.wrap ((n).fdiv (2 ^ 40)), IntKind.u8.wrap ((n).fdiv (2 ^ 32)), IntKind.u8.wrap ((n).fdiv (2 ^ 24)), IntKind.u8.wrap ((n).fdiv (2 ^ 16)), IntKind.u8.wrap ((n).fdiv (2 ^ 8)), IntKind.u8.wrap ((n).fdiv (2 ^ 0))]) rfl) ?_
  refine runL_bn [0] [(2, Sr (([IntKind.u8.wrap ((n).fdiv (2 ^ 56)), IntKind.u8.wrap ((n).fdiv (2 ^ 48)), IntKind.u8.wrap ((n).fdiv (2 ^ 40)), IntKind.u8.wrap ((n).fdiv (2 ^ 32)), IntKind.u8.wrap ((n).fdiv (2 ^ 24)), IntKind.u8.wrap ((n).fdiv (2 ^ 16)), IntKind.u8.wrap ((n).fdiv (2 ^ 8)), IntKind.u8.wrap ((n).fdiv (2 ^ 0))] : List Int).map fun n => UInt8.ofNat n.toNat))] ?_
  refine runL_nil ?_
  refine tq_then ?_
  refine tc_ret ?_
  refine tq_ret [0] [Sr (([IntKind.u8.wrap ((n).fdiv (2 ^ 56)), IntKind.u8.wrap ((n).fdiv (2 ^ 48)), IntKind.u8.wrap ((n).fdiv (2 ^ 40)), IntKind.u8.wrap ((n).fdiv (2 ^ 32)), IntKind.u8.wrap ((n).fdiv (2 ^ 24)), IntKind.u8.wrap ((n).fdiv (2 ^ 16)), IntKind.u8.wrap ((n).fdiv (2 ^ 8)), IntKind.u8.wrap ((n).fdiv (2 ^ 0))] : List Int).map fun n => UInt8.ofNat n.toNat)] (bp_ret (Mem.le_refl _) ?_)
  rfl

theorem readNum_con (l : List UInt8) (G : Mem) : Con Tryz.prog 46 #[Sr l] G [] (fun u G' L' => u = .tuple #[U ((readNum l).1), I ((readNum l).2)]) := by
  refine con_of Tryz.func46 23 [(0, Sr l)] rfl (fun w0 G0 => ?_)
  refine tc_rbn [0,0] [] ?_
  refine tc_seq ?_
  refine tc_rbn [0,0,0] [(8, Bo (!decide (((l).length : Int) = 8)))] ?_
  refine tc_condP (!decide (((l).length : Int) = 8)) (fun h1 => ?_) (fun h1 => ?_)
  ·
    refine tc_rbn [0,0] [(2, U 0), (3, I 3)] ?_
    refine tc_ret ?_
    refine tq_then_ret ?_
    refine tq_ret [0, 0] [U 0, I 3] (bp_ret (Mem.le_refl _) ?_)
    first | (unfold readNum; rw [if_neg (by omega)]; rfl) | (unfold readNum; rw [if_pos (by omega), hn, List.take_of_length_le (by omega)]; rfl)
  ·
    refine tc_skip ?_
    refine tq_then ?_
    refine tc_rbn [0] [(4, U 0)] ?_
    refine tc_seq ?_
    refine tc_rbn [0,0,0] [(10, I (((l).length : Int))), (11, I 0)] ?_
    refine tc_block ?_
    refine tc_loop (σ := Nat × Int) (fun s => (s.1 ≤ l.length) ∧ (s.2 = readN (l.take s.1))) (fun s => [(0, Sr l), (4, U s.2), (10, I (((l).length : Int))), (11, I ((s.1 : Int)))]) (fun s => G) (fun s => []) (fun s => l.length - s.1) ((0, 0)) (⟨Nat.zero_le _, by simp [readN]⟩) (fun s hs => ?_)
    obtain ⟨i, n⟩ := s
    obtain ⟨hi, hn⟩ := hs
    dsimp only at hi hn
    refine tc_eq (fr' := [(0, Sr l), (4, U n), (10, I (((l).length : Int))), (11, I ((i : Int)))]) (L' := []) rfl rfl ?_
    refine tc_rbn [0] [(12, Bo (decide ((i : Int) < ((l).length : Int))))] ?_
    refine tc_seq ?_
    refine tc_condP (decide ((i : Int) < ((l).length : Int))) (fun h2 => ?_) (fun h2 => ?_)
    ·
      refine tc_skip ?_
      refine tq_then ?_
      refine tc_seq ?_
      refine tc_block ?_
      refine tc_rbn [0,0] [(5, I ((i : Int)))] ?_
      refine tc_region ?_
      refine runL_bn [0,0,0,0] [(15, U (IntKind.u64.wrap (n * 2 ^ 8))), (16, Sr l), (17, I ((i : Int)))] ?_
      obtain ⟨y1, hy1⟩ := getX (l := l) (k := i) (by omega)
      refine runL_sidx (ik := .i64) 18 i y1 hy1 ?_
      refine runL_bn [0,0,0] [(4, U (IntKind.u64.wrap ((BitVec.ofInt 64 (IntKind.u64.wrap (n * 2 ^ 8)) ||| BitVec.ofInt 64 (IntKind.u64.wrap ((y1.toNat : Int)))).toNat : Int)))] ?_
      refine runL_nil ?_
      refine tq_block ?_
      refine tq_then ?_
      refine tc_region ?_
      refine runL_bn [0,0] [(11, I (IntKind.i64.wrap (((i : Int)) + 1)))] ?_
      refine runL_wi64 11 (((i : Int)) + 1) (by omega) ?_
      refine runL_nil ?_
      exact tq_rnd ((i + 1, IntKind.u64.wrap ((BitVec.ofInt 64 (IntKind.u64.wrap (n * 2 ^ 8)) ||| BitVec.ofInt 64 (IntKind.u64.wrap ((y1.toNat : Int)))).toNat : Int))) (⟨by omega, by rw [hn]; exact (foldl_take (f := readS) hy1).symm⟩) (by dsimp only; omega)
    ·
      refine tc_exit ?_
      refine tq_then_exit ?_
      refine tq_rnd_exit ?_
      refine tq_block_here ?_
      refine tq_then ?_
      refine tc_rbn [0,0,0] [(2, U n), (3, I 0)] ?_
      refine tc_ret ?_
      refine tq_ret [0, 0] [U n, I 0] (bp_ret (Mem.le_refl _) ?_)
      first | (unfold readNum; rw [if_neg (by omega)]; rfl) | (unfold readNum; rw [if_pos (by omega), hn, List.take_of_length_le (by omega)]; rfl)
end Go.Proofs.YtpofnmobbbcpgaaGreatDoor
