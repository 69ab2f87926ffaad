import Derived.Test.YtngoijkcbmchdaaGreatDoorTy
namespace Go.Proofs.YtngoijkcbmchdaaGreatDoor
open Go.Tx
set_option linter.unusedVariables false
set_option linter.unusedSimpArgs false

theorem num_con (n : Int) (G : Mem) : Con Tryz.prog 102 #[U n] G [] (fun u G' L' => u = Sr (numB n)) := by
  refine con_of Tryz.func102 19 [(0, U n)] rfl (fun w0 G0 => ?_)
  refine tc_rbn [0] [] ?_
  refine tc_seq ?_
  refine tc_region ?_
  refine runL_box 3 #[Y 0, Y 0, Y 0, Y 0, Y 0, Y 0, Y 0, Y 0] 175 (fun b1 => ?_)
  refine runL_nil ?_
  refine tq_then ?_
  refine tc_seq ?_
  refine tc_rbn [0] [(5, I 0)] ?_
  refine tc_block ?_
  refine tc_unroll 9 ?_
  refine ti_step ?_
  refine tc_rbn [0] [(6, Bo true)] ?_
  refine tc_seq ?_
  refine tc_cond_true ?_
  refine tc_skip ?_
  refine tq_then ?_
  refine tc_seq ?_
  refine tc_block ?_
  refine tc_rbn [0,0] [(4, I 0)] ?_
  refine tc_region ?_
  refine runL_bsn [0,0,0,0,0,0,0,0,3] [] [[Sg b1 0 [Y (IntKind.u8.wrap ((n).fdiv (2 ^ 56))), Y 0, Y 0, Y 0, Y 0, Y 0, Y 0, Y 0]]] ?_
  refine runL_nil ?_
  refine tq_block ?_
  refine tq_then ?_
  refine tc_region ?_
  refine runL_bn [0,0] [(5, I 1)] ?_
  refine runL_nil ?_
  refine tq_iter ?_
  refine ti_step ?_
  refine tc_rbn [0] [(6, Bo true)] ?_
  refine tc_seq ?_
  refine tc_cond_true ?_
  refine tc_skip ?_
  refine tq_then ?_
  refine tc_seq ?_
  refine tc_block ?_
  refine tc_rbn [0,0] [(4, I 1)] ?_
  refine tc_region ?_
  refine runL_bsn [0,0,0,0,0,0,0,0,3] [] [[Sg b1 0 [Y (IntKind.u8.wrap ((n).fdiv (2 ^ 56))), Y (IntKind.u8.wrap ((n).fdiv (2 ^ 48))), Y 0, Y 0, Y 0, Y 0, Y 0, Y 0]]] ?_
  refine runL_nil ?_
  refine tq_block ?_
  refine tq_then ?_
  refine tc_region ?_
  refine runL_bn [0,0] [(5, I 2)] ?_
  refine runL_nil ?_
  refine tq_iter ?_
  refine ti_step ?_
  refine tc_rbn [0] [(6, Bo true)] ?_
  refine tc_seq ?_
  refine tc_cond_true ?_
  refine tc_skip ?_
  refine tq_then ?_
  refine tc_seq ?_
  refine tc_block ?_
  refine tc_rbn [0,0] [(4, I 2)] ?_
  refine tc_region ?_
  refine runL_bsn [0,0,0,0,0,0,0,0,3] [] [[Sg b1 0 [Y (IntKind.u8.wrap ((n).fdiv (2 ^ 56))), Y (IntKind.u8.wrap ((n).fdiv (2 ^ 48))), Y (IntKind.u8.wrap ((n).fdiv (2 ^ 40))), Y 0, Y 0, Y 0, Y 0, Y 0]]] ?_
  refine runL_nil ?_
  refine tq_block ?_
  refine tq_then ?_
  refine tc_region ?_
  refine runL_bn [0,0] [(5, I 3)] ?_
  refine runL_nil ?_
  refine tq_iter ?_
  refine ti_step ?_
  refine tc_rbn [0] [(6, Bo true)] ?_
  refine tc_seq ?_
  refine tc_cond_true ?_
  refine tc_skip ?_
  refine tq_then ?_
  refine tc_seq ?_
  refine tc_block ?_
  refine tc_rbn [0,0] [(4, I 3)] ?_
  refine tc_region ?_
  refine runL_bsn [0,0,0,0,0,0,0,0,3] [] [[Sg b1 0 [Y (IntKind.u8.wrap ((n).fdiv (2 ^ 56))), Y (IntKind.u8.wrap ((n).fdiv (2 ^ 48))), Y (IntKind.u8.wrap ((n).fdiv (2 ^ 40))), Y (IntKind.u8.wrap ((n).fdiv (2 ^ 32))), Y 0, Y 0, Y 0, Y 0]]] ?_
  refine runL_nil ?_
  refine tq_block ?_
  refine tq_then ?_
  refine tc_region ?_
  refine runL_bn [0,0] [(5, I 4)] ?_
  refine runL_nil ?_
  refine tq_iter ?_
  refine ti_step ?_
  refine tc_rbn [0] [(6, Bo true)] ?_
  refine tc_seq ?_
  refine tc_cond_true ?_
  refine tc_skip ?_
  refine tq_then ?_
  refine tc_seq ?_
  refine tc_block ?_
  refine tc_rbn [0,0] [(4, I 4)] ?_
  refine tc_region ?_
  refine runL_bsn [0,0,0,0,0,0,0,0,3] [] [[Sg b1 0 [Y (IntKind.u8.wrap ((n).fdiv (2 ^ 56))), Y (IntKind.u8.wrap ((n).fdiv (2 ^ 48))), Y (IntKind.u8.wrap ((n).fdiv (2 ^ 40))), Y (IntKind.u8.wrap ((n).fdiv (2 ^ 32))), Y (IntKind.u8.wrap ((n).fdiv (2 ^ 24))), Y 0, Y 0, Y 0]]] ?_
  refine runL_nil ?_
  refine tq_block ?_
  refine tq_then ?_
  refine tc_region ?_
  refine runL_bn [0,0] [(5, I 5)] ?_
  refine runL_nil ?_
  refine tq_iter ?_
  refine ti_step ?_
  refine tc_rbn [0] [(6, Bo true)] ?_
  refine tc_seq ?_
  refine tc_cond_true ?_
  refine tc_skip ?_
  refine tq_then ?_
  refine tc_seq ?_
  refine tc_block ?_
  refine tc_rbn [0,0] [(4, I 5)] ?_
  refine tc_region ?_
  refine runL_bsn [0,0,0,0,0,0,0,0,3] [] [[Sg b1 0 [Y (IntKind.u8.wrap ((n).fdiv (2 ^ 56))), Y (IntKind.u8.wrap ((n).fdiv (2 ^ 48))), Y (IntKind.u8.wrap ((n).fdiv (2 ^ 40))), Y (IntKind.u8.wrap ((n).fdiv (2 ^ 32))), Y (IntKind.u8.wrap ((n).fdiv (2 ^ 24))), Y (IntKind.u8.wrap ((n).fdiv (2 ^ 16))), Y 0, Y 0]]] ?_
  refine runL_nil ?_
  refine tq_block ?_
  refine tq_then ?_
  refine tc_region ?_
  refine runL_bn [0,0] [(5, I 6)] ?_
  refine runL_nil ?_
  refine tq_iter ?_
  refine ti_step ?_
  refine tc_rbn [0] [(6, Bo true)] ?_
  refine tc_seq ?_
  refine tc_cond_true ?_
  refine tc_skip ?_
  refine tq_then ?_
  refine tc_seq ?_
  refine tc_block ?_
  refine tc_rbn [0,0] [(4, I 6)] ?_
  refine tc_region ?_
  refine runL_bsn [0,0,0,0,0,0,0,0,3] [] [[Sg b1 0 [Y (IntKind.u8.wrap ((n).fdiv (2 ^ 56))), Y (IntKind.u8.wrap ((n).fdiv (2 ^ 48))), Y (IntKind.u8.wrap ((n).fdiv (2 ^ 40))), Y (IntKind.u8.wrap ((n).fdiv (2 ^ 32))), Y (IntKind.u8.wrap ((n).fdiv (2 ^ 24))), Y (IntKind.u8.wrap ((n).fdiv (2 ^ 16))), Y (IntKind.u8.wrap ((n).fdiv (2 ^ 8))), Y 0]]] ?_
  refine runL_nil ?_
  refine tq_block ?_
  refine tq_then ?_
  refine tc_region ?_
  refine runL_bn [0,0] [(5, I 7)] ?_
  refine runL_nil ?_
  refine tq_iter ?_
  refine ti_step ?_
  refine tc_rbn [0] [(6, Bo true)] ?_
  refine tc_seq ?_
  refine tc_cond_true ?_
  refine tc_skip ?_
  refine tq_then ?_
  refine tc_seq ?_
  refine tc_block ?_
  refine tc_rbn [0,0] [(4, I 7)] ?_
  refine tc_region ?_
  refine runL_bsn [0,0,0,0,0,0,0,0,3] [] [[Sg b1 0 [Y (IntKind.u8.wrap ((n).fdiv (2 ^ 56))), Y (IntKind.u8.wrap ((n).fdiv (2 ^ 48))), Y (IntKind.u8.wrap ((n).fdiv (2 ^ 40))), Y (IntKind.u8.wrap ((n).fdiv (2 ^ 32))), Y (IntKind.u8.wrap ((n).fdiv (2 ^ 24))), Y (IntKind.u8.wrap ((n).fdiv (2 ^ 16))), Y (IntKind.u8.wrap ((n).fdiv (2 ^ 8))), Y (IntKind.u8.wrap ((n).fdiv (2 ^ 0)))]]] ?_
  refine runL_nil ?_
  refine tq_block ?_
  refine tq_then ?_
  refine tc_region ?_
  refine runL_bn [0,0] [(5, I 8)] ?_
  refine runL_nil ?_
  refine tq_iter ?_
  refine ti_step ?_
  refine tc_rbn [0] [(6, Bo false)] ?_
  refine tc_seq ?_
  refine tc_cond_false ?_
  refine tc_exit ?_
  refine tq_then_exit ?_
  refine tq_then_exit ?_
  refine tq_block_here ?_
  refine tq_then ?_
  refine tc_seq ?_
  refine tc_region ?_
  refine runL_bn [0] [(17, Sl (At b1 0) 8 8)] ?_
  refine runL_b2s (b := b1) (off := 0) (len := 8) (cap := 8) (cs := List.map (Value.int .u8) [IntKind.u8.wrap ((n).fdiv (2 ^ 56)), IntKind.u8.wrap ((n).fdiv (2 ^ 48)), IntKind.u8.wrap ((n).fdiv (2 ^ 40)), IntKind.u8.wrap ((n).fdiv (2 ^ 32)), IntKind.u8.wrap ((n).fdiv (2 ^ 24)), IntKind.u8.wrap ((n).fdiv (2 ^ 16)), IntKind.u8.wrap ((n).fdiv (2 ^ 8)), IntKind.u8.wrap ((n).fdiv (2 ^ 0))]) 18 0 [IntKind.u8.wrap ((n).fdiv (2 ^ 56)), IntKind.u8.wrap ((n).fdiv (2 ^ 48)), IntKind.u8.wrap ((n).fdiv (2 ^ 40)), IntKind.u8.wrap ((n).fdiv (2 ^ 32)), IntKind.u8.wrap ((n).fdiv (2 ^ 24)), IntKind.u8.wrap ((n).fdiv (2 ^ 16)), IntKind.u8.wrap ((n).fdiv (2 ^ 8)), IntKind.u8.wrap ((n).fdiv (2 ^ 0))] rfl (lit_bytes (ns := [IntKind.u8.wrap ((n).fdiv (2 ^ 56)), IntKind.u8.wrap ((n).fdiv (2 ^ 48)), IntKind.u8.wrap ((n).fdiv (2 ^ 40)), IntKind.u8.wrap ((n).fdiv (2 ^ 32)), IntKind.u8.wrap ((n).fdiv (2 ^ 24)), IntKind.u8.wrap ((n).fdiv (2 ^ 16)), IntKind.u8.wrap ((n).fdiv (2 ^ 8)), IntKind.u8.wrap ((n).fdiv (2 ^ 0))]) rfl) ?_
  refine runL_bn [0] [(2, Sr (([IntKind.u8.wrap ((n).fdiv (2 ^ 56)), IntKind.u8.wrap ((n).fdiv (2 ^ 48)), IntKind.u8.wrap ((n).fdiv (2 ^ 40)), IntKind.u8.wrap ((n).fdiv (2 ^ 32)), IntKind.u8.wrap ((n).fdiv (2 ^ 24)), IntKind.u8.wrap ((n).fdiv (2 ^ 16)), IntKind.u8.wrap ((n).fdiv (2 ^ 8)), IntKind.u8.wrap ((n).fdiv (2 ^ 0))] : List Int).map fun n => UInt8.ofNat n.toNat))] ?_
  refine runL_nil ?_
  refine tq_then ?_
  refine tc_ret ?_
  refine tq_ret [0] [Sr (([IntKind.u8.wrap ((n).fdiv (2 ^ 56)), IntKind.u8.wrap ((n).fdiv (2 ^ 48)), IntKind.u8.wrap ((n).fdiv (2 ^ 40)), IntKind.u8.wrap ((n).fdiv (2 ^ 32)), IntKind.u8.wrap ((n).fdiv (2 ^ 24)), IntKind.u8.wrap ((n).fdiv (2 ^ 16)), IntKind.u8.wrap ((n).fdiv (2 ^ 8)), IntKind.u8.wrap ((n).fdiv (2 ^ 0))] : List Int).map fun n => UInt8.ofNat n.toNat)] (bp_ret (Mem.le_refl _) ?_)
  rfl
end Go.Proofs.YtngoijkcbmchdaaGreatDoor
