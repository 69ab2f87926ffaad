import Derived.Test.YtgcnkcajfjpbcaaPl
namespace Go.Proofs.Ytgcnkcajfjpbcaa
open Go.Tx
set_option linter.unusedVariables false
set_option linter.unusedSimpArgs false

theorem idxFunc_EErr (G : Mem) (k : FuncId) (caps : Array Value) (p : Int → Bool) {a : Option Addr} {c : Nat} {l : List Int} (hk : isFn Try.prog k) (h : RS EErr G a c l) (hf : ∀ x, Con Try.prog k (#[I x] ++ caps) G [] (fun u _ _ => u = Bo (p x))) : Con Try.prog 87 #[Sl a l.length c, .func (.func k) #[] caps] G [] (fun u G' L' => u = I (idxF p l)) := by
  refine con_of Try.func87 19 [(0, Sl a l.length c), (1, .func (.func k) #[] caps)] rfl (fun w0 G0 => ?_)
  refine tc_rb [0] [(0, Sl a l.length c), (1, .func (.func k) #[] caps), (4, I 0)] ?_
  refine tc_seq ?_
  refine tc_rb [0,0,0] [(0, Sl a l.length c), (1, .func (.func k) #[] caps), (4, I 0), (7, I (((l.length : Nat) : Int))), (8, I 0)] ?_
  refine tc_block ?_
  refine tc_loop (σ := Nat) (fun s => (s ≤ l.length) ∧ ((l.take s).any p = false)) (fun s => [(0, Sl a l.length c), (1, .func (.func k) #[] caps), (7, I (((l.length : Nat) : Int))), (8, I ((s : Int)))]) (fun s => G) (fun s => []) (fun s => l.length - s) 0 (⟨Nat.zero_le _, by simp⟩) (fun s hs => ?_)
  revert hs; revert s; intro i hs
  obtain ⟨hi, hn⟩ := hs
  skip
  refine tc_eq (fr' := [(0, Sl a l.length c), (1, .func (.func k) #[] caps), (7, I (((l.length : Nat) : Int))), (8, I ((i : Int)))]) (L' := []) rfl rfl ?_
  refine tc_rb [0] [(0, Sl a l.length c), (1, .func (.func k) #[] caps), (7, I (((l.length : Nat) : Int))), (8, I ((i : Int))), (9, Bo (decide ((i : Int) < ((l.length : Nat) : Int))))] ?_
  refine tc_seq ?_
  refine tc_cond (decide ((i : Int) < ((l.length : Nat) : Int))) (fun h1 => ?_) (fun h1 => ?_)
  ·
    try simp only [decide_eq_true_eq, decide_eq_false_iff_not, Bool.and_eq_true, Bool.or_eq_true, Bool.and_eq_false_imp, Bool.or_eq_false_iff, Bool.not_eq_true', Bool.not_eq_false', Bool.not_eq_true, Bool.not_eq_false, beq_iff_eq, beq_eq_false_iff_ne, bne_iff_ne, ne_eq, Decidable.not_not, Int.not_lt, Int.not_le] at h1
    refine tc_skip ?_
    refine tq_then ?_
    refine tc_seq ?_
    refine tc_block ?_
    refine tc_rb [0,0] [(0, Sl a l.length c), (1, .func (.func k) #[] caps), (5, I ((i : Int))), (7, I (((l.length : Nat) : Int))), (8, I ((i : Int))), (9, Bo (decide ((i : Int) < ((l.length : Nat) : Int))))] ?_
    refine tc_seq ?_
    refine tc_region ?_
    refine runL_b [0,0,0] [(0, Sl a l.length c), (1, .func (.func k) #[] caps), (5, I ((i : Int))), (7, I (((l.length : Nat) : Int))), (8, I ((i : Int))), (9, Bo (decide ((i : Int) < ((l.length : Nat) : Int)))), (11, .func (.func k) #[] caps), (12, Sl a l.length c), (13, I ((i : Int)))] ?_
    obtain ⟨b1, o1, rfl⟩ := RS.addr h (k := i) (by have := h.le; have := h.max; omega)
    obtain ⟨x1, hx1⟩ := getX (l := l) (k := i) (by have := h.le; have := h.max; omega)
    obtain ⟨_, rfl, hc1⟩ := RS.get h hx1
    refine runL_idx (b := b1) (off := o1) (len := l.length) (cap := c) (ik := .i64) 14 25 1 i (by have := h.le; have := h.max; omega) ?_
    refine runL_ldG 15 25 (cs := [I x1]) 0 (I x1) hc1 ?_
    refine runL_callF (k := k) (caps := caps) (args := #[I x1]) 16 (Bo (p x1)) hk (hf x1) ?_
    refine runL_nil ?_
    refine tq_then ?_
    refine tc_cond (p x1) (fun h2 => ?_) (fun h2 => ?_)
    ·
      try simp only [decide_eq_true_eq, decide_eq_false_iff_not, Bool.and_eq_true, Bool.or_eq_true, Bool.and_eq_false_imp, Bool.or_eq_false_iff, Bool.not_eq_true', Bool.not_eq_false', Bool.not_eq_true, Bool.not_eq_false, beq_iff_eq, beq_eq_false_iff_ne, bne_iff_ne, ne_eq, Decidable.not_not, Int.not_lt, Int.not_le] at h2
      refine tc_rb [0,0] [(0, Sl (At b1 o1) l.length c), (1, .func (.func k) #[] caps), (4, I ((i : Int))), (5, I ((i : Int))), (7, I (((l.length : Nat) : Int))), (8, I ((i : Int))), (9, Bo (decide ((i : Int) < ((l.length : Nat) : Int)))), (16, Bo (p x1))] ?_
      refine tc_ret ?_
      refine tq_block_ret ?_
      refine tq_then_ret ?_
      refine tq_rnd_ret ?_
      refine tq_block_ret ?_
      refine tq_then_ret ?_
      refine tq_ret [0] [I ((i : Int))] (bp_ret (Mem.le_refl _) ?_)
      first | exact congrArg I (idxF_some hx1 (by simpa using h2) hn).symm | exact congrArg I (idxF_none (by rw [List.take_of_length_le (by omega)] at hn; exact hn)).symm
    ·
      try simp only [decide_eq_true_eq, decide_eq_false_iff_not, Bool.and_eq_true, Bool.or_eq_true, Bool.and_eq_false_imp, Bool.or_eq_false_iff, Bool.not_eq_true', Bool.not_eq_false', Bool.not_eq_true, Bool.not_eq_false, beq_iff_eq, beq_eq_false_iff_ne, bne_iff_ne, ne_eq, Decidable.not_not, Int.not_lt, Int.not_le] at h2
      refine tc_skip ?_
      refine tq_block ?_
      refine tq_then ?_
      refine tc_region ?_
      refine runL_b [0,0] [(0, Sl (At b1 o1) l.length c), (1, .func (.func k) #[] caps), (5, I ((i : Int))), (7, I (((l.length : Nat) : Int))), (8, I (IntKind.i64.wrap (((i : Int)) + 1))), (9, Bo (decide ((i : Int) < ((l.length : Nat) : Int)))), (16, Bo (p x1))] ?_
      have e1 : IntKind.i64.wrap (((i : Int)) + 1) = ((i : Int)) + 1 := IntWalk.i64_in _ (by have := h.le; have := h.max; omega)
      refine runL_eq (fr' := [(0, Sl (At b1 o1) l.length c), (1, .func (.func k) #[] caps), (5, I ((i : Int))), (7, I (((l.length : Nat) : Int))), (8, I (((i : Int)) + 1)), (9, Bo (decide ((i : Int) < ((l.length : Nat) : Int)))), (16, Bo (p x1))]) (L' := []) (by simp only [e1]) (by rfl) ?_
      clear e1
      refine runL_nil ?_
      exact tq_rnd (i + 1) (⟨by omega, any_take hx1 (by simpa using h2) hn⟩) (by omega)
  ·
    try simp only [decide_eq_true_eq, decide_eq_false_iff_not, Bool.and_eq_true, Bool.or_eq_true, Bool.and_eq_false_imp, Bool.or_eq_false_iff, Bool.not_eq_true', Bool.not_eq_false', Bool.not_eq_true, Bool.not_eq_false, beq_iff_eq, beq_eq_false_iff_ne, bne_iff_ne, ne_eq, Decidable.not_not, Int.not_lt, Int.not_le] at h1
    refine tc_exit ?_
    refine tq_then_exit ?_
    refine tq_rnd_exit ?_
    refine tq_block_here ?_
    refine tq_then ?_
    refine tc_rb [0] [(0, Sl a l.length c), (1, .func (.func k) #[] caps), (4, I ((-1))), (7, I (((l.length : Nat) : Int))), (8, I ((i : Int))), (9, Bo (decide ((i : Int) < ((l.length : Nat) : Int))))] ?_
    refine tc_ret ?_
    refine tq_ret [0] [I ((-1))] (bp_ret (Mem.le_refl _) ?_)
    first | exact congrArg I (idxF_some hx1 (by simpa using h2) hn).symm | exact congrArg I (idxF_none (by rw [List.take_of_length_le (by omega)] at hn; exact hn)).symm

theorem hasFunc_EErr (G : Mem) (k : FuncId) (caps : Array Value) (p : Int → Bool) {a : Option Addr} {c : Nat} {l : List Int} (hk : isFn Try.prog k) (h : RS EErr G a c l) (hf : ∀ x, Con Try.prog k (#[I x] ++ caps) G [] (fun u _ _ => u = Bo (p x))) : Con Try.prog 64 #[Sl a l.length c, .func (.func k) #[] caps] G [] (fun u G' L' => u = Bo (l.any p)) := by
  refine con_of Try.func64 9 [(0, Sl a l.length c), (1, .func (.func k) #[] caps)] rfl (fun w0 G0 => ?_)
  refine tc_rb [0] [(0, Sl a l.length c), (1, .func (.func k) #[] caps), (4, Bo false)] ?_
  refine tc_seq ?_
  refine tc_region ?_
  refine runL_b [0,0] [(4, Bo false), (5, Sl a l.length c), (6, .func (.func k) #[] caps)] ?_
  refine runL_callV 7 (I (idxF p l)) (idxFunc_EErr G k caps p hk h hf) ?_
  refine runL_b [0,0] [(4, Bo (decide (idxF p l ≥ 0)))] ?_
  refine runL_nil ?_
  refine tq_then ?_
  refine tc_ret ?_
  refine tq_ret [0] [Bo (decide (idxF p l ≥ 0))] (bp_ret (Mem.le_refl _) ?_)
  exact congrArg Bo (idxF_any p l)
end Go.Proofs.Ytgcnkcajfjpbcaa
