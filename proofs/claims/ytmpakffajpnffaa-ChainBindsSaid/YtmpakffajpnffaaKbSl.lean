import Derived.Test.YtmpakffajpnffaaKbTy
namespace Go.Proofs.Ytmpakffajpnffaa
open Go.Tx
set_option linter.unusedVariables false
set_option linter.unusedSimpArgs false
theorem HeadD_ne {x y : HeadD} : x = y ↔ x.epoch = y.epoch ∧ x.root = y.root ∧ x.prev = y.prev ∧ x.at_ = y.at_ := by cases x; cases y; simp
theorem sclone_EHead (G : Mem) (a_l : Option Addr) (c_l : Nat) (l : List HeadD) (h_l : RS EHead G a_l c_l l)  : Con Try.prog 11 #[Sl a_l l.length c_l] G [] (fun u G' L' => ∃ (a1 : Option Addr) (c2 : Nat) (r3 : List Seg), u = Sl a1 l.length c2 ∧ (TRow EHead G' a1 c2 l r3) ∧ L' = [r3]) := by
 refine con_of Try.func11 8 [(0, Sl a_l l.length c_l)] rfl (fun w0 G0 => ?_)
 refine tc_rb [0] [(0, Sl a_l l.length c_l)] (tc_seq (tc_seq (tc_region ?_)))
 refine runL_b [0] [(0, Sl a_l l.length c_l), (3, Sl a_l l.length c_l)] ?_
 refine runL_one 4 (Bo ((a_l).isNone)) (by intro w; cases a_l <;> kernel_rfl) ?_
 refine runL_nil (tq_then ?_)
 refine tc_cond ((a_l).isNone) (fun h1 => ?_) (fun h1 => ?_)
 ·
  try simp only [BB] at h1
  refine tc_rb [0] [(2, Sl none 0 0)] (tc_ret (tq_then_ret ?_))
  refine tq_empty ?_
  refine tq_front 0 ?_
  have hf1 : l = [] := by
   first | rfl | exact RS.isNil h_l h1
  refine tq_ret [0] [Sl none 0 0] (bp_rows [[]] (.cons_cons _ .slnil) (Mem.le_refl _) ?_)
  rw [hf1]
  try dsimp only
  exact ⟨none, 0, ([]), rfl, (TRow.none EHead _), rfl⟩
 ·
  try simp only [BB] at h1
  refine tc_skip (tq_then (tc_seq (tc_region ?_)))
  refine runL_bsl 5 0 #[] 31 (fun b1 => ?_)
  refine runL_b [0] [(5, Sl (At b1 0) 0 0), (6, Sl a_l l.length c_l)] ?_
  refine runL_app0 7 31 0 (TRow.of_lit (E := EHead) (b := b1) [] [] trivial (by simp)) h_l (fun a1 c1 r1 hr1 => ?_)
  refine runL_b [0] [(2, Sl a1 l.length c1)] (runL_nil (tq_then (tc_ret ?_)))
  refine tq_front 0 ?_
  have hf2 : l = l := by
   first | rfl | exact RS.isNil h_l h1
  refine tq_ret [0] [Sl a1 l.length c1] (bp_rows [r1] (.cons_cons _ .slnil) (Mem.le_refl _) ?_)
  rw [hf2]
  try dsimp only
  exact ⟨a1, c1, r1, rfl, hr1, rfl⟩
end Go.Proofs.Ytmpakffajpnffaa
