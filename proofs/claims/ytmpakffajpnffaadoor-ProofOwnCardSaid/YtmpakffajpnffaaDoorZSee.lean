import Derived.Test.YtmpakffajpnffaaDoorZClash
import Derived.Test.YtmpakffajpnffaaDoorZChain
import Derived.Test.YtmpakffajpnffaaDoorZOwner
namespace Go.Proofs.YtmpakffajpnffaaDoor
open Go.Tx
set_option linter.unusedVariables false
set_option linter.unusedSimpArgs false

def proofRoot (p : ProofD) : Int × Int := if (proofSaid p).2 ≠ 0 then (0, (proofSaid p).2) else (markOf (lastT (proofSaid p).1), 0)
def proofHeld (root : Int) (p : ProofD) : Int := if (proofRoot p).2 = 0 ∧ ¬ (proofRoot p).1 = root then 8 else (proofRoot p).2
def proofTell (root : Int) (p : ProofD) : List UInt8 × Bool × Int := if ¬ proofHeld root p = 0 then ([], false, proofHeld root p) else treeGet p.entries p.name
theorem proofSaid_len {p : ProofD} (h : (proofSaid p).2 = 0) : (proofSaid p).1.length = 17 := by
  unfold proofSaid at h ⊢
  split at h
  · contradiction
  · rename_i h1
    rw [if_neg h1]
    simp only
    rw [pOut_len, (proofRight_iff.1 (Decidable.not_not.1 h1)).sides]
theorem proofRoot_con (G : Mem) (vs_p : List Value) (p : ProofD) (h_p : EProof.R G vs_p p)  : Con Tryd.prog 25 #[.agg vs_p.toArray] G [] (fun u G' L' => u = .tuple #[U ((proofRoot p).1), I ((proofRoot p).2)]) := by
 obtain ⟨a1, c1, a2, c2, rfl, w1, hs1, hs2⟩ := h_p
 refine con_of Tryd.func25 21 [(0, .agg #[Sr p.name, Sl a1 p.entries.length c1, Sl a2 p.sides.length c2])] rfl (fun w0 G0 => ?_)
 refine tc_seq ?_
 refine tc_region ?_
 refine runL_box 1 #[Sr p.name, Sl a1 p.entries.length c1, Sl a2 p.sides.length c2] 26 (fun b1 => ?_)
 refine runL_b [0,0] [(1, Pt b1 0)] ?_
 refine runL_nil ?_
 refine tq_then ?_
 refine tc_seq ?_
 refine tc_region ?_
 refine runL_b [2] [(7, .agg #[Sr p.name, Sl a1 p.entries.length c1, Sl a2 p.sides.length c2])] ?_
 refine runL_callR 8 (proofSaid_con G [Sr p.name, Sl a1 p.entries.length c1, Sl a2 p.sides.length c2] p (⟨a1, c1, a2, c2, rfl, w1, hs1, hs2⟩)) (fun v G1 L1 hl1 hp => ?_)
 obtain ⟨a3, c3, rfl, hs3, rfl⟩ := hp
 refine runL_b [0,0,0,0,0] [(4, Sl a3 (((proofSaid p).1).length) c3), (5, I ((proofSaid p).2))] ?_
 refine runL_nil ?_
 refine tq_then ?_
 refine tc_seq ?_
 refine tc_rb [0,0] [(4, Sl a3 (((proofSaid p).1).length) c3), (5, I ((proofSaid p).2)), (12, Bo (!decide ((proofSaid p).2 = 0)))] ?_
 refine tc_cond (!decide ((proofSaid p).2 = 0)) (fun h1 => ?_) (fun h1 => ?_)
 ·
  try simp only [decide_eq_true_eq, decide_eq_false_iff_not, Bool.and_eq_true, Bool.or_eq_true, Bool.and_eq_false_imp, Bool.or_eq_false_iff, Bool.not_eq_true', Bool.not_eq_false', Bool.not_eq_true, Bool.not_eq_false, beq_iff_eq, beq_eq_false_iff_ne, bne_iff_ne, ne_eq, Decidable.not_not, Int.not_lt, Int.not_le] at h1
  refine tc_rb [0,0,0] [(2, U 0), (3, I ((proofSaid p).2))] ?_
  refine tc_ret ?_
  refine tq_then_ret ?_
  refine tq_ret [0, 0] [U 0, I ((proofSaid p).2)] (bp_ret hl1 ?_)
  have hf_ : (proofRoot p) = (0, ((proofSaid p).2)) := by
   unfold proofRoot; first | (rw [if_pos (by assumption)]; done) | (rw [if_neg (by omega)]; have hl_ := lastT_get (a := (proofSaid p).1) rfl hx1; rw [← hl_]; done)
  (try rw [hf_]); first | with_reducible rfl | (simp only [packR]; done) | rfl
 ·
  try simp only [decide_eq_true_eq, decide_eq_false_iff_not, Bool.and_eq_true, Bool.or_eq_true, Bool.and_eq_false_imp, Bool.or_eq_false_iff, Bool.not_eq_true', Bool.not_eq_false', Bool.not_eq_true, Bool.not_eq_false, beq_iff_eq, beq_eq_false_iff_ne, bne_iff_ne, ne_eq, Decidable.not_not, Int.not_lt, Int.not_le] at h1
  refine tc_skip ?_
  refine tq_then ?_
  refine tc_seq ?_
  refine tc_region ?_
  refine runL_b [0,0,0,0] [(14, Sl a3 (((proofSaid p).1).length) c3), (17, I (IntKind.i64.wrap ((((((proofSaid p).1).length : Nat) : Int)) - 1)))] ?_
  have e1 : IntKind.i64.wrap ((((((proofSaid p).1).length : Nat) : Int)) - 1) = ((((proofSaid p).1).length - 1 : Nat) : Int) := (IntWalk.i64_in _ (by first | omega | (have q_ := proofSaid_len (p := p) (by assumption); omega))).trans (show (((((proofSaid p).1).length : Nat) : Int)) - 1 = ((((proofSaid p).1).length - 1 : Nat) : Int) by first | omega | (have q_ := proofSaid_len (p := p) (by assumption); omega))
  refine runL_eq (fr' := [(14, Sl a3 (((proofSaid p).1).length) c3), (17, I (((((proofSaid p).1).length - 1 : Nat) : Int)))]) (L' := [[Sg b1 0 [Sr p.name, Sl a1 p.entries.length c1, Sl a2 p.sides.length c2]]]) (by simp only [e1]) (by rfl) ?_
  clear e1
  obtain ⟨b2, o1, rfl⟩ := RS.addr hs3 (k := ((proofSaid p).1).length - 1) (by first | omega | (have q_ := proofSaid_len (p := p) (by assumption); omega))
  obtain ⟨x1, hx1⟩ := getX (l := (proofSaid p).1) (k := ((proofSaid p).1).length - 1) (by first | omega | (have q_ := proofSaid_len (p := p) (by assumption); omega))
  obtain ⟨_, ⟨rfl, w2⟩, hc1⟩ := RS.get hs3 hx1
  refine runL_idx (b := b2) (off := o1) (len := ((proofSaid p).1).length) (cap := c3) (ik := .i64) 18 9 1 (((proofSaid p).1).length - 1) (by first | omega | (have q_ := proofSaid_len (p := p) (by assumption); omega)) ?_
  refine runL_ldG 19 9 (cs := [Sr x1]) 0 (Sr x1) hc1 ?_
  refine runL_callV 20 (U (markOf x1)) (markOf_con x1 (le48r' w2) G1) ?_
  refine runL_b [0,0] [(2, U (markOf x1)), (3, I 0)] ?_
  refine runL_nil ?_
  refine tq_then ?_
  refine tc_ret ?_
  refine tq_ret [0, 0] [U (markOf x1), I 0] (bp_ret hl1 ?_)
  have hf_ : (proofRoot p) = ((markOf x1), 0) := by
   unfold proofRoot; first | (rw [if_pos (by assumption)]; done) | (rw [if_neg (by omega)]; have hl_ := lastT_get (a := (proofSaid p).1) rfl hx1; rw [← hl_]; done)
  (try rw [hf_]); first | with_reducible rfl | (simp only [packR]; done) | rfl

theorem proofHeld_con (G : Mem) (root : Int) (vs_p : List Value) (p : ProofD) (h_p : EProof.R G vs_p p)  : Con Tryd.prog 23 #[U root, .agg vs_p.toArray] G [] (fun u G' L' => u = I (proofHeld root p)) := by
 obtain ⟨a1, c1, a2, c2, rfl, w1, hs1, hs2⟩ := h_p
 refine con_of Tryd.func23 20 [(0, U root), (1, .agg #[Sr p.name, Sl a1 p.entries.length c1, Sl a2 p.sides.length c2])] rfl (fun w0 G0 => ?_)
 refine tc_seq ?_
 refine tc_region ?_
 refine runL_box 3 #[Sr p.name, Sl a1 p.entries.length c1, Sl a2 p.sides.length c2] 26 (fun b1 => ?_)
 refine runL_b [0] [(0, U root), (3, Pt b1 0)] ?_
 refine runL_nil ?_
 refine tq_then ?_
 refine tc_seq ?_
 refine tc_region ?_
 refine runL_b [2] [(0, U root), (8, .agg #[Sr p.name, Sl a1 p.entries.length c1, Sl a2 p.sides.length c2])] ?_
 refine runL_callV 9 (.tuple #[U ((proofRoot p).1), I ((proofRoot p).2)]) (proofRoot_con G [Sr p.name, Sl a1 p.entries.length c1, Sl a2 p.sides.length c2] p (⟨a1, c1, a2, c2, rfl, w1, hs1, hs2⟩)) ?_
 refine runL_b [0,0,0,0,0] [(0, U root), (5, U ((proofRoot p).1)), (6, I ((proofRoot p).2))] ?_
 refine runL_nil ?_
 refine tq_then ?_
 refine tc_seq ?_
 refine tc_seq ?_
 refine tc_region ?_
 refine runL_b [0,0,0] [(0, U root), (5, U ((proofRoot p).1)), (6, I ((proofRoot p).2)), (14, Bo (decide ((proofRoot p).2 = 0)))] ?_
 refine runL_b2 (decide ((proofRoot p).2 = 0)) (fun bb => [(0, U root), (5, U ((proofRoot p).1)), (6, I ((proofRoot p).2)), (14, Bo bb)]) [0,0,0,0] [1,1,1,0] (fun bb => [(6, I ((proofRoot p).2)), (18, Bo (bb && (!decide ((proofRoot p).1 = root))))]) ?_
 refine runL_nil ?_
 refine tq_then ?_
 refine tc_cond ((decide ((proofRoot p).2 = 0)) && (!decide ((proofRoot p).1 = root))) (fun h1 => ?_) (fun h1 => ?_)
 ·
  try simp only [decide_eq_true_eq, decide_eq_false_iff_not, Bool.and_eq_true, Bool.or_eq_true, Bool.and_eq_false_imp, Bool.or_eq_false_iff, Bool.not_eq_true', Bool.not_eq_false', Bool.not_eq_true, Bool.not_eq_false, beq_iff_eq, beq_eq_false_iff_ne, bne_iff_ne, ne_eq, Decidable.not_not, Int.not_lt, Int.not_le] at h1
  refine tc_region ?_
  refine runL_b [0] [(6, I 8)] ?_
  refine runL_nil ?_
  refine tq_then ?_
  refine tc_rb [0,0] [(4, I 8)] ?_
  refine tc_ret ?_
  refine tq_ret [0] [I 8] (bp_ret (Mem.le_refl _) ?_)
  have hf_ : (proofHeld root p) = 8 := by
   unfold proofHeld; first | (rw [if_pos (by simp_all)]; done) | (rw [if_neg (by simp_all)]; done) | (rw [if_neg (by simp_all)]; simp_all; done)
  (try rw [hf_]); first | with_reducible rfl | (simp only [packR]; done) | rfl
 ·
  try simp only [decide_eq_true_eq, decide_eq_false_iff_not, Bool.and_eq_true, Bool.or_eq_true, Bool.and_eq_false_imp, Bool.or_eq_false_iff, Bool.not_eq_true', Bool.not_eq_false', Bool.not_eq_true, Bool.not_eq_false, beq_iff_eq, beq_eq_false_iff_ne, bne_iff_ne, ne_eq, Decidable.not_not, Int.not_lt, Int.not_le] at h1
  refine tc_skip ?_
  refine tq_then ?_
  refine tc_rb [0,0] [(4, I ((proofRoot p).2))] ?_
  refine tc_ret ?_
  refine tq_ret [0] [I ((proofRoot p).2)] (bp_ret (Mem.le_refl _) ?_)
  have hf_ : (proofHeld root p) = ((proofRoot p).2) := by
   unfold proofHeld; first | (rw [if_pos (by simp_all)]; done) | (rw [if_neg (by simp_all)]; done) | (rw [if_neg (by simp_all)]; simp_all; done)
  (try rw [hf_]); first | with_reducible rfl | (simp only [packR]; done) | rfl

theorem proofTell_con (G : Mem) (root : Int) (vs_p : List Value) (p : ProofD) (h_p : EProof.R G vs_p p)  : Con Tryd.prog 9 #[U root, .agg vs_p.toArray] G [] (fun u G' L' => u = .tuple #[Sr ((proofTell root p).1), Bo ((proofTell root p).2.1), I ((proofTell root p).2.2)] ∧ (((proofTell root p).1).length ≤ 140737488351232) ∧ L' = []) := by
 obtain ⟨a1, c1, a2, c2, rfl, w1, hs1, hs2⟩ := h_p
 refine con_of Tryd.func9 22 [(0, U root), (1, .agg #[Sr p.name, Sl a1 p.entries.length c1, Sl a2 p.sides.length c2])] rfl (fun w0 G0 => ?_)
 refine tc_seq ?_
 refine tc_region ?_
 refine runL_box 3 #[Sr p.name, Sl a1 p.entries.length c1, Sl a2 p.sides.length c2] 26 (fun b1 => ?_)
 refine runL_b [0,0,0] [(0, U root), (3, Pt b1 0)] ?_
 refine runL_nil ?_
 refine tq_then ?_
 refine tc_seq ?_
 refine tc_seq ?_
 refine tc_region ?_
 refine runL_b [0,2] [(3, Pt b1 0), (8, U root), (9, .agg #[Sr p.name, Sl a1 p.entries.length c1, Sl a2 p.sides.length c2])] ?_
 refine runL_callV 10 (I (proofHeld root p)) (proofHeld_con G root [Sr p.name, Sl a1 p.entries.length c1, Sl a2 p.sides.length c2] p (⟨a1, c1, a2, c2, rfl, w1, hs1, hs2⟩)) ?_
 refine runL_b [0] [(3, Pt b1 0), (7, I (proofHeld root p))] ?_
 refine runL_nil ?_
 refine tq_then ?_
 refine tc_rb [0,0] [(3, Pt b1 0), (7, I (proofHeld root p)), (12, Bo (!decide (proofHeld root p = 0)))] ?_
 refine tc_cond (!decide (proofHeld root p = 0)) (fun h1 => ?_) (fun h1 => ?_)
 ·
  try simp only [decide_eq_true_eq, decide_eq_false_iff_not, Bool.and_eq_true, Bool.or_eq_true, Bool.and_eq_false_imp, Bool.or_eq_false_iff, Bool.not_eq_true', Bool.not_eq_false', Bool.not_eq_true, Bool.not_eq_false, beq_iff_eq, beq_eq_false_iff_ne, bne_iff_ne, ne_eq, Decidable.not_not, Int.not_lt, Int.not_le] at h1
  refine tc_rb [0,0,0,0] [(4, Sr ([])), (5, Bo false), (6, I (proofHeld root p))] ?_
  refine tc_ret ?_
  refine tq_then_ret ?_
  have hf1 : proofTell root p = ([], false, proofHeld root p) := by
   unfold proofTell; first | (rw [if_pos (by assumption)]; done) | (rw [if_neg (by simp_all)]; done)
  refine tq_ret [0, 0, 0] [Sr ([]), Bo false, I (proofHeld root p)] (bp_rows [] (.cons _ .slnil) (Mem.le_refl _) ?_)
  rw [hf1]
  try dsimp only
  exact ⟨rfl, (Nat.le_of_ble_eq_true rfl), rfl⟩
 ·
  try simp only [decide_eq_true_eq, decide_eq_false_iff_not, Bool.and_eq_true, Bool.or_eq_true, Bool.and_eq_false_imp, Bool.or_eq_false_iff, Bool.not_eq_true', Bool.not_eq_false', Bool.not_eq_true, Bool.not_eq_false, beq_iff_eq, beq_eq_false_iff_ne, bne_iff_ne, ne_eq, Decidable.not_not, Int.not_lt, Int.not_le] at h1
  refine tc_skip ?_
  refine tq_then ?_
  refine tc_seq ?_
  refine tc_region ?_
  refine runL_b [0,2,0,2] [(15, Sl a1 p.entries.length c1), (17, Sr p.name)] ?_
  refine runL_callR 18 (treeGet_con G a1 c1 p.entries hs1 p.name w1) (fun v G1 L1 hl1 hp => ?_)
  obtain ⟨rfl, w2, rfl⟩ := hp
  refine runL_b [0,0,0,0,0,0] [(4, Sr ((treeGet p.entries p.name).1)), (5, Bo ((treeGet p.entries p.name).2.1)), (6, I ((treeGet p.entries p.name).2.2))] ?_
  refine runL_nil ?_
  refine tq_then ?_
  refine tc_ret ?_
  have hf2 : proofTell root p = ((treeGet p.entries p.name).1, (treeGet p.entries p.name).2.1, (treeGet p.entries p.name).2.2) := by
   unfold proofTell; first | (rw [if_pos (by assumption)]; done) | (rw [if_neg (by simp_all)]; done)
  refine tq_ret [0, 0, 0] [Sr ((treeGet p.entries p.name).1), Bo ((treeGet p.entries p.name).2.1), I ((treeGet p.entries p.name).2.2)] (bp_rows [] (.cons _ .slnil) hl1 ?_)
  rw [hf2]
  try dsimp only
  exact ⟨rfl, w2, rfl⟩
end Go.Proofs.YtmpakffajpnffaaDoor
