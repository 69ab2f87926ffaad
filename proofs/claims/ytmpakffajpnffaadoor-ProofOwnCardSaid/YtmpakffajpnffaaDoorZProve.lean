import Derived.Test.YtmpakffajpnffaaDoorZMake
import Derived.Test.YtmpakffajpnffaaDoorZSee
import Derived.Test.YtmpakffajpnffaaDoorZWireL
namespace Go.Proofs.YtmpakffajpnffaaDoor
open Go.Tx
set_option linter.unusedVariables false
set_option linter.unusedSimpArgs false

def proofAfter (root : Int) (p : ProofD) (value : List UInt8) : Int × Int := if ¬ proofHeld root p = 0 then (0, proofHeld root p) else if ¬ (treeSet p.entries p.name value).2 = 0 then (0, (treeSet p.entries p.name value).2) else proofRoot ⟨p.name, (treeSet p.entries p.name value).1, p.sides⟩
theorem own_law (p : ProofD) : ((proofSaid p).1.length : Int) = 0 ∨ ((proofSaid p).1.length : Int) = 17 := by
  by_cases h : (proofSaid p).2 = 0
  · exact .inr (by have := proofSaid_len h; omega)
  · left
    unfold proofSaid at h ⊢
    split
    · simp
    · rename_i h1; rw [if_neg h1] at h; exact absurd rfl h
theorem proofs_law : (proofMake [] [97]).2 = 0 ∧ (proofMake [] [97]).1.sides.length = 16 := by decide +kernel
theorem proofAfter_con (G : Mem) (root : Int) (vs_p : List Value) (p : ProofD) (h_p : EProof.R G vs_p p) (value : List UInt8) (hw_value : (value).length ≤ 140737488351232)  : Con Tryd.prog 10 #[U root, .agg vs_p.toArray, Sr value] G [] (fun u G' L' => u = .tuple #[U ((proofAfter root p value).1), I ((proofAfter root p value).2)]) := by
 obtain ⟨a1, c1, a2, c2, rfl, w1, hs1, hs2⟩ := h_p
 refine con_of Tryd.func10 35 [(0, U root), (1, .agg #[Sr p.name, Sl a1 p.entries.length c1, Sl a2 p.sides.length c2]), (2, Sr value)] rfl (fun w0 G0 => ?_)
 refine tc_seq ?_
 refine tc_region ?_
 refine runL_box 4 #[Sr p.name, Sl a1 p.entries.length c1, Sl a2 p.sides.length c2] 26 (fun b1 => ?_)
 refine runL_b [0,0] [(0, U root), (2, Sr value), (4, Pt b1 0)] ?_
 refine runL_nil ?_
 refine tq_then ?_
 refine tc_seq ?_
 refine tc_seq ?_
 refine tc_region ?_
 refine runL_b [0,2] [(2, Sr value), (4, Pt b1 0), (11, U root), (12, .agg #[Sr p.name, Sl a1 p.entries.length c1, Sl a2 p.sides.length c2])] ?_
 refine runL_callV 13 (I (proofHeld root p)) (proofHeld_con G root [Sr p.name, Sl a1 p.entries.length c1, Sl a2 p.sides.length c2] p (⟨a1, c1, a2, c2, rfl, w1, hs1, hs2⟩)) ?_
 refine runL_b [0] [(2, Sr value), (4, Pt b1 0), (8, I (proofHeld root p))] ?_
 refine runL_nil ?_
 refine tq_then ?_
 refine tc_rb [0,0] [(2, Sr value), (4, Pt b1 0), (8, I (proofHeld root p)), (15, Bo (!decide (proofHeld root p = 0)))] ?_
 refine tc_cond (!decide (proofHeld root p = 0)) (fun h1 => ?_) (fun h1 => ?_)
 ·
  try simp only [decide_eq_true_eq, decide_eq_false_iff_not, Bool.and_eq_true, Bool.or_eq_true, Bool.and_eq_false_imp, Bool.or_eq_false_iff, Bool.not_eq_true', Bool.not_eq_false', Bool.not_eq_true, Bool.not_eq_false, beq_iff_eq, beq_eq_false_iff_ne, bne_iff_ne, ne_eq, Decidable.not_not, Int.not_lt, Int.not_le] at h1
  refine tc_rb [0,0,0] [(6, U 0), (7, I (proofHeld root p))] ?_
  refine tc_ret ?_
  refine tq_then_ret ?_
  refine tq_ret [0, 0] [U 0, I (proofHeld root p)] (bp_ret (Mem.le_refl _) ?_)
  have hf_ : (proofAfter root p value) = (0, (proofHeld root p)) := by
   unfold proofAfter; first | (rw [if_pos (by assumption)]; done) | (rw [if_neg (by omega)]; first | (rw [if_pos (by assumption)]; done) | (rw [if_neg (by omega)]; done))
  (try rw [hf_]); first | with_reducible rfl | (simp only [packR]; done) | rfl
 ·
  try simp only [decide_eq_true_eq, decide_eq_false_iff_not, Bool.and_eq_true, Bool.or_eq_true, Bool.and_eq_false_imp, Bool.or_eq_false_iff, Bool.not_eq_true', Bool.not_eq_false', Bool.not_eq_true, Bool.not_eq_false, beq_iff_eq, beq_eq_false_iff_ne, bne_iff_ne, ne_eq, Decidable.not_not, Int.not_lt, Int.not_le] at h1
  refine tc_skip ?_
  refine tq_then ?_
  refine tc_seq ?_
  refine tc_region ?_
  refine runL_b [0,2,0,2,0] [(4, Pt b1 0), (19, Sl a1 p.entries.length c1), (21, Sr p.name), (22, Sr value)] ?_
  refine runL_callR 23 (treeSet_con G a1 c1 p.entries hs1 p.name w1 value hw_value) (fun v G1 L1 hl1 hp => ?_)
  obtain ⟨a3, c3, r1, rfl, hr1, rfl⟩ := hp
  refine runL_b [0,0,0,0,0] [(4, Pt b1 0), (9, Sl a3 (((treeSet p.entries p.name value).1).length) c3), (10, I ((treeSet p.entries p.name value).2))] ?_
  refine runL_nil ?_
  refine tq_then ?_
  refine tc_seq ?_
  refine tc_rb [0,0] [(4, Pt b1 0), (9, Sl a3 (((treeSet p.entries p.name value).1).length) c3), (10, I ((treeSet p.entries p.name value).2)), (27, Bo (!decide ((treeSet p.entries p.name value).2 = 0)))] ?_
  refine tc_cond (!decide ((treeSet p.entries p.name value).2 = 0)) (fun h2 => ?_) (fun h2 => ?_)
  ·
   try simp only [decide_eq_true_eq, decide_eq_false_iff_not, Bool.and_eq_true, Bool.or_eq_true, Bool.and_eq_false_imp, Bool.or_eq_false_iff, Bool.not_eq_true', Bool.not_eq_false', Bool.not_eq_true, Bool.not_eq_false, beq_iff_eq, beq_eq_false_iff_ne, bne_iff_ne, ne_eq, Decidable.not_not, Int.not_lt, Int.not_le] at h2
   refine tc_rb [0,0,0] [(6, U 0), (7, I ((treeSet p.entries p.name value).2))] ?_
   refine tc_ret ?_
   refine tq_then_ret ?_
   refine tq_ret [0, 0] [U 0, I ((treeSet p.entries p.name value).2)] (bp_ret hl1 ?_)
   have hf_ : (proofAfter root p value) = (0, ((treeSet p.entries p.name value).2)) := by
    unfold proofAfter; first | (rw [if_pos (by assumption)]; done) | (rw [if_neg (by omega)]; first | (rw [if_pos (by assumption)]; done) | (rw [if_neg (by omega)]; done))
   (try rw [hf_]); first | with_reducible rfl | (simp only [packR]; done) | rfl
  ·
   try simp only [decide_eq_true_eq, decide_eq_false_iff_not, Bool.and_eq_true, Bool.or_eq_true, Bool.and_eq_false_imp, Bool.or_eq_false_iff, Bool.not_eq_true', Bool.not_eq_false', Bool.not_eq_true, Bool.not_eq_false, beq_iff_eq, beq_eq_false_iff_ne, bne_iff_ne, ne_eq, Decidable.not_not, Int.not_lt, Int.not_le] at h2
   refine tc_skip ?_
   refine tq_then ?_
   refine tc_rbs [0,0,5] [(4, Pt b1 0)] [r1, [Sg b1 0 [Sr p.name, Sl a3 (((treeSet p.entries p.name value).1).length) c3, Sl a2 p.sides.length c2]]] ?_
   refine tc_seq ?_
   refine tc_region ?_
   refine runL_b [4] [(31, .agg #[Sr p.name, Sl a3 (((treeSet p.entries p.name value).1).length) c3, Sl a2 p.sides.length c2])] ?_
   refine runL_frzR (E := EEnt) 0 hr1 (by have q_ := treeSet_len p.entries p.name value; simp only [EEnt]; omega) (fun G2 hl2 hs3 => ?_)
   refine runL_callV 32 (.tuple #[U ((proofRoot ((⟨p.name, (treeSet p.entries p.name value).1, p.sides⟩ : ProofD))).1), I ((proofRoot ((⟨p.name, (treeSet p.entries p.name value).1, p.sides⟩ : ProofD))).2)]) (proofRoot_con G2 [Sr p.name, Sl a3 (((treeSet p.entries p.name value).1).length) c3, Sl a2 p.sides.length c2] ((⟨p.name, (treeSet p.entries p.name value).1, p.sides⟩ : ProofD)) (⟨a3, c3, a2, c2, rfl, w1, hs3, (hs2.mono (Mem.le_trans hl1 hl2))⟩)) ?_
   refine runL_b [0,0,0,0] [(6, U ((proofRoot ((⟨p.name, (treeSet p.entries p.name value).1, p.sides⟩ : ProofD))).1)), (7, I ((proofRoot ((⟨p.name, (treeSet p.entries p.name value).1, p.sides⟩ : ProofD))).2))] ?_
   refine runL_nil ?_
   refine tq_then ?_
   refine tc_ret ?_
   refine tq_ret [0, 0] [U ((proofRoot ((⟨p.name, (treeSet p.entries p.name value).1, p.sides⟩ : ProofD))).1), I ((proofRoot ((⟨p.name, (treeSet p.entries p.name value).1, p.sides⟩ : ProofD))).2)] (bp_ret (Mem.le_trans hl1 hl2) ?_)
   have hf_ : (proofAfter root p value) = (((proofRoot ((⟨p.name, (treeSet p.entries p.name value).1, p.sides⟩ : ProofD))).1), ((proofRoot ((⟨p.name, (treeSet p.entries p.name value).1, p.sides⟩ : ProofD))).2)) := by
    unfold proofAfter; first | (rw [if_pos (by assumption)]; done) | (rw [if_neg (by omega)]; first | (rw [if_pos (by assumption)]; done) | (rw [if_neg (by omega)]; done))
   (try rw [hf_]); first | with_reducible rfl | (simp only [packR]; done) | rfl

theorem proofs_con (G : Mem)   : Con Tryd.prog 5 #[] G [] (fun u G' L' => u = Bo true) := by
 refine con_of Tryd.func5 15 [] rfl (fun w0 G0 => ?_)
 refine tc_rb [0] [] ?_
 refine tc_seq ?_
 refine tc_region ?_
 refine runL_callR 4 (proofMake_con G none 0 ([]) (RS.nil' EEnt G) ([97]) (Nat.le_of_ble_eq_true rfl)) (fun v G1 L1 hl1 hp => ?_)
 obtain ⟨a1, c1, a2, c2, rfl, w1, hs1, hs2, rfl⟩ := hp
 refine runL_b [0,0,0] [(5, .agg #[Sr (((proofMake ([]) ([97])).1).name), Sl a1 ((((proofMake ([]) ([97])).1).entries).length) c1, Sl a2 ((((proofMake ([]) ([97])).1).sides).length) c2]), (6, I ((proofMake ([]) ([97])).2))] ?_
 refine runL_box 1 #[Sr ([]), Sl none 0 0, Sl none 0 0] 26 (fun b1 => ?_)
 refine runL_bs [3,0] [(1, Pt b1 0), (2, I ((proofMake ([]) ([97])).2))] [[Sg b1 0 [Sr (((proofMake ([]) ([97])).1).name), Sl a1 ((((proofMake ([]) ([97])).1).entries).length) c1, Sl a2 ((((proofMake ([]) ([97])).1).sides).length) c2]]] ?_
 refine runL_nil ?_
 refine tq_then ?_
 refine tc_seq ?_
 refine tc_region ?_
 refine runL_b [0,0,0] [(1, Pt b1 0), (9, Bo (decide ((proofMake ([]) ([97])).2 = 0)))] ?_
 refine runL_b2 (decide ((proofMake ([]) ([97])).2 = 0)) (fun bb => [(1, Pt b1 0), (9, Bo bb)]) [0,2,0,0,0] [1,1,1,1,0] (fun bb => [(14, Bo (bb && (decide ((((((proofMake ([]) ([97])).1).sides).length : Nat) : Int) = 16))))]) ?_
 refine runL_b [0] [(0, Bo ((decide ((proofMake ([]) ([97])).2 = 0)) && (decide ((((((proofMake ([]) ([97])).1).sides).length : Nat) : Int) = 16))))] ?_
 refine runL_nil ?_
 refine tq_then ?_
 refine tc_ret ?_
 refine tq_ret [0] [Bo ((decide ((proofMake ([]) ([97])).2 = 0)) && (decide ((((((proofMake ([]) ([97])).1).sides).length : Nat) : Int) = 16)))] (bp_ret hl1 ?_)
 have hf_ : ((decide ((proofMake ([]) ([97])).2 = 0)) && (decide ((((((proofMake ([]) ([97])).1).sides).length : Nat) : Int) = 16))) = true := by
  first | (have q_ := proofs_law; simp_all; done) | (have q_ := proofs_law; rw [q_.1, q_.2]; rfl)
 exact congrArg Bo hf_

theorem proofOwn_con (G : Mem) (root : Int) (hw_root : 0 ≤ root ∧ root < 18446744073709551616) (vs_p : List Value) (p : ProofD) (h_p : EProof.R G vs_p p) (value : List UInt8) (hw_value : (value).length ≤ 140737488351232)  : Con Tryd.prog 3 #[U root, .agg vs_p.toArray, Sr value] G [] (fun u G' L' => u = Bo true) := by
 obtain ⟨a1, c1, a2, c2, rfl, w1, hs1, hs2⟩ := h_p
 refine con_of Tryd.func3 53 [(0, U root), (1, .agg #[Sr p.name, Sl a1 p.entries.length c1, Sl a2 p.sides.length c2]), (2, Sr value)] rfl (fun w0 G0 => ?_)
 refine tc_seq ?_
 refine tc_region ?_
 refine runL_box 4 #[Sr p.name, Sl a1 p.entries.length c1, Sl a2 p.sides.length c2] 26 (fun b1 => ?_)
 refine runL_b [0] [(0, U root), (2, Sr value), (4, Pt b1 0)] ?_
 refine runL_nil ?_
 refine tq_then ?_
 refine tc_seq ?_
 refine tc_seq ?_
 refine tc_region ?_
 refine runL_callV 12 (Bo true) (proofs_con G) ?_
 refine runL_b [0] [(0, U root), (2, Sr value), (4, Pt b1 0), (13, Bo false)] ?_
 refine runL_nil ?_
 refine tq_then ?_
 refine tc_cond_false ?_
 refine tc_skip ?_
 refine tq_then ?_
 refine tc_seq ?_
 refine tc_draw [2, 5] ?_
 refine dr_V [(0, Pt b1 1), (1, Sl a1 p.entries.length c1), (3, Pt b1 2), (4, Sl a2 p.sides.length c2)] ?_
 refine dr_mid [] [(0,0), (1,2), (3,0), (4,2)] [] [2] (List.forall_mem_nil _) (List.forall_mem_cons.2 ⟨?_, List.forall_mem_nil _⟩)
 refine act_of 2 [(15, Sl a1 p.entries.length c1)] (fun X => ?_)
 refine runL_callR 16 (sclone_EEnt G a1 c1 p.entries hs1) (fun v G1 L1 hl1 hp => ?_)
 obtain ⟨a3, c3, r1, rfl, hr1, rfl⟩ := hp
 refine act_end (V' := [(0, Pt b1 1), (1, Sl a1 p.entries.length c1), (2, Sl a3 p.entries.length c3), (3, Pt b1 2), (4, Sl a2 p.sides.length c2)]) ?_
 refine dr_mid [0, 1] [(3,0), (4,4)] [] [5] (List.forall_mem_nil _) (List.forall_mem_cons.2 ⟨?_, List.forall_mem_nil _⟩)
 refine act_of 5 [(18, Sl a2 p.sides.length c2)] (fun X => ?_)
 refine runL_callR 19 (sclone_EU G1 a2 c2 p.sides (hs2.mono hl1)) (fun v G2 L1 hl2 hp => ?_)
 obtain ⟨a4, c4, r2, rfl, hr2, rfl⟩ := hp
 refine act_end (V' := [(0, Pt b1 1), (1, Sl a1 p.entries.length c1), (2, Sl a3 p.entries.length c3), (3, Pt b1 2), (4, Sl a2 p.sides.length c2), (5, Sl a4 p.sides.length c4), (6, Sl a3 p.entries.length c3), (7, Sl a4 p.sides.length c4)]) ?_
 refine dr_end [0, 1, 3, 4] [(6,0), (7,0)] [] [(0, U root), (2, Sr value), (4, Pt b1 0), (7, Sl a3 p.entries.length c3), (8, Sl a4 p.sides.length c4)] (List.forall_mem_nil _) ?_
 refine tq_then ?_
 refine tc_seq ?_
 refine tc_region ?_
 refine runL_b [6] [(0, U root), (2, Sr value), (4, Pt b1 0), (7, Sl a3 p.entries.length c3), (8, Sl a4 p.sides.length c4), (21, .agg #[Sr p.name, Sl a1 p.entries.length c1, Sl a2 p.sides.length c2])] ?_
 refine runL_callR 22 (proofSaid_con G2 [Sr p.name, Sl a1 p.entries.length c1, Sl a2 p.sides.length c2] p (⟨a1, c1, a2, c2, rfl, w1, (hs1.mono (Mem.le_trans hl1 hl2)), (hs2.mono (Mem.le_trans hl1 hl2))⟩)) (fun v G3 L1 hl3 hp => ?_)
 obtain ⟨a5, c5, rfl, hs3, rfl⟩ := hp
 refine runL_b [0,0,0,0,0] [(0, U root), (2, Sr value), (4, Pt b1 0), (7, Sl a3 p.entries.length c3), (8, Sl a4 p.sides.length c4), (9, Sl a5 (((proofSaid p).1).length) c5)] ?_
 refine runL_nil ?_
 refine tq_then ?_
 refine tc_seq ?_
 refine tc_region ?_
 refine runL_b [0,6] [(0, U root), (2, Sr value), (4, Pt b1 0), (7, Sl a3 p.entries.length c3), (8, Sl a4 p.sides.length c4), (9, Sl a5 (((proofSaid p).1).length) c5), (25, U root), (26, .agg #[Sr p.name, Sl a1 p.entries.length c1, Sl a2 p.sides.length c2])] ?_
 refine runL_callR 27 (proofTell_con G3 root [Sr p.name, Sl a1 p.entries.length c1, Sl a2 p.sides.length c2] p (⟨a1, c1, a2, c2, rfl, w1, (hs1.mono (Mem.le_trans (Mem.le_trans hl1 hl2) hl3)), (hs2.mono (Mem.le_trans (Mem.le_trans hl1 hl2) hl3))⟩)) (fun v G4 L1 hl4 hp => ?_)
 obtain ⟨rfl, w2, rfl⟩ := hp
 refine runL_nil ?_
 refine tq_then ?_
 refine tc_seq ?_
 refine tc_region ?_
 refine runL_b [0,6,0] [(4, Pt b1 0), (7, Sl a3 p.entries.length c3), (8, Sl a4 p.sides.length c4), (9, Sl a5 (((proofSaid p).1).length) c5), (28, U root), (29, .agg #[Sr p.name, Sl a1 p.entries.length c1, Sl a2 p.sides.length c2]), (30, Sr value)] ?_
 refine runL_callV 31 (.tuple #[U ((proofAfter root p value).1), I ((proofAfter root p value).2)]) (proofAfter_con G4 root [Sr p.name, Sl a1 p.entries.length c1, Sl a2 p.sides.length c2] p (⟨a1, c1, a2, c2, rfl, w1, (hs1.mono (Mem.le_trans (Mem.le_trans (Mem.le_trans hl1 hl2) hl3) hl4)), (hs2.mono (Mem.le_trans (Mem.le_trans (Mem.le_trans hl1 hl2) hl3) hl4))⟩) value hw_value) ?_
 refine runL_nil ?_
 refine tq_then ?_
 refine tc_seq ?_
 refine tc_region ?_
 refine runL_b [0,6,0] [(4, Pt b1 0), (8, Sl a4 p.sides.length c4), (9, Sl a5 (((proofSaid p).1).length) c5), (33, Sl a1 p.entries.length c1), (34, Sl a3 p.entries.length c3)] ?_
 refine runL_frzR (E := EEnt) 1 (hr1.mono (Mem.le_trans (Mem.le_trans hl2 hl3) hl4)) (by exact (hs1).fit) (fun G5 hl5 hs4 => ?_)
 refine runL_callV 35 (Bo (decide (p.entries = p.entries))) (seq_EEnt G5 a1 c1 p.entries (hs1.mono (Mem.le_trans (Mem.le_trans (Mem.le_trans (Mem.le_trans hl1 hl2) hl3) hl4) hl5)) a3 c3 p.entries hs4) ?_
 refine runL_b [0] [(4, Pt b1 0), (8, Sl a4 p.sides.length c4), (9, Sl a5 (((proofSaid p).1).length) c5), (36, Bo (decide (p.entries = p.entries)))] ?_
 refine runL_cases (fun bb => [(4, Pt b1 0), (8, Sl a4 p.sides.length c4), (9, Sl a5 (((proofSaid p).1).length) c5), (36, Bo bb)]) (decide (p.entries = p.entries)) (fun h1 => ?_) (fun h1 => ?_)
 ·
  try simp only [decide_eq_true_eq, decide_eq_false_iff_not, Bool.and_eq_true, Bool.or_eq_true, Bool.and_eq_false_imp, Bool.or_eq_false_iff, Bool.not_eq_true', Bool.not_eq_false', Bool.not_eq_true, Bool.not_eq_false, beq_iff_eq, beq_eq_false_iff_ne, bne_iff_ne, ne_eq, Decidable.not_not, Int.not_lt, Int.not_le] at h1
  refine runL_b [0,6,0] [(9, Sl a5 (((proofSaid p).1).length) c5), (36, Bo true), (38, Sl a2 p.sides.length c2), (39, Sl a4 p.sides.length c4)] ?_
  refine runL_frzR (E := EU) 0 (hr2.mono (Mem.le_trans (Mem.le_trans hl3 hl4) hl5)) (by exact ((hs2.mono hl1)).fit) (fun G6 hl6 hs5 => ?_)
  refine runL_callV 40 (Bo (decide (p.sides = p.sides))) (seq_EU G6 a2 c2 p.sides (hs2.mono (Mem.le_trans (Mem.le_trans (Mem.le_trans (Mem.le_trans (Mem.le_trans hl1 hl2) hl3) hl4) hl5) hl6)) a4 c4 p.sides hs5) ?_
  refine runL_b [0,0] [(9, Sl a5 (((proofSaid p).1).length) c5), (11, Bo (decide (p.sides = p.sides)))] ?_
  refine runL_nil ?_
  refine tq_then ?_
  refine tc_seq ?_
  refine tc_region ?_
  refine runL_b [0,0] [(9, Sl a5 (((proofSaid p).1).length) c5), (43, Bo (decide (p.sides = p.sides)))] ?_
  refine runL_cases (fun bb => [(9, Sl a5 (((proofSaid p).1).length) c5), (43, Bo bb)]) (decide (p.sides = p.sides)) (fun h2 => ?_) (fun h2 => ?_)
  ·
   try simp only [decide_eq_true_eq, decide_eq_false_iff_not, Bool.and_eq_true, Bool.or_eq_true, Bool.and_eq_false_imp, Bool.or_eq_false_iff, Bool.not_eq_true', Bool.not_eq_false', Bool.not_eq_true, Bool.not_eq_false, beq_iff_eq, beq_eq_false_iff_ne, bne_iff_ne, ne_eq, Decidable.not_not, Int.not_lt, Int.not_le] at h2
   refine runL_b [0,0,0,0] [(9, Sl a5 (((proofSaid p).1).length) c5), (43, Bo true), (47, Bo (decide (((((proofSaid p).1).length : Nat) : Int) = 0)))] ?_
   refine runL_b2 (decide (((((proofSaid p).1).length : Nat) : Int) = 0)) (fun bb => [(9, Sl a5 (((proofSaid p).1).length) c5), (43, Bo true), (47, Bo bb)]) [1,1,1,0] [0,0,0,0] (fun bb => [(43, Bo true), (51, Bo (bb || (decide (((((proofSaid p).1).length : Nat) : Int) = 17))))]) ?_
   refine runL_b [0,0] [(6, Bo ((decide (((((proofSaid p).1).length : Nat) : Int) = 0)) || (decide (((((proofSaid p).1).length : Nat) : Int) = 17))))] ?_
   refine runL_nil ?_
   refine tq_then ?_
   refine tc_ret ?_
   refine tq_ret [0] [Bo ((decide (((((proofSaid p).1).length : Nat) : Int) = 0)) || (decide (((((proofSaid p).1).length : Nat) : Int) = 17)))] (bp_ret (Mem.le_trans (Mem.le_trans (Mem.le_trans (Mem.le_trans (Mem.le_trans hl1 hl2) hl3) hl4) hl5) hl6) ?_)
   have hf_ : ((decide (((((proofSaid p).1).length : Nat) : Int) = 0)) || (decide (((((proofSaid p).1).length : Nat) : Int) = 17))) = true := by
    first | (have q_ := proofSaid_len (p := p) (by assumption); simp_all; done) | (have q_ := @proofSaid_len p; have q1_ := said_err2 p; simp_all; done) | (have q_ := own_law p; simp_all; done)
   exact congrArg Bo hf_
  ·
   try simp only [decide_eq_true_eq, decide_eq_false_iff_not, Bool.and_eq_true, Bool.or_eq_true, Bool.and_eq_false_imp, Bool.or_eq_false_iff, Bool.not_eq_true', Bool.not_eq_false', Bool.not_eq_true, Bool.not_eq_false, beq_iff_eq, beq_eq_false_iff_ne, bne_iff_ne, ne_eq, Decidable.not_not, Int.not_lt, Int.not_le] at h2
   refine runL_b [1,1,1,1,1,1,1,1,0,0] [(6, Bo false)] ?_
   refine runL_nil ?_
   refine tq_then ?_
   refine tc_ret ?_
   refine tq_ret [0] [Bo false] (bp_ret (Mem.le_trans (Mem.le_trans (Mem.le_trans (Mem.le_trans (Mem.le_trans hl1 hl2) hl3) hl4) hl5) hl6) ?_)
   exfalso
   first | (have q_ := proofSaid_len (p := p) (by assumption); simp_all; done) | (have q_ := @proofSaid_len p; have q1_ := said_err2 p; simp_all; done) | (have q_ := own_law p; simp_all; done)
 ·
  try simp only [decide_eq_true_eq, decide_eq_false_iff_not, Bool.and_eq_true, Bool.or_eq_true, Bool.and_eq_false_imp, Bool.or_eq_false_iff, Bool.not_eq_true', Bool.not_eq_false', Bool.not_eq_true, Bool.not_eq_false, beq_iff_eq, beq_eq_false_iff_ne, bne_iff_ne, ne_eq, Decidable.not_not, Int.not_lt, Int.not_le] at h1
  refine runL_b [1,1,1,1,0,0] [(9, Sl a5 (((proofSaid p).1).length) c5), (11, Bo false)] ?_
  refine runL_nil ?_
  refine tq_then ?_
  refine tc_rb [0,0,1,1,1,1,1,1,1,1,0,0] [(6, Bo false)] ?_
  refine tc_ret ?_
  refine tq_ret [0] [Bo false] (bp_ret (Mem.le_trans (Mem.le_trans (Mem.le_trans (Mem.le_trans hl1 hl2) hl3) hl4) hl5) ?_)
  exfalso
  first | (have q_ := proofSaid_len (p := p) (by assumption); simp_all; done) | (have q_ := @proofSaid_len p; have q1_ := said_err2 p; simp_all; done) | (have q_ := own_law p; simp_all; done)
end Go.Proofs.YtmpakffajpnffaaDoor
