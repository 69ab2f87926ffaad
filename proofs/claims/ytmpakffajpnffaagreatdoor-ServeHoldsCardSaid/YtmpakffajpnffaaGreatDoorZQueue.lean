import Derived.Test.YtmpakffajpnffaaGreatDoorZStr
import Derived.Test.YtmpakffajpnffaaGreatDoorZSl
namespace Go.Proofs.YtmpakffajpnffaaGreatDoor
open Go.Tx
set_option linter.unusedVariables false
set_option linter.unusedSimpArgs false

def askRight (name value : List UInt8) : Int := if pathName name = false then 3 else if 20 < value.length then 2 else 0
def queueRight (a : AskD) : Int := askRight a.name a.value
def asksRight : List AskD → Int
  | [] => 0
  | a :: l => if queueRight a = 0 then asksRight l else queueRight a
def queueCheck (q : QueueD) : Int := if q.most < 1 ∨ 30 < q.most then 4 else if q.most < q.wait.length then 7 else asksRight q.wait
theorem asksRight_take {l : List AskD} {i : Nat} {x : AskD} (h : l[i]? = some x) (h0 : queueRight x = 0) : asksRight (l.drop i) = asksRight (l.drop (i + 1)) := by
  obtain ⟨hi, rfl⟩ := List.getElem?_eq_some_iff.1 h
  rw [List.drop_eq_getElem_cons hi]
  show (if queueRight l[i] = 0 then _ else _) = _
  rw [if_pos h0]
theorem asksRight_at {l : List AskD} {i : Nat} {x : AskD} (h : l[i]? = some x) (h0 : ¬ queueRight x = 0) : asksRight (l.drop i) = queueRight x := by
  obtain ⟨hi, rfl⟩ := List.getElem?_eq_some_iff.1 h
  rw [List.drop_eq_getElem_cons hi]
  show (if queueRight l[i] = 0 then _ else _) = _
  rw [if_neg h0]
theorem asksRight_iff : ∀ {l : List AskD}, asksRight l = 0 ↔ ∀ a ∈ l, queueRight a = 0
  | [] => by simp [asksRight]
  | a :: l => by
    unfold asksRight
    split
    · rename_i h; simp [asksRight_iff (l := l), h]
    · rename_i h; simp [h]
theorem queueCheck_iff {q : QueueD} : queueCheck q = 0 ↔ 1 ≤ q.most ∧ q.most ≤ 30 ∧ (q.wait.length : Int) ≤ q.most ∧ ∀ a ∈ q.wait, queueRight a = 0 := by
  unfold queueCheck
  rw [← asksRight_iff]
  (repeat' split) <;> omega
theorem queueRight_con (G : Mem) (vs_a : List Value) (a : AskD) (h_a : EAsk.R G vs_a a)  : Con Tryz.prog 98 #[.agg vs_a.toArray] G [] (fun u G' L' => u = I (queueRight a)) := by
  obtain ⟨rfl, w1, w2, w3, w4⟩ := h_a
  refine con_of Tryz.func98 13 [(0, .agg #[Sr a.name, Sr a.value, U a.n, U a.tag])] rfl (fun w0 G0 => ?_)
  refine tc_seq ?_
  refine tc_region ?_
  refine runL_box 1 #[Sr a.name, Sr a.value, U a.n, U a.tag] 54 (fun b1 => ?_)
  refine runL_b [0] [(1, Pt b1 0), (2, I 0)] ?_
  refine runL_nil ?_
  refine tq_then ?_
  refine tc_seq ?_
  refine tc_block ?_
  refine tc_seq ?_
  refine tc_region ?_
  refine runL_b [0,2] [(1, Pt b1 0), (2, I 0), (5, Sr a.name)] ?_
  refine runL_callV 6 (Bo (pathName a.name)) (pathName_con G a.name) ?_
  refine runL_b [0,0] [(1, Pt b1 0), (2, I 0), (3, Bo (!(pathName a.name)))] ?_
  refine runL_nil ?_
  refine tq_then ?_
  refine tc_cond (!(pathName a.name)) (fun h1 => ?_) (fun h1 => ?_)
  ·
    try simp only [decide_eq_true_eq, decide_eq_false_iff_not, Bool.and_eq_true, Bool.or_eq_true, Bool.and_eq_false_imp, Bool.or_eq_false_iff, Bool.not_eq_true', Bool.not_eq_false', Bool.not_eq_true, Bool.not_eq_false, beq_iff_eq, beq_eq_false_iff_ne, bne_iff_ne, ne_eq, Decidable.not_not, Int.not_lt, Int.not_le] at h1
    refine tc_rb [0] [(1, Pt b1 0), (2, I 3), (3, Bo (!(pathName a.name)))] ?_
    refine tc_ret ?_
    refine tq_block_ret ?_
    refine tq_then_ret ?_
    refine tq_ret [0] [I 3] (bp_ret (Mem.le_refl _) ?_)
    have hf_ : (queueRight a) = 3 := by
      unfold queueRight askRight; simp_all; try omega
    (try rw [hf_]); first | with_reducible rfl | (simp only [packR]; done) | rfl
  ·
    try simp only [decide_eq_true_eq, decide_eq_false_iff_not, Bool.and_eq_true, Bool.or_eq_true, Bool.and_eq_false_imp, Bool.or_eq_false_iff, Bool.not_eq_true', Bool.not_eq_false', Bool.not_eq_true, Bool.not_eq_false, beq_iff_eq, beq_eq_false_iff_ne, bne_iff_ne, ne_eq, Decidable.not_not, Int.not_lt, Int.not_le] at h1
    refine tc_rb [0,2,0,0,0] [(1, Pt b1 0), (2, I 0), (3, Bo (!(pathName a.name))), (8, Bo (decide (((a.value).length : Int) > 20)))] ?_
    refine tc_cond (decide (((a.value).length : Int) > 20)) (fun h2 => ?_) (fun h2 => ?_)
    ·
      try simp only [decide_eq_true_eq, decide_eq_false_iff_not, Bool.and_eq_true, Bool.or_eq_true, Bool.and_eq_false_imp, Bool.or_eq_false_iff, Bool.not_eq_true', Bool.not_eq_false', Bool.not_eq_true, Bool.not_eq_false, beq_iff_eq, beq_eq_false_iff_ne, bne_iff_ne, ne_eq, Decidable.not_not, Int.not_lt, Int.not_le] at h2
      refine tc_rb [0] [(1, Pt b1 0), (2, I 2), (3, Bo (!(pathName a.name))), (8, Bo (decide (((a.value).length : Int) > 20)))] ?_
      refine tc_ret ?_
      refine tq_block_ret ?_
      refine tq_then_ret ?_
      refine tq_ret [0] [I 2] (bp_ret (Mem.le_refl _) ?_)
      have hf_ : (queueRight a) = 2 := by
        unfold queueRight askRight; simp_all; try omega
      (try rw [hf_]); first | with_reducible rfl | (simp only [packR]; done) | rfl
    ·
      try simp only [decide_eq_true_eq, decide_eq_false_iff_not, Bool.and_eq_true, Bool.or_eq_true, Bool.and_eq_false_imp, Bool.or_eq_false_iff, Bool.not_eq_true', Bool.not_eq_false', Bool.not_eq_true, Bool.not_eq_false, beq_iff_eq, beq_eq_false_iff_ne, bne_iff_ne, ne_eq, Decidable.not_not, Int.not_lt, Int.not_le] at h2
      refine tc_skip ?_
      refine tq_block ?_
      refine tq_then ?_
      refine tc_rb [0] [(1, Pt b1 0), (2, I 0), (3, Bo (!(pathName a.name))), (8, Bo (decide (((a.value).length : Int) > 20)))] ?_
      refine tc_ret ?_
      refine tq_ret [0] [I 0] (bp_ret (Mem.le_refl _) ?_)
      have hf_ : (queueRight a) = 0 := by
        unfold queueRight askRight; simp_all; try omega
      (try rw [hf_]); first | with_reducible rfl | (simp only [packR]; done) | rfl

theorem queueCheck_con (G : Mem) (vs_q : List Value) (q : QueueD) (h_q : EQueue.R G vs_q q)  : Con Tryz.prog 66 #[.agg vs_q.toArray] G [] (fun u G' L' => u = I (queueCheck q)) := by
  obtain ⟨a1, c1, rfl, w1, hs1⟩ := h_q
  refine con_of Tryz.func66 35 [(0, .agg #[I q.most, Sl a1 q.wait.length c1])] rfl (fun w0 G0 => ?_)
  refine tc_seq ?_
  refine tc_region ?_
  refine runL_box 1 #[I q.most, Sl a1 q.wait.length c1] 24 (fun b1 => ?_)
  refine runL_b [0] [(1, Pt b1 0), (2, I 0)] ?_
  refine runL_nil ?_
  refine tq_then ?_
  refine tc_seq ?_
  refine tc_block ?_
  refine tc_seq ?_
  refine tc_region ?_
  refine runL_b [0,2,0,0] [(1, Pt b1 0), (2, I 0), (10, Bo (decide (q.most < 1)))] ?_
  refine runL_b2 (decide (q.most < 1)) (fun bb => [(1, Pt b1 0), (2, I 0), (10, Bo bb)]) [1,1,1,0] [0,2,0,0] (fun bb => [(1, Pt b1 0), (2, I 0), (14, Bo (bb || (decide (q.most > 30))))]) ?_
  refine runL_b [0] [(1, Pt b1 0), (2, I 0), (6, Bo ((decide (q.most < 1)) || (decide (q.most > 30))))] ?_
  refine runL_nil ?_
  refine tq_then ?_
  refine tc_cond ((decide (q.most < 1)) || (decide (q.most > 30))) (fun h1 => ?_) (fun h1 => ?_)
  ·
    try simp only [decide_eq_true_eq, decide_eq_false_iff_not, Bool.and_eq_true, Bool.or_eq_true, Bool.and_eq_false_imp, Bool.or_eq_false_iff, Bool.not_eq_true', Bool.not_eq_false', Bool.not_eq_true, Bool.not_eq_false, beq_iff_eq, beq_eq_false_iff_ne, bne_iff_ne, ne_eq, Decidable.not_not, Int.not_lt, Int.not_le] at h1
    refine tc_rb [0] [(1, Pt b1 0), (2, I 4), (6, Bo ((decide (q.most < 1)) || (decide (q.most > 30))))] ?_
    refine tc_ret ?_
    refine tq_block_ret ?_
    refine tq_then_ret ?_
    refine tq_ret [0] [I 4] (bp_ret (Mem.le_refl _) ?_)
    have hf_ : (queueCheck q) = 4 := by
      unfold queueCheck; first | (rw [if_pos (by omega)]; done) | (rw [if_neg (by omega), if_pos (by omega)]; done) | (rw [if_neg (by omega), if_neg (by omega), hn]; first | exact asksRight_at hx1 h4 | (rw [List.drop_eq_nil_of_le (by omega)]; rfl))
    (try rw [hf_]); first | with_reducible rfl | (simp only [packR]; done) | rfl
  ·
    try simp only [decide_eq_true_eq, decide_eq_false_iff_not, Bool.and_eq_true, Bool.or_eq_true, Bool.and_eq_false_imp, Bool.or_eq_false_iff, Bool.not_eq_true', Bool.not_eq_false', Bool.not_eq_true, Bool.not_eq_false, beq_iff_eq, beq_eq_false_iff_ne, bne_iff_ne, ne_eq, Decidable.not_not, Int.not_lt, Int.not_le] at h1
    refine tc_rb [0,2,0,0,2,0,0] [(1, Pt b1 0), (2, I 0), (6, Bo ((decide (q.most < 1)) || (decide (q.most > 30)))), (15, Bo (decide (((q.wait.length : Nat) : Int) > q.most)))] ?_
    refine tc_cond (decide (((q.wait.length : Nat) : Int) > q.most)) (fun h2 => ?_) (fun h2 => ?_)
    ·
      try simp only [decide_eq_true_eq, decide_eq_false_iff_not, Bool.and_eq_true, Bool.or_eq_true, Bool.and_eq_false_imp, Bool.or_eq_false_iff, Bool.not_eq_true', Bool.not_eq_false', Bool.not_eq_true, Bool.not_eq_false, beq_iff_eq, beq_eq_false_iff_ne, bne_iff_ne, ne_eq, Decidable.not_not, Int.not_lt, Int.not_le] at h2
      refine tc_rb [0] [(1, Pt b1 0), (2, I 7), (6, Bo ((decide (q.most < 1)) || (decide (q.most > 30)))), (15, Bo (decide (((q.wait.length : Nat) : Int) > q.most)))] ?_
      refine tc_ret ?_
      refine tq_block_ret ?_
      refine tq_then_ret ?_
      refine tq_ret [0] [I 7] (bp_ret (Mem.le_refl _) ?_)
      have hf_ : (queueCheck q) = 7 := by
        unfold queueCheck; first | (rw [if_pos (by omega)]; done) | (rw [if_neg (by omega), if_pos (by omega)]; done) | (rw [if_neg (by omega), if_neg (by omega), hn]; first | exact asksRight_at hx1 h4 | (rw [List.drop_eq_nil_of_le (by omega)]; rfl))
      (try rw [hf_]); first | with_reducible rfl | (simp only [packR]; done) | rfl
    ·
      try simp only [decide_eq_true_eq, decide_eq_false_iff_not, Bool.and_eq_true, Bool.or_eq_true, Bool.and_eq_false_imp, Bool.or_eq_false_iff, Bool.not_eq_true', Bool.not_eq_false', Bool.not_eq_true, Bool.not_eq_false, beq_iff_eq, beq_eq_false_iff_ne, bne_iff_ne, ne_eq, Decidable.not_not, Int.not_lt, Int.not_le] at h2
      refine tc_skip ?_
      refine tq_block ?_
      refine tq_then ?_
      refine tc_seq ?_
      refine tc_rb [0,2,0,0] [(1, Pt b1 0), (2, I 0), (6, Bo ((decide (q.most < 1)) || (decide (q.most > 30)))), (15, Bo (decide (((q.wait.length : Nat) : Int) > q.most))), (23, Sl a1 q.wait.length c1), (24, I (((q.wait.length : Nat) : Int))), (25, I 0)] ?_
      refine tc_block ?_
      have hlm_hs1 : q.wait.length ≤ 9223372036854775807 := Nat.le_trans (hs1).le (hs1).max
      refine tc_loop (σ := Nat) (fun q_ => (q_ ≤ q.wait.length) ∧ (asksRight q.wait = asksRight (q.wait.drop q_))) (fun q_ => [(1, Pt b1 0), (6, Bo ((decide (q.most < 1)) || (decide (q.most > 30)))), (15, Bo (decide (((q.wait.length : Nat) : Int) > q.most))), (23, Sl a1 q.wait.length c1), (24, I (((q.wait.length : Nat) : Int))), (25, I ((q_ : Int)))]) (fun q_ => G) (fun q_ => [[Sg b1 0 [I q.most, Sl a1 q.wait.length c1]]]) (fun q_ => q.wait.length - q_) 0 ⟨(by (try dsimp only); first | exact Nat.zero_le _ | omega | simp), rfl⟩ (fun q_ hs => ?_)
      revert hs; revert q_; intro i hs
      obtain ⟨hi, hn⟩ := hs
      refine tc_eq (fr' := [(1, Pt b1 0), (6, Bo ((decide (q.most < 1)) || (decide (q.most > 30)))), (15, Bo (decide (((q.wait.length : Nat) : Int) > q.most))), (23, Sl a1 q.wait.length c1), (24, I (((q.wait.length : Nat) : Int))), (25, I ((i : Int)))]) (L' := [[Sg b1 0 [I q.most, Sl a1 q.wait.length c1]]]) rfl rfl ?_
      refine tc_rb [0] [(1, Pt b1 0), (6, Bo ((decide (q.most < 1)) || (decide (q.most > 30)))), (15, Bo (decide (((q.wait.length : Nat) : Int) > q.most))), (23, Sl a1 q.wait.length c1), (24, I (((q.wait.length : Nat) : Int))), (25, I ((i : Int))), (26, Bo (decide ((i : Int) < ((q.wait.length : Nat) : Int))))] ?_
      refine tc_seq ?_
      refine tc_cond (decide ((i : Int) < ((q.wait.length : Nat) : Int))) (fun h3 => ?_) (fun h3 => ?_)
      ·
        try simp only [decide_eq_true_eq, decide_eq_false_iff_not, Bool.and_eq_true, Bool.or_eq_true, Bool.and_eq_false_imp, Bool.or_eq_false_iff, Bool.not_eq_true', Bool.not_eq_false', Bool.not_eq_true, Bool.not_eq_false, beq_iff_eq, beq_eq_false_iff_ne, bne_iff_ne, ne_eq, Decidable.not_not, Int.not_lt, Int.not_le] at h3
        refine tc_skip ?_
        refine tq_then ?_
        refine tc_seq ?_
        refine tc_block ?_
        refine tc_seq ?_
        refine tc_region ?_
        obtain ⟨b2, o1, rfl⟩ := RS.addr hs1 (k := i) (by omega)
        obtain ⟨x1, hx1⟩ := getX (l := q.wait) (k := i) (by omega)
        obtain ⟨_, ⟨rfl, w2, w3, w4, w5⟩, hc1⟩ := RS.get hs1 hx1
        refine runL_idx (b := b2) (off := o1) (len := q.wait.length) (cap := c1) (ik := .i64) 27 54 4 i (by omega) ?_
        refine runL_ldG 28 54 (cs := [Sr x1.name, Sr x1.value, U x1.n, U x1.tag]) 0 (.agg #[Sr x1.name, Sr x1.value, U x1.n, U x1.tag]) hc1 ?_
        refine runL_box 4 #[Sr ([]), Sr ([]), U 0, U 0] 54 (fun b3 => ?_)
        refine runL_bs [3] [(1, Pt b1 0), (4, Pt b3 0), (6, Bo ((decide (q.most < 1)) || (decide (q.most > 30)))), (15, Bo (decide (((q.wait.length : Nat) : Int) > q.most))), (23, Sl (At b2 o1) q.wait.length c1), (24, I (((q.wait.length : Nat) : Int))), (25, I ((i : Int))), (26, Bo (decide ((i : Int) < ((q.wait.length : Nat) : Int))))] [[Sg b3 0 [Sr x1.name, Sr x1.value, U x1.n, U x1.tag]], [Sg b1 0 [I q.most, Sl (At b2 o1) q.wait.length c1]]] ?_
        refine runL_nil ?_
        refine tq_then ?_
        refine tc_seq ?_
        refine tc_region ?_
        refine runL_b [2] [(1, Pt b1 0), (4, Pt b3 0), (6, Bo ((decide (q.most < 1)) || (decide (q.most > 30)))), (15, Bo (decide (((q.wait.length : Nat) : Int) > q.most))), (23, Sl (At b2 o1) q.wait.length c1), (24, I (((q.wait.length : Nat) : Int))), (25, I ((i : Int))), (26, Bo (decide ((i : Int) < ((q.wait.length : Nat) : Int)))), (29, .agg #[Sr x1.name, Sr x1.value, U x1.n, U x1.tag])] ?_
        refine runL_callV 30 (I (queueRight x1)) (queueRight_con G [Sr x1.name, Sr x1.value, U x1.n, U x1.tag] x1 (⟨rfl, w2, w3, w4, w5⟩)) ?_
        refine runL_b [0] [(1, Pt b1 0), (4, Pt b3 0), (5, I (queueRight x1)), (6, Bo ((decide (q.most < 1)) || (decide (q.most > 30)))), (15, Bo (decide (((q.wait.length : Nat) : Int) > q.most))), (23, Sl (At b2 o1) q.wait.length c1), (24, I (((q.wait.length : Nat) : Int))), (25, I ((i : Int))), (26, Bo (decide ((i : Int) < ((q.wait.length : Nat) : Int))))] ?_
        refine runL_nil ?_
        refine tq_then ?_
        refine tc_rb [0,0] [(1, Pt b1 0), (4, Pt b3 0), (5, I (queueRight x1)), (6, Bo ((decide (q.most < 1)) || (decide (q.most > 30)))), (15, Bo (decide (((q.wait.length : Nat) : Int) > q.most))), (23, Sl (At b2 o1) q.wait.length c1), (24, I (((q.wait.length : Nat) : Int))), (25, I ((i : Int))), (26, Bo (decide ((i : Int) < ((q.wait.length : Nat) : Int)))), (32, Bo (!decide (queueRight x1 = 0)))] ?_
        refine tc_cond (!decide (queueRight x1 = 0)) (fun h4 => ?_) (fun h4 => ?_)
        ·
          try simp only [decide_eq_true_eq, decide_eq_false_iff_not, Bool.and_eq_true, Bool.or_eq_true, Bool.and_eq_false_imp, Bool.or_eq_false_iff, Bool.not_eq_true', Bool.not_eq_false', Bool.not_eq_true, Bool.not_eq_false, beq_iff_eq, beq_eq_false_iff_ne, bne_iff_ne, ne_eq, Decidable.not_not, Int.not_lt, Int.not_le] at h4
          refine tc_rb [0,0] [(1, Pt b1 0), (2, I (queueRight x1)), (4, Pt b3 0), (5, I (queueRight x1)), (6, Bo ((decide (q.most < 1)) || (decide (q.most > 30)))), (15, Bo (decide (((q.wait.length : Nat) : Int) > q.most))), (23, Sl (At b2 o1) q.wait.length c1), (24, I (((q.wait.length : Nat) : Int))), (25, I ((i : Int))), (26, Bo (decide ((i : Int) < ((q.wait.length : Nat) : Int)))), (32, Bo (!decide (queueRight x1 = 0)))] ?_
          refine tc_ret ?_
          refine tq_block_ret ?_
          refine tq_then_ret ?_
          refine tq_rnd_ret ?_
          refine tq_block_ret ?_
          refine tq_then_ret ?_
          refine tq_ret [0] [I (queueRight x1)] (bp_ret (Mem.le_refl _) ?_)
          have hf_ : (queueCheck q) = (queueRight x1) := by
            unfold queueCheck; first | (rw [if_pos (by omega)]; done) | (rw [if_neg (by omega), if_pos (by omega)]; done) | (rw [if_neg (by omega), if_neg (by omega), hn]; first | exact asksRight_at hx1 h4 | (rw [List.drop_eq_nil_of_le (by omega)]; rfl))
          (try rw [hf_]); first | with_reducible rfl | (simp only [packR]; done) | rfl
        ·
          try simp only [decide_eq_true_eq, decide_eq_false_iff_not, Bool.and_eq_true, Bool.or_eq_true, Bool.and_eq_false_imp, Bool.or_eq_false_iff, Bool.not_eq_true', Bool.not_eq_false', Bool.not_eq_true, Bool.not_eq_false, beq_iff_eq, beq_eq_false_iff_ne, bne_iff_ne, ne_eq, Decidable.not_not, Int.not_lt, Int.not_le] at h4
          refine tc_skip ?_
          refine tq_block ?_
          refine tq_then ?_
          refine tc_region ?_
          refine runL_b [0,0] [(1, Pt b1 0), (4, Pt b3 0), (5, I (queueRight x1)), (6, Bo ((decide (q.most < 1)) || (decide (q.most > 30)))), (15, Bo (decide (((q.wait.length : Nat) : Int) > q.most))), (23, Sl (At b2 o1) q.wait.length c1), (24, I (((q.wait.length : Nat) : Int))), (25, I (IntKind.i64.wrap (((i : Int)) + 1))), (26, Bo (decide ((i : Int) < ((q.wait.length : Nat) : Int)))), (32, Bo (!decide (queueRight x1 = 0)))] ?_
          have e1 : IntKind.i64.wrap (((i : Int)) + 1) = ((i : Int)) + 1 := IntWalk.i64_in _ (by omega)
          refine runL_eq (fr' := [(1, Pt b1 0), (4, Pt b3 0), (5, I (queueRight x1)), (6, Bo ((decide (q.most < 1)) || (decide (q.most > 30)))), (15, Bo (decide (((q.wait.length : Nat) : Int) > q.most))), (23, Sl (At b2 o1) q.wait.length c1), (24, I (((q.wait.length : Nat) : Int))), (25, I (((i : Int)) + 1)), (26, Bo (decide ((i : Int) < ((q.wait.length : Nat) : Int)))), (32, Bo (!decide (queueRight x1 = 0)))]) (L' := [[Sg b3 0 [Sr x1.name, Sr x1.value, U x1.n, U x1.tag]], [Sg b1 0 [I q.most, Sl (At b2 o1) q.wait.length c1]]]) (by simp only [e1]) (by rfl) ?_
          clear e1
          refine runL_nil ?_
          refine tq_owns [[Sg b1 0 [I q.most, Sl (At b2 o1) q.wait.length c1]]] ((.cons _ (.cons_cons _ .slnil))) ?_
          exact tq_rnd (i + 1) ⟨(by omega), (by rw [hn]; exact asksRight_take hx1 h4)⟩ (by (try dsimp only); omega)
      ·
        try simp only [decide_eq_true_eq, decide_eq_false_iff_not, Bool.and_eq_true, Bool.or_eq_true, Bool.and_eq_false_imp, Bool.or_eq_false_iff, Bool.not_eq_true', Bool.not_eq_false', Bool.not_eq_true, Bool.not_eq_false, beq_iff_eq, beq_eq_false_iff_ne, bne_iff_ne, ne_eq, Decidable.not_not, Int.not_lt, Int.not_le] at h3
        refine tc_exit ?_
        refine tq_then_exit ?_
        refine tq_rnd_exit ?_
        refine tq_block_here ?_
        refine tq_then ?_
        refine tc_rb [0] [(1, Pt b1 0), (2, I 0), (6, Bo ((decide (q.most < 1)) || (decide (q.most > 30)))), (15, Bo (decide (((q.wait.length : Nat) : Int) > q.most))), (23, Sl a1 q.wait.length c1), (24, I (((q.wait.length : Nat) : Int))), (25, I ((i : Int))), (26, Bo (decide ((i : Int) < ((q.wait.length : Nat) : Int))))] ?_
        refine tc_ret ?_
        refine tq_ret [0] [I 0] (bp_ret (Mem.le_refl _) ?_)
        have hf_ : (queueCheck q) = 0 := by
          unfold queueCheck; first | (rw [if_pos (by omega)]; done) | (rw [if_neg (by omega), if_pos (by omega)]; done) | (rw [if_neg (by omega), if_neg (by omega), hn]; first | exact asksRight_at hx1 h4 | (rw [List.drop_eq_nil_of_le (by omega)]; rfl))
        (try rw [hf_]); first | with_reducible rfl | (simp only [packR]; done) | rfl

end Go.Proofs.YtmpakffajpnffaaGreatDoor
