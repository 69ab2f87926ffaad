import Derived.Test.YtgcnkcajfjpbcaaStr
import Derived.Test.YtgcnkcajfjpbcaaSl
namespace Go.Proofs.Ytgcnkcajfjpbcaa
open Go.Tx
set_option linter.unusedVariables false
set_option linter.unusedSimpArgs false

def askRight (name value : List UInt8) : Int := if pathName name = false then 3 else if 20 < value.length then 2 else 0
def queueRight (a : AskD) : Int := askRight a.name a.value
theorem qdiv_bd {a b : Int} (h : 0 ≤ a ∧ a ≤ 30) (hb : 1 ≤ b ∧ b ≤ 30) : 0 ≤ a.tdiv b ∧ a.tdiv b ≤ 30 := by
  rw [Int.tdiv_eq_ediv_of_nonneg h.1]
  exact ⟨Int.ediv_nonneg h.1 (by omega), Int.le_trans (Int.ediv_le_self _ h.1) h.2⟩
theorem qmul_bd {a b : Int} (h : 0 ≤ a ∧ a ≤ 31) (hb : 1 ≤ b ∧ b ≤ 1000) : 0 ≤ a * b ∧ a * b ≤ 31000 := by
  refine ⟨Int.mul_nonneg h.1 (by omega), ?_⟩
  have h1 : a * b ≤ 31 * b := Int.mul_le_mul_of_nonneg_right h.2 (by omega)
  omega
def asksRight : List AskD → Int
  | [] => 0
  | a :: l => if queueRight a = 0 then asksRight l else queueRight a
def queueCheck (q : QueueD) : Int := if q.most < 1 ∨ 30 < q.most then 4 else if q.most < q.wait.length then 7 else asksRight q.wait
def queueZ : QueueD := ⟨0, []⟩
def queuePutE (q : QueueD) (a : AskD) : Int := if queueCheck q ≠ 0 then queueCheck q else if queueRight a ≠ 0 then queueRight a else if (q.wait.length : Int) = q.most then 7 else 0
def queuePut (q : QueueD) (a : AskD) : QueueD × Int × Int := if queuePutE q a ≠ 0 then (queueZ, 0, queuePutE q a) else (⟨q.most, q.wait ++ [a]⟩, q.wait.length, 0)
def minLen (n : Int) (l : List AskD) : Nat := if (l.length : Int) < n then l.length else n.toNat
def queueTake (q : QueueD) (n : Int) : QueueD × List AskD × Int := if queueCheck q ≠ 0 then (queueZ, [], queueCheck q) else if n < 0 then (queueZ, [], 4) else (⟨q.most, q.wait.drop (minLen n q.wait)⟩, q.wait.take (minLen n q.wait), 0)
def queueWait (ahead batch every : Int) : Int × Int := if ahead < 0 ∨ 30 < ahead ∨ batch < 1 ∨ 30 < batch ∨ every < 1 ∨ 1000 < every then (0, 4) else ((ahead.tdiv batch + 1) * every, 0)
theorem asksRight_take {l : List AskD} {i : Nat} {x : AskD} (h : l[i]? = some x) (h0 : queueRight x = 0) : asksRight (l.drop i) = asksRight (l.drop (i + 1)) := by
  obtain ⟨hi, rfl⟩ := List.getElem?_eq_some_iff.1 h
  rw [List.drop_eq_getElem_cons hi]
  show (if queueRight l[i] = 0 then _ else _) = _
  rw [if_pos h0]
theorem asksRight_at {l : List AskD} {i : Nat} {x : AskD} (h : l[i]? = some x) (h0 : ¬ queueRight x = 0) : asksRight (l.drop i) = queueRight x := by
  obtain ⟨hi, rfl⟩ := List.getElem?_eq_some_iff.1 h
  rw [List.drop_eq_getElem_cons hi]
  show (if queueRight l[i] = 0 then _ else _) = _
  rw [if_neg h0]
theorem asksRight_iff : ∀ {l : List AskD}, asksRight l = 0 ↔ ∀ a ∈ l, queueRight a = 0
  | [] => by simp [asksRight]
  | a :: l => by
    unfold asksRight
    split
    · rename_i h; simp [asksRight_iff (l := l), h]
    · rename_i h; simp [h]
theorem queueCheck_iff {q : QueueD} : queueCheck q = 0 ↔ 1 ≤ q.most ∧ q.most ≤ 30 ∧ (q.wait.length : Int) ≤ q.most ∧ ∀ a ∈ q.wait, queueRight a = 0 := by
  unfold queueCheck
  rw [← asksRight_iff]
  (repeat' split) <;> omega
theorem queuePut_ok {q : QueueD} {a : AskD} (h : (queuePut q a).2.2 = 0) : queueCheck q = 0 ∧ queueRight a = 0 ∧ (q.wait.length : Int) < q.most ∧ queuePut q a = ((⟨q.most, q.wait ++ [a]⟩ : QueueD), (q.wait.length : Int), (0 : Int)) := by
  unfold queuePut at h ⊢
  split at h
  · contradiction
  · rename_i h1
    rw [if_neg h1]
    unfold queuePutE at h1
    have := @queueCheck_iff q
    by_cases e1 : queueCheck q = 0
    · rw [if_neg (by omega)] at h1
      by_cases e2 : queueRight a = 0
      · rw [if_neg (by omega)] at h1
        by_cases e3 : (q.wait.length : Int) = q.most
        · rw [if_pos e3] at h1; omega
        · exact ⟨e1, e2, by have := this.1 e1; omega, rfl⟩
      · rw [if_pos e2] at h1; omega
    · rw [if_pos e1] at h1; omega
theorem queuePut_check {q : QueueD} {a : AskD} (h : (queuePut q a).2.2 = 0) : queueCheck (queuePut q a).1 = 0 := by
  obtain ⟨h1, h2, h3, h4⟩ := queuePut_ok h
  rw [h4]
  rw [queueCheck_iff] at h1 ⊢
  refine ⟨h1.1, h1.2.1, by simp; omega, fun b hb => ?_⟩
  rcases List.mem_append.1 hb with hb | hb
  · exact h1.2.2.2 b hb
  · rw [List.mem_singleton.1 hb]; exact h2
theorem queueTake_ok {q : QueueD} {n : Int} (h : (queueTake q n).2.2 = 0) : queueCheck q = 0 ∧ 0 ≤ n ∧ queueTake q n = ((⟨q.most, q.wait.drop (minLen n q.wait)⟩ : QueueD), q.wait.take (minLen n q.wait), (0 : Int)) := by
  unfold queueTake at h ⊢
  split at h
  · contradiction
  split at h
  · cases h
  · rename_i h1 h2
    rw [if_neg h1, if_neg h2]
    exact ⟨by omega, by omega, rfl⟩
theorem queueTake_check {q : QueueD} {n : Int} (h : (queueTake q n).2.2 = 0) : queueCheck (queueTake q n).1 = 0 := by
  obtain ⟨h1, h2, h3⟩ := queueTake_ok h
  rw [h3]
  rw [queueCheck_iff] at h1 ⊢
  exact ⟨h1.1, h1.2.1, by simp; omega, fun b hb => h1.2.2.2 b (List.mem_of_mem_drop hb)⟩
theorem minLen_eq {n : Int} {l : List AskD} (h : 0 ≤ n) : (if (((l.length : Nat) : Int)) < n then (((l.length : Nat) : Int)) else n) = ((minLen n l : Nat) : Int) := by unfold minLen; split <;> omega
theorem minLen_le {n : Int} {l : List AskD} : minLen n l ≤ l.length := by unfold minLen; split <;> omega
theorem queueWait_ok {a b e : Int} (h : (queueWait a b e).2 = 0) : 0 ≤ a ∧ a ≤ 30 ∧ 1 ≤ b ∧ b ≤ 30 ∧ 1 ≤ e ∧ e ≤ 1000 ∧ queueWait a b e = ((a / b + 1) * e, 0) := by
  unfold queueWait at h ⊢
  split at h
  · cases h
  · rename_i h1
    rw [if_neg h1, Int.tdiv_eq_ediv_of_nonneg (by omega)]
    exact ⟨by omega, by omega, by omega, by omega, by omega, by omega, rfl⟩
theorem queueWait_err {a b e : Int} (h : ¬ (queueWait a b e).2 = 0) : (queueWait a b e).1 = 0 := by
  revert h; unfold queueWait; split <;> simp
theorem qw_mono {a m b g e : Int} (h1 : (queueWait a b e).2 = 0) (h2 : (queueWait m b e).2 = 0) (h3 : (queueWait a g e).2 = 0) (ham : a ≤ m) (hbg : b ≤ g) :
    e ≤ (queueWait a b e).1 ∧ (queueWait a b e).1 ≤ (queueWait m b e).1 ∧ (queueWait a g e).1 ≤ (queueWait a b e).1 := by
  obtain ⟨a0, _, b0, _, e0, _, q1⟩ := queueWait_ok h1
  obtain ⟨m0, _, _, _, _, _, q2⟩ := queueWait_ok h2
  obtain ⟨_, _, g0, _, _, _, q3⟩ := queueWait_ok h3
  rw [q1, q2, q3]
  simp only
  have d0 : 0 ≤ a / b := Int.ediv_nonneg a0 (by omega)
  have d1 : a / b ≤ m / b := Int.ediv_le_ediv (by omega) ham
  have d2 : a / g ≤ a / b := by
    rw [Int.le_ediv_iff_mul_le (by omega)]
    have h0 : 0 ≤ a / g := Int.ediv_nonneg a0 (by omega)
    have h4 : a / g * b ≤ a / g * g := Int.mul_le_mul_of_nonneg_left hbg h0
    have h5 : a / g * g ≤ a := Int.ediv_mul_le a (by omega)
    omega
  have d3 : 0 ≤ a / g := Int.ediv_nonneg a0 (by omega)
  have m1 : 1 * e ≤ (a / b + 1) * e := Int.mul_le_mul_of_nonneg_right (by omega) (by omega)
  have m2 : (a / b + 1) * e ≤ (m / b + 1) * e := Int.mul_le_mul_of_nonneg_right (by omega) (by omega)
  have m3 : (a / g + 1) * e ≤ (a / b + 1) * e := Int.mul_le_mul_of_nonneg_right (by omega) (by omega)
  omega
structure OrdInv (most : Int) (k : Nat) (q : QueueD) (xi xo : List AskD) : Prop where
  k100 : k ≤ 100
  ok : queueCheck q = 0
  mo : q.most = most
  eq : xi = xo ++ q.wait
  li : xi.length ≤ k
theorem OrdInv.olen {most : Int} {k : Nat} {q : QueueD} {xi xo : List AskD} (h : OrdInv most k q xi xo) : xo.length + q.wait.length = xi.length ∧ xi.length ≤ 100 ∧ xi.length ≤ k := by
  have := congrArg List.length h.eq
  have := h.li; have := h.k100
  simp at *; omega
theorem ord_start {most : Int} (h : queueCheck ⟨most, []⟩ = 0) : OrdInv most 0 ⟨most, []⟩ [] [] := ⟨by omega, h, rfl, rfl, by simp⟩
theorem ord_0 {most : Int} {k : Nat} {q : QueueD} {xi xo : List AskD} (h : OrdInv most k q xi xo) (hk : k < 100) : OrdInv most (k + 1) q xi xo := ⟨by omega, h.ok, h.mo, h.eq, by have := h.li; omega⟩
theorem ord_p {most : Int} {k : Nat} {q : QueueD} {xi xo : List AskD} (h : OrdInv most k q xi xo) (hk : k < 100) {a : AskD} (hp : (queuePut q a).2.2 = 0) : OrdInv most (k + 1) (queuePut q a).1 (xi ++ [a]) xo := by
  obtain ⟨h1, h2, h3, h4⟩ := queuePut_ok hp
  have := queuePut_check hp
  rw [h4] at this ⊢
  exact ⟨by omega, this, h.mo, by rw [h.eq]; simp, by have := h.li; simp; omega⟩
theorem ord_t {most : Int} {k : Nat} {q : QueueD} {xi xo : List AskD} (h : OrdInv most k q xi xo) {n : Int} (hp : (queueTake q n).2.2 = 0) : OrdInv most k (queueTake q n).1 xi (xo ++ (queueTake q n).2.1) := by
  obtain ⟨h1, h2, h3⟩ := queueTake_ok hp
  have := queueTake_check hp
  rw [h3] at this ⊢
  exact ⟨h.k100, this, h.mo, by rw [h.eq]; simp, h.li⟩
theorem ord_end {most : Int} {k : Nat} {q : QueueD} {xi xo : List AskD} (h : OrdInv most k q xi xo) : xi = lconcat [xo, q.wait] ∧ (q.wait.length : Int) ≤ most ∧ queueCheck q = 0 := by
  have := (queueCheck_iff.1 h.ok).2.2.1
  refine ⟨by rw [h.eq]; simp [lconcat], by rw [← h.mo]; exact this, h.ok⟩

theorem queueRight_con (G : Mem) (vs_a : List Value) (a : AskD) (h_a : EAsk.R G vs_a a)  : Con Try.prog 79 #[.agg vs_a.toArray] G [] (fun u G' L' => u = I (queueRight a)) := by
  obtain ⟨rfl, w1, w2, w3, w4⟩ := h_a
  refine con_of Try.func79 13 [(0, .agg #[Sr a.name, Sr a.value, U a.n, U a.tag])] rfl (fun w0 G0 => ?_)
  refine tc_seq ?_
  refine tc_region ?_
  refine runL_box 1 #[Sr a.name, Sr a.value, U a.n, U a.tag] 93 (fun b1 => ?_)
  refine runL_b [0] [(1, Pt b1 0), (2, I 0)] ?_
  refine runL_nil ?_
  refine tq_then ?_
  refine tc_seq ?_
  refine tc_block ?_
  refine tc_seq ?_
  refine tc_region ?_
  refine runL_b [0,2] [(1, Pt b1 0), (2, I 0), (5, Sr a.name)] ?_
  refine runL_callV 6 (Bo (pathName a.name)) (pathName_con G a.name) ?_
  refine runL_b [0,0] [(1, Pt b1 0), (2, I 0), (3, Bo (!(pathName a.name)))] ?_
  refine runL_nil ?_
  refine tq_then ?_
  refine tc_cond (!(pathName a.name)) (fun h1 => ?_) (fun h1 => ?_)
  ·
    try simp only [decide_eq_true_eq, decide_eq_false_iff_not, Bool.and_eq_true, Bool.or_eq_true, Bool.and_eq_false_imp, Bool.or_eq_false_iff, Bool.not_eq_true', Bool.not_eq_false', Bool.not_eq_true, Bool.not_eq_false, beq_iff_eq, beq_eq_false_iff_ne, bne_iff_ne, ne_eq, Decidable.not_not, Int.not_lt, Int.not_le] at h1
    refine tc_rb [0] [(1, Pt b1 0), (2, I 3), (3, Bo (!(pathName a.name)))] ?_
    refine tc_ret ?_
    refine tq_block_ret ?_
    refine tq_then_ret ?_
    refine tq_ret [0] [I 3] (bp_ret (Mem.le_refl _) ?_)
    have hf_ : (queueRight a) = 3 := by
      unfold queueRight askRight; simp_all; try omega
    (try rw [hf_]); rfl
  ·
    try simp only [decide_eq_true_eq, decide_eq_false_iff_not, Bool.and_eq_true, Bool.or_eq_true, Bool.and_eq_false_imp, Bool.or_eq_false_iff, Bool.not_eq_true', Bool.not_eq_false', Bool.not_eq_true, Bool.not_eq_false, beq_iff_eq, beq_eq_false_iff_ne, bne_iff_ne, ne_eq, Decidable.not_not, Int.not_lt, Int.not_le] at h1
    refine tc_rb [0,2,0,0,0] [(1, Pt b1 0), (2, I 0), (3, Bo (!(pathName a.name))), (8, Bo (decide (((a.value).length : Int) > 20)))] ?_
    refine tc_cond (decide (((a.value).length : Int) > 20)) (fun h2 => ?_) (fun h2 => ?_)
    ·
      try simp only [decide_eq_true_eq, decide_eq_false_iff_not, Bool.and_eq_true, Bool.or_eq_true, Bool.and_eq_false_imp, Bool.or_eq_false_iff, Bool.not_eq_true', Bool.not_eq_false', Bool.not_eq_true, Bool.not_eq_false, beq_iff_eq, beq_eq_false_iff_ne, bne_iff_ne, ne_eq, Decidable.not_not, Int.not_lt, Int.not_le] at h2
      refine tc_rb [0] [(1, Pt b1 0), (2, I 2), (3, Bo (!(pathName a.name))), (8, Bo (decide (((a.value).length : Int) > 20)))] ?_
      refine tc_ret ?_
      refine tq_block_ret ?_
      refine tq_then_ret ?_
      refine tq_ret [0] [I 2] (bp_ret (Mem.le_refl _) ?_)
      have hf_ : (queueRight a) = 2 := by
        unfold queueRight askRight; simp_all; try omega
      (try rw [hf_]); rfl
    ·
      try simp only [decide_eq_true_eq, decide_eq_false_iff_not, Bool.and_eq_true, Bool.or_eq_true, Bool.and_eq_false_imp, Bool.or_eq_false_iff, Bool.not_eq_true', Bool.not_eq_false', Bool.not_eq_true, Bool.not_eq_false, beq_iff_eq, beq_eq_false_iff_ne, bne_iff_ne, ne_eq, Decidable.not_not, Int.not_lt, Int.not_le] at h2
      refine tc_skip ?_
      refine tq_block ?_
      refine tq_then ?_
      refine tc_rb [0] [(1, Pt b1 0), (2, I 0), (3, Bo (!(pathName a.name))), (8, Bo (decide (((a.value).length : Int) > 20)))] ?_
      refine tc_ret ?_
      refine tq_ret [0] [I 0] (bp_ret (Mem.le_refl _) ?_)
      have hf_ : (queueRight a) = 0 := by
        unfold queueRight askRight; simp_all; try omega
      (try rw [hf_]); rfl

theorem queueCheck_con (G : Mem) (vs_q : List Value) (q : QueueD) (h_q : EQueue.R G vs_q q)  : Con Try.prog 51 #[.agg vs_q.toArray] G [] (fun u G' L' => u = I (queueCheck q)) := by
  obtain ⟨a1, c1, rfl, w1, hs1⟩ := h_q
  refine con_of Try.func51 35 [(0, .agg #[I q.most, Sl a1 q.wait.length c1])] rfl (fun w0 G0 => ?_)
  refine tc_seq ?_
  refine tc_region ?_
  refine runL_box 1 #[I q.most, Sl a1 q.wait.length c1] 90 (fun b1 => ?_)
  refine runL_b [0] [(1, Pt b1 0), (2, I 0)] ?_
  refine runL_nil ?_
  refine tq_then ?_
  refine tc_seq ?_
  refine tc_block ?_
  refine tc_seq ?_
  refine tc_region ?_
  refine runL_b [0,2,0,0] [(1, Pt b1 0), (2, I 0), (10, Bo (decide (q.most < 1)))] ?_
  refine runL_b2 (decide (q.most < 1)) (fun bb => [(1, Pt b1 0), (2, I 0), (10, Bo bb)]) [1,1,1,0] [0,2,0,0] (fun bb => [(1, Pt b1 0), (2, I 0), (14, Bo (bb || (decide (q.most > 30))))]) ?_
  refine runL_b [0] [(1, Pt b1 0), (2, I 0), (6, Bo ((decide (q.most < 1)) || (decide (q.most > 30))))] ?_
  refine runL_nil ?_
  refine tq_then ?_
  refine tc_cond ((decide (q.most < 1)) || (decide (q.most > 30))) (fun h1 => ?_) (fun h1 => ?_)
  ·
    try simp only [decide_eq_true_eq, decide_eq_false_iff_not, Bool.and_eq_true, Bool.or_eq_true, Bool.and_eq_false_imp, Bool.or_eq_false_iff, Bool.not_eq_true', Bool.not_eq_false', Bool.not_eq_true, Bool.not_eq_false, beq_iff_eq, beq_eq_false_iff_ne, bne_iff_ne, ne_eq, Decidable.not_not, Int.not_lt, Int.not_le] at h1
    refine tc_rb [0] [(1, Pt b1 0), (2, I 4), (6, Bo ((decide (q.most < 1)) || (decide (q.most > 30))))] ?_
    refine tc_ret ?_
    refine tq_block_ret ?_
    refine tq_then_ret ?_
    refine tq_ret [0] [I 4] (bp_ret (Mem.le_refl _) ?_)
    have hf_ : (queueCheck q) = 4 := by
      unfold queueCheck; first | (rw [if_pos (by omega)]; done) | (rw [if_neg (by omega), if_pos (by omega)]; done) | (rw [if_neg (by omega), if_neg (by omega), hn]; first | exact asksRight_at hx1 h4 | (rw [List.drop_eq_nil_of_le (by omega)]; rfl))
    (try rw [hf_]); rfl
  ·
    try simp only [decide_eq_true_eq, decide_eq_false_iff_not, Bool.and_eq_true, Bool.or_eq_true, Bool.and_eq_false_imp, Bool.or_eq_false_iff, Bool.not_eq_true', Bool.not_eq_false', Bool.not_eq_true, Bool.not_eq_false, beq_iff_eq, beq_eq_false_iff_ne, bne_iff_ne, ne_eq, Decidable.not_not, Int.not_lt, Int.not_le] at h1
    refine tc_rb [0,2,0,0,2,0,0] [(1, Pt b1 0), (2, I 0), (6, Bo ((decide (q.most < 1)) || (decide (q.most > 30)))), (15, Bo (decide (((q.wait.length : Nat) : Int) > q.most)))] ?_
    refine tc_cond (decide (((q.wait.length : Nat) : Int) > q.most)) (fun h2 => ?_) (fun h2 => ?_)
    ·
      try simp only [decide_eq_true_eq, decide_eq_false_iff_not, Bool.and_eq_true, Bool.or_eq_true, Bool.and_eq_false_imp, Bool.or_eq_false_iff, Bool.not_eq_true', Bool.not_eq_false', Bool.not_eq_true, Bool.not_eq_false, beq_iff_eq, beq_eq_false_iff_ne, bne_iff_ne, ne_eq, Decidable.not_not, Int.not_lt, Int.not_le] at h2
      refine tc_rb [0] [(1, Pt b1 0), (2, I 7), (6, Bo ((decide (q.most < 1)) || (decide (q.most > 30)))), (15, Bo (decide (((q.wait.length : Nat) : Int) > q.most)))] ?_
      refine tc_ret ?_
      refine tq_block_ret ?_
      refine tq_then_ret ?_
      refine tq_ret [0] [I 7] (bp_ret (Mem.le_refl _) ?_)
      have hf_ : (queueCheck q) = 7 := by
        unfold queueCheck; first | (rw [if_pos (by omega)]; done) | (rw [if_neg (by omega), if_pos (by omega)]; done) | (rw [if_neg (by omega), if_neg (by omega), hn]; first | exact asksRight_at hx1 h4 | (rw [List.drop_eq_nil_of_le (by omega)]; rfl))
      (try rw [hf_]); rfl
    ·
      try simp only [decide_eq_true_eq, decide_eq_false_iff_not, Bool.and_eq_true, Bool.or_eq_true, Bool.and_eq_false_imp, Bool.or_eq_false_iff, Bool.not_eq_true', Bool.not_eq_false', Bool.not_eq_true, Bool.not_eq_false, beq_iff_eq, beq_eq_false_iff_ne, bne_iff_ne, ne_eq, Decidable.not_not, Int.not_lt, Int.not_le] at h2
      refine tc_skip ?_
      refine tq_block ?_
      refine tq_then ?_
      refine tc_seq ?_
      refine tc_rb [0,2,0,0] [(1, Pt b1 0), (2, I 0), (6, Bo ((decide (q.most < 1)) || (decide (q.most > 30)))), (15, Bo (decide (((q.wait.length : Nat) : Int) > q.most))), (23, Sl a1 q.wait.length c1), (24, I (((q.wait.length : Nat) : Int))), (25, I 0)] ?_
      refine tc_block ?_
      have hlm_hs1 : q.wait.length ≤ 9223372036854775807 := Nat.le_trans (hs1).le (hs1).max
      refine tc_loop (σ := Nat) (fun q_ => (q_ ≤ q.wait.length) ∧ (asksRight q.wait = asksRight (q.wait.drop q_))) (fun q_ => [(1, Pt b1 0), (6, Bo ((decide (q.most < 1)) || (decide (q.most > 30)))), (15, Bo (decide (((q.wait.length : Nat) : Int) > q.most))), (23, Sl a1 q.wait.length c1), (24, I (((q.wait.length : Nat) : Int))), (25, I ((q_ : Int)))]) (fun q_ => G) (fun q_ => [[Sg b1 0 [I q.most, Sl a1 q.wait.length c1]]]) (fun q_ => q.wait.length - q_) 0 ⟨(by (try dsimp only); first | exact Nat.zero_le _ | omega | simp), rfl⟩ (fun q_ hs => ?_)
      revert hs; revert q_; intro i hs
      obtain ⟨hi, hn⟩ := hs
      refine tc_eq (fr' := [(1, Pt b1 0), (6, Bo ((decide (q.most < 1)) || (decide (q.most > 30)))), (15, Bo (decide (((q.wait.length : Nat) : Int) > q.most))), (23, Sl a1 q.wait.length c1), (24, I (((q.wait.length : Nat) : Int))), (25, I ((i : Int)))]) (L' := [[Sg b1 0 [I q.most, Sl a1 q.wait.length c1]]]) rfl rfl ?_
      refine tc_rb [0] [(1, Pt b1 0), (6, Bo ((decide (q.most < 1)) || (decide (q.most > 30)))), (15, Bo (decide (((q.wait.length : Nat) : Int) > q.most))), (23, Sl a1 q.wait.length c1), (24, I (((q.wait.length : Nat) : Int))), (25, I ((i : Int))), (26, Bo (decide ((i : Int) < ((q.wait.length : Nat) : Int))))] ?_
      refine tc_seq ?_
      refine tc_cond (decide ((i : Int) < ((q.wait.length : Nat) : Int))) (fun h3 => ?_) (fun h3 => ?_)
      ·
        try simp only [decide_eq_true_eq, decide_eq_false_iff_not, Bool.and_eq_true, Bool.or_eq_true, Bool.and_eq_false_imp, Bool.or_eq_false_iff, Bool.not_eq_true', Bool.not_eq_false', Bool.not_eq_true, Bool.not_eq_false, beq_iff_eq, beq_eq_false_iff_ne, bne_iff_ne, ne_eq, Decidable.not_not, Int.not_lt, Int.not_le] at h3
        refine tc_skip ?_
        refine tq_then ?_
        refine tc_seq ?_
        refine tc_block ?_
        refine tc_seq ?_
        refine tc_region ?_
        obtain ⟨b2, o1, rfl⟩ := RS.addr hs1 (k := i) (by omega)
        obtain ⟨x1, hx1⟩ := getX (l := q.wait) (k := i) (by omega)
        obtain ⟨_, ⟨rfl, w2, w3, w4, w5⟩, hc1⟩ := RS.get hs1 hx1
        refine runL_idx (b := b2) (off := o1) (len := q.wait.length) (cap := c1) (ik := .i64) 27 93 4 i (by omega) ?_
        refine runL_ldG 28 93 (cs := [Sr x1.name, Sr x1.value, U x1.n, U x1.tag]) 0 (.agg #[Sr x1.name, Sr x1.value, U x1.n, U x1.tag]) hc1 ?_
        refine runL_box 4 #[Sr ([]), Sr ([]), U 0, U 0] 93 (fun b3 => ?_)
        refine runL_bs [3] [(1, Pt b1 0), (4, Pt b3 0), (6, Bo ((decide (q.most < 1)) || (decide (q.most > 30)))), (15, Bo (decide (((q.wait.length : Nat) : Int) > q.most))), (23, Sl (At b2 o1) q.wait.length c1), (24, I (((q.wait.length : Nat) : Int))), (25, I ((i : Int))), (26, Bo (decide ((i : Int) < ((q.wait.length : Nat) : Int))))] [[Sg b3 0 [Sr x1.name, Sr x1.value, U x1.n, U x1.tag]], [Sg b1 0 [I q.most, Sl (At b2 o1) q.wait.length c1]]] ?_
        refine runL_nil ?_
        refine tq_then ?_
        refine tc_seq ?_
        refine tc_region ?_
        refine runL_b [2] [(1, Pt b1 0), (4, Pt b3 0), (6, Bo ((decide (q.most < 1)) || (decide (q.most > 30)))), (15, Bo (decide (((q.wait.length : Nat) : Int) > q.most))), (23, Sl (At b2 o1) q.wait.length c1), (24, I (((q.wait.length : Nat) : Int))), (25, I ((i : Int))), (26, Bo (decide ((i : Int) < ((q.wait.length : Nat) : Int)))), (29, .agg #[Sr x1.name, Sr x1.value, U x1.n, U x1.tag])] ?_
        refine runL_callV 30 (I (queueRight x1)) (queueRight_con G [Sr x1.name, Sr x1.value, U x1.n, U x1.tag] x1 (⟨rfl, w2, w3, w4, w5⟩)) ?_
        refine runL_b [0] [(1, Pt b1 0), (4, Pt b3 0), (5, I (queueRight x1)), (6, Bo ((decide (q.most < 1)) || (decide (q.most > 30)))), (15, Bo (decide (((q.wait.length : Nat) : Int) > q.most))), (23, Sl (At b2 o1) q.wait.length c1), (24, I (((q.wait.length : Nat) : Int))), (25, I ((i : Int))), (26, Bo (decide ((i : Int) < ((q.wait.length : Nat) : Int))))] ?_
        refine runL_nil ?_
        refine tq_then ?_
        refine tc_rb [0,0] [(1, Pt b1 0), (4, Pt b3 0), (5, I (queueRight x1)), (6, Bo ((decide (q.most < 1)) || (decide (q.most > 30)))), (15, Bo (decide (((q.wait.length : Nat) : Int) > q.most))), (23, Sl (At b2 o1) q.wait.length c1), (24, I (((q.wait.length : Nat) : Int))), (25, I ((i : Int))), (26, Bo (decide ((i : Int) < ((q.wait.length : Nat) : Int)))), (32, Bo (!decide (queueRight x1 = 0)))] ?_
        refine tc_cond (!decide (queueRight x1 = 0)) (fun h4 => ?_) (fun h4 => ?_)
        ·
          try simp only [decide_eq_true_eq, decide_eq_false_iff_not, Bool.and_eq_true, Bool.or_eq_true, Bool.and_eq_false_imp, Bool.or_eq_false_iff, Bool.not_eq_true', Bool.not_eq_false', Bool.not_eq_true, Bool.not_eq_false, beq_iff_eq, beq_eq_false_iff_ne, bne_iff_ne, ne_eq, Decidable.not_not, Int.not_lt, Int.not_le] at h4
          refine tc_rb [0,0] [(1, Pt b1 0), (2, I (queueRight x1)), (4, Pt b3 0), (5, I (queueRight x1)), (6, Bo ((decide (q.most < 1)) || (decide (q.most > 30)))), (15, Bo (decide (((q.wait.length : Nat) : Int) > q.most))), (23, Sl (At b2 o1) q.wait.length c1), (24, I (((q.wait.length : Nat) : Int))), (25, I ((i : Int))), (26, Bo (decide ((i : Int) < ((q.wait.length : Nat) : Int)))), (32, Bo (!decide (queueRight x1 = 0)))] ?_
          refine tc_ret ?_
          refine tq_block_ret ?_
          refine tq_then_ret ?_
          refine tq_rnd_ret ?_
          refine tq_block_ret ?_
          refine tq_then_ret ?_
          refine tq_ret [0] [I (queueRight x1)] (bp_ret (Mem.le_refl _) ?_)
          have hf_ : (queueCheck q) = (queueRight x1) := by
            unfold queueCheck; first | (rw [if_pos (by omega)]; done) | (rw [if_neg (by omega), if_pos (by omega)]; done) | (rw [if_neg (by omega), if_neg (by omega), hn]; first | exact asksRight_at hx1 h4 | (rw [List.drop_eq_nil_of_le (by omega)]; rfl))
          (try rw [hf_]); rfl
        ·
          try simp only [decide_eq_true_eq, decide_eq_false_iff_not, Bool.and_eq_true, Bool.or_eq_true, Bool.and_eq_false_imp, Bool.or_eq_false_iff, Bool.not_eq_true', Bool.not_eq_false', Bool.not_eq_true, Bool.not_eq_false, beq_iff_eq, beq_eq_false_iff_ne, bne_iff_ne, ne_eq, Decidable.not_not, Int.not_lt, Int.not_le] at h4
          refine tc_skip ?_
          refine tq_block ?_
          refine tq_then ?_
          refine tc_region ?_
          refine runL_b [0,0] [(1, Pt b1 0), (4, Pt b3 0), (5, I (queueRight x1)), (6, Bo ((decide (q.most < 1)) || (decide (q.most > 30)))), (15, Bo (decide (((q.wait.length : Nat) : Int) > q.most))), (23, Sl (At b2 o1) q.wait.length c1), (24, I (((q.wait.length : Nat) : Int))), (25, I (IntKind.i64.wrap (((i : Int)) + 1))), (26, Bo (decide ((i : Int) < ((q.wait.length : Nat) : Int)))), (32, Bo (!decide (queueRight x1 = 0)))] ?_
          have e1 : IntKind.i64.wrap (((i : Int)) + 1) = ((i : Int)) + 1 := IntWalk.i64_in _ (by omega)
          refine runL_eq (fr' := [(1, Pt b1 0), (4, Pt b3 0), (5, I (queueRight x1)), (6, Bo ((decide (q.most < 1)) || (decide (q.most > 30)))), (15, Bo (decide (((q.wait.length : Nat) : Int) > q.most))), (23, Sl (At b2 o1) q.wait.length c1), (24, I (((q.wait.length : Nat) : Int))), (25, I (((i : Int)) + 1)), (26, Bo (decide ((i : Int) < ((q.wait.length : Nat) : Int)))), (32, Bo (!decide (queueRight x1 = 0)))]) (L' := [[Sg b3 0 [Sr x1.name, Sr x1.value, U x1.n, U x1.tag]], [Sg b1 0 [I q.most, Sl (At b2 o1) q.wait.length c1]]]) (by simp only [e1]) (by rfl) ?_
          clear e1
          refine runL_nil ?_
          refine tq_owns [[Sg b1 0 [I q.most, Sl (At b2 o1) q.wait.length c1]]] ((.cons _ (.cons_cons _ .slnil))) ?_
          exact tq_rnd (i + 1) ⟨(by omega), (by rw [hn]; exact asksRight_take hx1 h4)⟩ (by (try dsimp only); omega)
      ·
        try simp only [decide_eq_true_eq, decide_eq_false_iff_not, Bool.and_eq_true, Bool.or_eq_true, Bool.and_eq_false_imp, Bool.or_eq_false_iff, Bool.not_eq_true', Bool.not_eq_false', Bool.not_eq_true, Bool.not_eq_false, beq_iff_eq, beq_eq_false_iff_ne, bne_iff_ne, ne_eq, Decidable.not_not, Int.not_lt, Int.not_le] at h3
        refine tc_exit ?_
        refine tq_then_exit ?_
        refine tq_rnd_exit ?_
        refine tq_block_here ?_
        refine tq_then ?_
        refine tc_rb [0] [(1, Pt b1 0), (2, I 0), (6, Bo ((decide (q.most < 1)) || (decide (q.most > 30)))), (15, Bo (decide (((q.wait.length : Nat) : Int) > q.most))), (23, Sl a1 q.wait.length c1), (24, I (((q.wait.length : Nat) : Int))), (25, I ((i : Int))), (26, Bo (decide ((i : Int) < ((q.wait.length : Nat) : Int))))] ?_
        refine tc_ret ?_
        refine tq_ret [0] [I 0] (bp_ret (Mem.le_refl _) ?_)
        have hf_ : (queueCheck q) = 0 := by
          unfold queueCheck; first | (rw [if_pos (by omega)]; done) | (rw [if_neg (by omega), if_pos (by omega)]; done) | (rw [if_neg (by omega), if_neg (by omega), hn]; first | exact asksRight_at hx1 h4 | (rw [List.drop_eq_nil_of_le (by omega)]; rfl))
        (try rw [hf_]); rfl

theorem queuePut_con (G : Mem) (vs_q : List Value) (q : QueueD) (h_q : EQueue.R G vs_q q) (vs_a : List Value) (a : AskD) (h_a : EAsk.R G vs_a a)  : Con Try.prog 52 #[.agg vs_q.toArray, .agg vs_a.toArray] G [] (fun u G' L' => ∃ (a1 : Option Addr) (c2 : Nat), u = .tuple #[.agg #[I (((queuePut q a).1).most), Sl a1 ((((queuePut q a).1).wait).length) c2], I ((queuePut q a).2.1), I ((queuePut q a).2.2)] ∧ (-9223372036854775808 ≤ (((queuePut q a).1).most) ∧ (((queuePut q a).1).most) < 9223372036854775808) ∧ (RS EAsk G' a1 c2 (((queuePut q a).1).wait)) ∧ L' = []) := by
  obtain ⟨a1, c1, rfl, w1, hs1⟩ := h_q
  obtain ⟨rfl, w2, w3, w4, w5⟩ := h_a
  refine con_of Try.func52 42 [(0, .agg #[I q.most, Sl a1 q.wait.length c1]), (1, .agg #[Sr a.name, Sr a.value, U a.n, U a.tag])] rfl (fun w0 G0 => ?_)
  refine tc_seq ?_
  refine tc_region ?_
  refine runL_box 2 #[I q.most, Sl a1 q.wait.length c1] 90 (fun b1 => ?_)
  refine runL_box 3 #[Sr a.name, Sr a.value, U a.n, U a.tag] 93 (fun b2 => ?_)
  refine runL_box 4 #[I 0, Sl none 0 0] 90 (fun b3 => ?_)
  refine runL_b [0,0] [(2, Pt b1 0), (3, Pt b2 0), (4, Pt b3 0), (5, I 0), (6, I 0)] ?_
  refine runL_nil ?_
  refine tq_then ?_
  refine tc_seq ?_
  refine tc_region ?_
  refine runL_b [6] [(2, Pt b1 0), (3, Pt b2 0), (4, Pt b3 0), (5, I 0), (6, I 0), (9, .agg #[I q.most, Sl a1 q.wait.length c1])] ?_
  refine runL_callV 10 (I (queueCheck q)) (queueCheck_con G [I q.most, Sl a1 q.wait.length c1] q (⟨a1, c1, rfl, w1, hs1⟩)) ?_
  refine runL_b [0] [(2, Pt b1 0), (3, Pt b2 0), (4, Pt b3 0), (5, I 0), (6, I 0), (7, I (queueCheck q))] ?_
  refine runL_nil ?_
  refine tq_then ?_
  refine tc_seq ?_
  refine tc_rb [0,0] [(2, Pt b1 0), (3, Pt b2 0), (4, Pt b3 0), (5, I 0), (6, I 0), (7, I (queueCheck q)), (12, Bo (decide (queueCheck q = 0)))] ?_
  refine tc_cond (decide (queueCheck q = 0)) (fun h1 => ?_) (fun h1 => ?_)
  ·
    try simp only [decide_eq_true_eq, decide_eq_false_iff_not, Bool.and_eq_true, Bool.or_eq_true, Bool.and_eq_false_imp, Bool.or_eq_false_iff, Bool.not_eq_true', Bool.not_eq_false', Bool.not_eq_true, Bool.not_eq_false, beq_iff_eq, beq_eq_false_iff_ne, bne_iff_ne, ne_eq, Decidable.not_not, Int.not_lt, Int.not_le] at h1
    refine tc_region ?_
    refine runL_b [4] [(2, Pt b1 0), (3, Pt b2 0), (4, Pt b3 0), (5, I 0), (6, I 0), (7, I (queueCheck q)), (12, Bo (decide (queueCheck q = 0))), (13, .agg #[Sr a.name, Sr a.value, U a.n, U a.tag])] ?_
    refine runL_callV 14 (I (queueRight a)) (queueRight_con G [Sr a.name, Sr a.value, U a.n, U a.tag] a (⟨rfl, w2, w3, w4, w5⟩)) ?_
    refine runL_b [0] [(2, Pt b1 0), (3, Pt b2 0), (4, Pt b3 0), (5, I 0), (6, I 0), (7, I (queueRight a)), (12, Bo (decide (queueCheck q = 0)))] ?_
    refine runL_nil ?_
    refine tq_then ?_
    refine tc_seq ?_
    refine tc_seq ?_
    refine tc_region ?_
    refine runL_b [0,0,0] [(2, Pt b1 0), (3, Pt b2 0), (4, Pt b3 0), (5, I 0), (6, I 0), (7, I (queueRight a)), (12, Bo (decide (queueCheck q = 0))), (17, Bo (decide (queueRight a = 0)))] ?_
    refine runL_b2 (decide (queueRight a = 0)) (fun bb => [(2, Pt b1 0), (3, Pt b2 0), (4, Pt b3 0), (5, I 0), (6, I 0), (7, I (queueRight a)), (12, Bo (decide (queueCheck q = 0))), (17, Bo bb)]) [0,6,0,0,6,0,0] [1,1,1,1,1,1,0] (fun bb => [(2, Pt b1 0), (3, Pt b2 0), (4, Pt b3 0), (5, I 0), (6, I 0), (7, I (queueRight a)), (12, Bo (decide (queueCheck q = 0))), (24, Bo (bb && (decide (((q.wait.length : Nat) : Int) = q.most))))]) ?_
    refine runL_nil ?_
    refine tq_then ?_
    refine tc_cond ((decide (queueRight a = 0)) && (decide (((q.wait.length : Nat) : Int) = q.most))) (fun h2 => ?_) (fun h2 => ?_)
    ·
      try simp only [decide_eq_true_eq, decide_eq_false_iff_not, Bool.and_eq_true, Bool.or_eq_true, Bool.and_eq_false_imp, Bool.or_eq_false_iff, Bool.not_eq_true', Bool.not_eq_false', Bool.not_eq_true, Bool.not_eq_false, beq_iff_eq, beq_eq_false_iff_ne, bne_iff_ne, ne_eq, Decidable.not_not, Int.not_lt, Int.not_le] at h2
      refine tc_region ?_
      refine runL_b [0] [(2, Pt b1 0), (3, Pt b2 0), (4, Pt b3 0), (5, I 0), (6, I 0), (7, I 7), (12, Bo (decide (queueCheck q = 0))), (24, Bo ((decide (queueRight a = 0)) && (decide (((q.wait.length : Nat) : Int) = q.most))))] ?_
      refine runL_nil ?_
      refine tq_then ?_
      refine tc_seq ?_
      refine tc_rb [0,0] [(2, Pt b1 0), (3, Pt b2 0), (4, Pt b3 0), (5, I 0), (6, I 0), (7, I 7), (12, Bo (decide (queueCheck q = 0))), (24, Bo ((decide (queueRight a = 0)) && (decide (((q.wait.length : Nat) : Int) = q.most)))), (26, Bo true)] ?_
      refine tc_cond_true ?_
      refine tc_rb [0,0,3,0,0] [(2, Pt b1 0), (3, Pt b2 0), (4, Pt b3 0), (5, I 0), (6, I 7), (7, I 7), (12, Bo (decide (queueCheck q = 0))), (24, Bo ((decide (queueRight a = 0)) && (decide (((q.wait.length : Nat) : Int) = q.most)))), (26, Bo true)] ?_
      refine tc_ret ?_
      refine tq_then_ret ?_
      have hf1 : queuePut q a = ((⟨0, []⟩ : QueueD), 0, 7) := by
        unfold queuePut queuePutE queueZ; simp_all; try omega
      refine tq_ret [0, 0, 0] [.agg #[I 0, Sl none 0 0], I 0, I 7] (bp_rows [] (.cons _ (.cons _ (.cons _ .slnil))) (Mem.le_refl _) ?_)
      rw [hf1]
      exact ⟨none, 0, rfl, (by first | assumption | omega | (simp; done) | (simp; omega)), (RS.nil' EAsk G), rfl⟩
    ·
      try simp only [decide_eq_true_eq, decide_eq_false_iff_not, Bool.and_eq_true, Bool.or_eq_true, Bool.and_eq_false_imp, Bool.or_eq_false_iff, Bool.not_eq_true', Bool.not_eq_false', Bool.not_eq_true, Bool.not_eq_false, beq_iff_eq, beq_eq_false_iff_ne, bne_iff_ne, ne_eq, Decidable.not_not, Int.not_lt, Int.not_le] at h2
      refine tc_skip ?_
      refine tq_then ?_
      refine tc_seq ?_
      refine tc_rb [0,0] [(2, Pt b1 0), (3, Pt b2 0), (4, Pt b3 0), (5, I 0), (6, I 0), (7, I (queueRight a)), (12, Bo (decide (queueCheck q = 0))), (24, Bo ((decide (queueRight a = 0)) && (decide (((q.wait.length : Nat) : Int) = q.most)))), (26, Bo (!decide (queueRight a = 0)))] ?_
      refine tc_cond (!decide (queueRight a = 0)) (fun h3 => ?_) (fun h3 => ?_)
      ·
        try simp only [decide_eq_true_eq, decide_eq_false_iff_not, Bool.and_eq_true, Bool.or_eq_true, Bool.and_eq_false_imp, Bool.or_eq_false_iff, Bool.not_eq_true', Bool.not_eq_false', Bool.not_eq_true, Bool.not_eq_false, beq_iff_eq, beq_eq_false_iff_ne, bne_iff_ne, ne_eq, Decidable.not_not, Int.not_lt, Int.not_le] at h3
        refine tc_rb [0,0,3,0,0] [(2, Pt b1 0), (3, Pt b2 0), (4, Pt b3 0), (5, I 0), (6, I (queueRight a)), (7, I (queueRight a)), (12, Bo (decide (queueCheck q = 0))), (24, Bo ((decide (queueRight a = 0)) && (decide (((q.wait.length : Nat) : Int) = q.most)))), (26, Bo (!decide (queueRight a = 0)))] ?_
        refine tc_ret ?_
        refine tq_then_ret ?_
        have hf2 : queuePut q a = ((⟨0, []⟩ : QueueD), 0, queueRight a) := by
          unfold queuePut queuePutE queueZ; simp_all; try omega
        refine tq_ret [0, 0, 0] [.agg #[I 0, Sl none 0 0], I 0, I (queueRight a)] (bp_rows [] (.cons _ (.cons _ (.cons _ .slnil))) (Mem.le_refl _) ?_)
        rw [hf2]
        exact ⟨none, 0, rfl, (by first | assumption | omega | (simp; done) | (simp; omega)), (RS.nil' EAsk G), rfl⟩
      ·
        try simp only [decide_eq_true_eq, decide_eq_false_iff_not, Bool.and_eq_true, Bool.or_eq_true, Bool.and_eq_false_imp, Bool.or_eq_false_iff, Bool.not_eq_true', Bool.not_eq_false', Bool.not_eq_true, Bool.not_eq_false, beq_iff_eq, beq_eq_false_iff_ne, bne_iff_ne, ne_eq, Decidable.not_not, Int.not_lt, Int.not_le] at h3
        refine tc_skip ?_
        refine tq_then ?_
        refine tc_rb [0,6,0,0] [(2, Pt b1 0), (3, Pt b2 0), (4, Pt b3 0), (5, I 0), (6, I 0), (7, I (queueRight a)), (8, I (((q.wait.length : Nat) : Int))), (12, Bo (decide (queueCheck q = 0))), (24, Bo ((decide (queueRight a = 0)) && (decide (((q.wait.length : Nat) : Int) = q.most)))), (26, Bo (!decide (queueRight a = 0)))] ?_
        refine tc_seq ?_
        refine tc_draw [4, 6, 7, 10] ?_
        refine dr_V [(0, Pt b1 0), (1, I q.most), (2, Pt b1 1), (3, Sl a1 q.wait.length c1), (5, .agg #[Sr a.name, Sr a.value, U a.n, U a.tag]), (9, I (((q.wait.length : Nat) : Int)))] ?_
        refine dr_mid [] [(0,0), (1,6), (2,0), (3,6), (5,4), (9,0)] [] [4, 6] (List.forall_mem_nil _) (List.forall_mem_cons.2 ⟨?_, (List.forall_mem_cons.2 ⟨?_, List.forall_mem_nil _⟩)⟩)
        ·
          refine act_of 4 [(35, Sl a1 q.wait.length c1)] (fun X => ?_)
          refine runL_callR 36 (sclone_EAsk G a1 c1 q.wait hs1) (fun v G1 L1 hl1 hp => ?_)
          obtain ⟨a2, c2, r1, rfl, hr1, rfl⟩ := hp
          refine act_end (V' := [(0, Pt b1 0), (1, I q.most), (2, Pt b1 1), (3, Sl a1 q.wait.length c1), (4, Sl a2 q.wait.length c2), (5, .agg #[Sr a.name, Sr a.value, U a.n, U a.tag]), (9, I (((q.wait.length : Nat) : Int)))]) ?_
          refine dr_mid [2, 3] [(0,0), (1,8), (5,6), (9,0)] [] [6] (List.forall_mem_nil _) (List.forall_mem_cons.2 ⟨?_, List.forall_mem_nil _⟩)
          refine act_of 6 [(37, .agg #[Sr a.name, Sr a.value, U a.n, U a.tag])] (fun X => ?_)
          refine runL_bsl 38 1 #[Sr a.name, Sr a.value, U a.n, U a.tag] 93 (fun b4 => ?_)
          refine act_end (V' := [(0, Pt b1 0), (1, I q.most), (2, Pt b1 1), (3, Sl a1 q.wait.length c1), (4, Sl a2 q.wait.length c2), (5, .agg #[Sr a.name, Sr a.value, U a.n, U a.tag]), (6, Sl (At b4 0) 1 1), (9, I (((q.wait.length : Nat) : Int)))]) ?_
          refine dr_mid [2, 3, 5] [(0,0), (1,10), (9,0)] [] [7] (List.forall_mem_nil _) (List.forall_mem_cons.2 ⟨?_, List.forall_mem_nil _⟩)
          refine act_of 7 [(36, Sl a2 q.wait.length c2), (38, Sl (At b4 0) 1 1)] (fun X => ?_)
          refine runL_app1' (b := b4) (cs := [Sr a.name, Sr a.value, U a.n, U a.tag]) 39 93 1 0 (E := EAsk) a hr1 ⟨rfl, w2, w3, w4, w5⟩ (by have hq_ := queueCheck_iff.1 (by assumption); (try simp only [EAsk, List.length_append, List.length_cons, List.length_nil]); omega) (by have hq_ := queueCheck_iff.1 (by assumption); (try simp only [EAsk, List.length_append, List.length_cons, List.length_nil]); omega) (fun a3 c3 r2 hr2 => ?_)
          refine act_end (V' := [(0, Pt b1 0), (1, I q.most), (2, Pt b1 1), (3, Sl a1 q.wait.length c1), (4, Sl a2 q.wait.length c2), (5, .agg #[Sr a.name, Sr a.value, U a.n, U a.tag]), (6, Sl (At b4 0) 1 1), (7, Sl a3 ((q.wait ++ [a]).length) c3), (8, .agg #[I q.most, Sl a3 ((q.wait ++ [a]).length) c3]), (9, I (((q.wait.length : Nat) : Int)))]) ?_
          refine dr_mid [2, 3, 5] [(0,0), (1,10), (8,0), (9,0)] [] [10] (List.forall_mem_nil _) (List.forall_mem_cons.2 ⟨?_, List.forall_mem_nil _⟩)
          refine act_of 10 [(4, Pt b3 0), (40, .agg #[I q.most, Sl a3 ((q.wait ++ [a]).length) c3])] (fun X => ?_)
          refine runL_st 2 [[Sg b4 0 [Sr a.name, Sr a.value, U a.n, U a.tag]], r2, [Sg b3 0 [I q.most, Sl a3 ((q.wait ++ [a]).length) c3]], [Sg b2 0 [Sr a.name, Sr a.value, U a.n, U a.tag]], [Sg b1 0 [I q.most, Sl a1 q.wait.length c1]]] ?_
          refine act_end0 (V' := [(0, Pt b1 0), (1, I q.most), (2, Pt b1 1), (3, Sl a1 q.wait.length c1), (4, Sl a2 q.wait.length c2), (5, .agg #[Sr a.name, Sr a.value, U a.n, U a.tag]), (6, Sl (At b4 0) 1 1), (7, Sl a3 ((q.wait ++ [a]).length) c3), (8, .agg #[I q.most, Sl a3 ((q.wait ++ [a]).length) c3]), (9, I (((q.wait.length : Nat) : Int))), (11, I (((q.wait.length : Nat) : Int))), (12, I 0)]) ?_
          refine dr_end [0, 1, 2, 3, 5, 8] [(9,0), (11,0), (12,0)] [] [(2, Pt b1 0), (3, Pt b2 0), (4, Pt b3 0), (5, I (((q.wait.length : Nat) : Int))), (6, I 0), (7, I (queueRight a)), (12, Bo (decide (queueCheck q = 0))), (24, Bo ((decide (queueRight a = 0)) && (decide (((q.wait.length : Nat) : Int) = q.most)))), (26, Bo (!decide (queueRight a = 0)))] (List.forall_mem_nil _) ?_
          refine tq_then ?_
          refine tc_ret ?_
          refine tq_frzR (E := EAsk) 1 hr2 (by have hq_ := queueCheck_iff.1 (by assumption); (try simp only [EAsk, List.length_append, List.length_cons, List.length_nil]); omega) (fun G2 hl2 hs2 => ?_)
          have hf3 : queuePut q a = ((⟨q.most, q.wait ++ [a]⟩ : QueueD), ((q.wait.length : Nat) : Int), 0) := by
            unfold queuePut queuePutE queueZ; simp_all; try omega
          refine tq_ret [2, 0, 0] [.agg #[I q.most, Sl a3 ((q.wait ++ [a]).length) c3], I (((q.wait.length : Nat) : Int)), I 0] (bp_rows [] (.cons _ (.cons _ (.cons _ (.cons _ (.cons _ .slnil))))) (Mem.le_trans hl1 hl2) ?_)
          rw [hf3]
          exact ⟨a3, c3, rfl, w1, hs2, rfl⟩
        refine act_of 6 [(37, .agg #[Sr a.name, Sr a.value, U a.n, U a.tag])] (fun X => ?_)
        refine runL_bsl 38 1 #[Sr a.name, Sr a.value, U a.n, U a.tag] 93 (fun b5 => ?_)
        refine act_end (V' := [(0, Pt b1 0), (1, I q.most), (2, Pt b1 1), (3, Sl a1 q.wait.length c1), (5, .agg #[Sr a.name, Sr a.value, U a.n, U a.tag]), (6, Sl (At b5 0) 1 1), (9, I (((q.wait.length : Nat) : Int)))]) ?_
        refine dr_mid [5] [(0,0), (1,8), (2,0), (3,8), (9,0)] [] [4] (List.forall_mem_nil _) (List.forall_mem_cons.2 ⟨?_, List.forall_mem_nil _⟩)
        refine act_of 4 [(35, Sl a1 q.wait.length c1)] (fun X => ?_)
        refine runL_callR 36 (sclone_EAsk G a1 c1 q.wait hs1) (fun v G3 L1 hl3 hp => ?_)
        obtain ⟨a4, c4, r3, rfl, hr3, rfl⟩ := hp
        refine act_end (V' := [(0, Pt b1 0), (1, I q.most), (2, Pt b1 1), (3, Sl a1 q.wait.length c1), (4, Sl a4 q.wait.length c4), (5, .agg #[Sr a.name, Sr a.value, U a.n, U a.tag]), (6, Sl (At b5 0) 1 1), (9, I (((q.wait.length : Nat) : Int)))]) ?_
        refine dr_mid [2, 3, 5] [(0,0), (1,10), (9,0)] [] [7] (List.forall_mem_nil _) (List.forall_mem_cons.2 ⟨?_, List.forall_mem_nil _⟩)
        refine act_of 7 [(36, Sl a4 q.wait.length c4), (38, Sl (At b5 0) 1 1)] (fun X => ?_)
        refine runL_app1' (b := b5) (cs := [Sr a.name, Sr a.value, U a.n, U a.tag]) 39 93 0 1 (E := EAsk) a hr3 ⟨rfl, w2, w3, w4, w5⟩ (by have hq_ := queueCheck_iff.1 (by assumption); (try simp only [EAsk, List.length_append, List.length_cons, List.length_nil]); omega) (by have hq_ := queueCheck_iff.1 (by assumption); (try simp only [EAsk, List.length_append, List.length_cons, List.length_nil]); omega) (fun a5 c5 r4 hr4 => ?_)
        refine act_end (V' := [(0, Pt b1 0), (1, I q.most), (2, Pt b1 1), (3, Sl a1 q.wait.length c1), (4, Sl a4 q.wait.length c4), (5, .agg #[Sr a.name, Sr a.value, U a.n, U a.tag]), (6, Sl (At b5 0) 1 1), (7, Sl a5 ((q.wait ++ [a]).length) c5), (8, .agg #[I q.most, Sl a5 ((q.wait ++ [a]).length) c5]), (9, I (((q.wait.length : Nat) : Int)))]) ?_
        refine dr_mid [2, 3, 5] [(0,0), (1,10), (8,0), (9,0)] [] [10] (List.forall_mem_nil _) (List.forall_mem_cons.2 ⟨?_, List.forall_mem_nil _⟩)
        refine act_of 10 [(4, Pt b3 0), (40, .agg #[I q.most, Sl a5 ((q.wait ++ [a]).length) c5])] (fun X => ?_)
        refine runL_st 2 [r4, [Sg b5 0 [Sr a.name, Sr a.value, U a.n, U a.tag]], [Sg b3 0 [I q.most, Sl a5 ((q.wait ++ [a]).length) c5]], [Sg b2 0 [Sr a.name, Sr a.value, U a.n, U a.tag]], [Sg b1 0 [I q.most, Sl a1 q.wait.length c1]]] ?_
        refine act_end0 (V' := [(0, Pt b1 0), (1, I q.most), (2, Pt b1 1), (3, Sl a1 q.wait.length c1), (4, Sl a4 q.wait.length c4), (5, .agg #[Sr a.name, Sr a.value, U a.n, U a.tag]), (6, Sl (At b5 0) 1 1), (7, Sl a5 ((q.wait ++ [a]).length) c5), (8, .agg #[I q.most, Sl a5 ((q.wait ++ [a]).length) c5]), (9, I (((q.wait.length : Nat) : Int))), (11, I (((q.wait.length : Nat) : Int))), (12, I 0)]) ?_
        refine dr_end [0, 1, 2, 3, 5, 8] [(9,0), (11,0), (12,0)] [] [(2, Pt b1 0), (3, Pt b2 0), (4, Pt b3 0), (5, I (((q.wait.length : Nat) : Int))), (6, I 0), (7, I (queueRight a)), (12, Bo (decide (queueCheck q = 0))), (24, Bo ((decide (queueRight a = 0)) && (decide (((q.wait.length : Nat) : Int) = q.most)))), (26, Bo (!decide (queueRight a = 0)))] (List.forall_mem_nil _) ?_
        refine tq_then ?_
        refine tc_ret ?_
        refine tq_frzR (E := EAsk) 0 hr4 (by have hq_ := queueCheck_iff.1 (by assumption); (try simp only [EAsk, List.length_append, List.length_cons, List.length_nil]); omega) (fun G4 hl4 hs3 => ?_)
        have hf4 : queuePut q a = ((⟨q.most, q.wait ++ [a]⟩ : QueueD), ((q.wait.length : Nat) : Int), 0) := by
          unfold queuePut queuePutE queueZ; simp_all; try omega
        refine tq_ret [2, 0, 0] [.agg #[I q.most, Sl a5 ((q.wait ++ [a]).length) c5], I (((q.wait.length : Nat) : Int)), I 0] (bp_rows [] (.cons _ (.cons _ (.cons _ (.cons _ (.cons _ .slnil))))) (Mem.le_trans hl3 hl4) ?_)
        rw [hf4]
        exact ⟨a5, c5, rfl, w1, hs3, rfl⟩
  ·
    try simp only [decide_eq_true_eq, decide_eq_false_iff_not, Bool.and_eq_true, Bool.or_eq_true, Bool.and_eq_false_imp, Bool.or_eq_false_iff, Bool.not_eq_true', Bool.not_eq_false', Bool.not_eq_true, Bool.not_eq_false, beq_iff_eq, beq_eq_false_iff_ne, bne_iff_ne, ne_eq, Decidable.not_not, Int.not_lt, Int.not_le] at h1
    refine tc_skip ?_
    refine tq_then ?_
    refine tc_seq ?_
    refine tc_seq ?_
    refine tc_region ?_
    refine runL_b [0,0,0] [(2, Pt b1 0), (3, Pt b2 0), (4, Pt b3 0), (5, I 0), (6, I 0), (7, I (queueCheck q)), (12, Bo (decide (queueCheck q = 0))), (17, Bo (decide (queueCheck q = 0)))] ?_
    refine runL_b2 (decide (queueCheck q = 0)) (fun bb => [(2, Pt b1 0), (3, Pt b2 0), (4, Pt b3 0), (5, I 0), (6, I 0), (7, I (queueCheck q)), (12, Bo bb), (17, Bo bb)]) [0,6,0,0,6,0,0] [1,1,1,1,1,1,0] (fun bb => [(2, Pt b1 0), (3, Pt b2 0), (4, Pt b3 0), (5, I 0), (6, I 0), (7, I (queueCheck q)), (12, Bo bb), (24, Bo (bb && (decide (((q.wait.length : Nat) : Int) = q.most))))]) ?_
    refine runL_nil ?_
    refine tq_then ?_
    refine tc_cond ((decide (queueCheck q = 0)) && (decide (((q.wait.length : Nat) : Int) = q.most))) (fun h4 => ?_) (fun h4 => ?_)
    ·
      try simp only [decide_eq_true_eq, decide_eq_false_iff_not, Bool.and_eq_true, Bool.or_eq_true, Bool.and_eq_false_imp, Bool.or_eq_false_iff, Bool.not_eq_true', Bool.not_eq_false', Bool.not_eq_true, Bool.not_eq_false, beq_iff_eq, beq_eq_false_iff_ne, bne_iff_ne, ne_eq, Decidable.not_not, Int.not_lt, Int.not_le] at h4
      refine tc_region ?_
      refine runL_b [0] [(2, Pt b1 0), (3, Pt b2 0), (4, Pt b3 0), (5, I 0), (6, I 0), (7, I 7), (12, Bo (decide (queueCheck q = 0))), (24, Bo ((decide (queueCheck q = 0)) && (decide (((q.wait.length : Nat) : Int) = q.most))))] ?_
      refine runL_nil ?_
      refine tq_then ?_
      refine tc_seq ?_
      refine tc_rb [0,0] [(2, Pt b1 0), (3, Pt b2 0), (4, Pt b3 0), (5, I 0), (6, I 0), (7, I 7), (12, Bo (decide (queueCheck q = 0))), (24, Bo ((decide (queueCheck q = 0)) && (decide (((q.wait.length : Nat) : Int) = q.most)))), (26, Bo true)] ?_
      refine tc_cond_true ?_
      refine tc_rb [0,0,3,0,0] [(2, Pt b1 0), (3, Pt b2 0), (4, Pt b3 0), (5, I 0), (6, I 7), (7, I 7), (12, Bo (decide (queueCheck q = 0))), (24, Bo ((decide (queueCheck q = 0)) && (decide (((q.wait.length : Nat) : Int) = q.most)))), (26, Bo true)] ?_
      refine tc_ret ?_
      refine tq_then_ret ?_
      have hf5 : queuePut q a = ((⟨0, []⟩ : QueueD), 0, 7) := by
        unfold queuePut queuePutE queueZ; simp_all; try omega
      refine tq_ret [0, 0, 0] [.agg #[I 0, Sl none 0 0], I 0, I 7] (bp_rows [] (.cons _ (.cons _ (.cons _ .slnil))) (Mem.le_refl _) ?_)
      rw [hf5]
      exact ⟨none, 0, rfl, (by first | assumption | omega | (simp; done) | (simp; omega)), (RS.nil' EAsk G), rfl⟩
    ·
      try simp only [decide_eq_true_eq, decide_eq_false_iff_not, Bool.and_eq_true, Bool.or_eq_true, Bool.and_eq_false_imp, Bool.or_eq_false_iff, Bool.not_eq_true', Bool.not_eq_false', Bool.not_eq_true, Bool.not_eq_false, beq_iff_eq, beq_eq_false_iff_ne, bne_iff_ne, ne_eq, Decidable.not_not, Int.not_lt, Int.not_le] at h4
      refine tc_skip ?_
      refine tq_then ?_
      refine tc_seq ?_
      refine tc_rb [0,0] [(2, Pt b1 0), (3, Pt b2 0), (4, Pt b3 0), (5, I 0), (6, I 0), (7, I (queueCheck q)), (12, Bo (decide (queueCheck q = 0))), (24, Bo ((decide (queueCheck q = 0)) && (decide (((q.wait.length : Nat) : Int) = q.most)))), (26, Bo (!decide (queueCheck q = 0)))] ?_
      refine tc_cond (!decide (queueCheck q = 0)) (fun h5 => ?_) (fun h5 => ?_)
      ·
        try simp only [decide_eq_true_eq, decide_eq_false_iff_not, Bool.and_eq_true, Bool.or_eq_true, Bool.and_eq_false_imp, Bool.or_eq_false_iff, Bool.not_eq_true', Bool.not_eq_false', Bool.not_eq_true, Bool.not_eq_false, beq_iff_eq, beq_eq_false_iff_ne, bne_iff_ne, ne_eq, Decidable.not_not, Int.not_lt, Int.not_le] at h5
        refine tc_rb [0,0,3,0,0] [(2, Pt b1 0), (3, Pt b2 0), (4, Pt b3 0), (5, I 0), (6, I (queueCheck q)), (7, I (queueCheck q)), (12, Bo (decide (queueCheck q = 0))), (24, Bo ((decide (queueCheck q = 0)) && (decide (((q.wait.length : Nat) : Int) = q.most)))), (26, Bo (!decide (queueCheck q = 0)))] ?_
        refine tc_ret ?_
        refine tq_then_ret ?_
        have hf6 : queuePut q a = ((⟨0, []⟩ : QueueD), 0, queueCheck q) := by
          unfold queuePut queuePutE queueZ; simp_all; try omega
        refine tq_ret [0, 0, 0] [.agg #[I 0, Sl none 0 0], I 0, I (queueCheck q)] (bp_rows [] (.cons _ (.cons _ (.cons _ .slnil))) (Mem.le_refl _) ?_)
        rw [hf6]
        exact ⟨none, 0, rfl, (by first | assumption | omega | (simp; done) | (simp; omega)), (RS.nil' EAsk G), rfl⟩
      ·
        try simp only [decide_eq_true_eq, decide_eq_false_iff_not, Bool.and_eq_true, Bool.or_eq_true, Bool.and_eq_false_imp, Bool.or_eq_false_iff, Bool.not_eq_true', Bool.not_eq_false', Bool.not_eq_true, Bool.not_eq_false, beq_iff_eq, beq_eq_false_iff_ne, bne_iff_ne, ne_eq, Decidable.not_not, Int.not_lt, Int.not_le] at h5
        refine tc_skip ?_
        refine tq_then ?_
        refine tc_rb [0,6,0,0] [(2, Pt b1 0), (3, Pt b2 0), (4, Pt b3 0), (5, I 0), (6, I 0), (7, I (queueCheck q)), (8, I (((q.wait.length : Nat) : Int))), (12, Bo (decide (queueCheck q = 0))), (24, Bo ((decide (queueCheck q = 0)) && (decide (((q.wait.length : Nat) : Int) = q.most)))), (26, Bo (!decide (queueCheck q = 0)))] ?_
        refine tc_seq ?_
        refine tc_draw [4, 6, 7, 10] ?_
        refine dr_V [(0, Pt b1 0), (1, I q.most), (2, Pt b1 1), (3, Sl a1 q.wait.length c1), (5, .agg #[Sr a.name, Sr a.value, U a.n, U a.tag]), (9, I (((q.wait.length : Nat) : Int)))] ?_
        refine dr_mid [] [(0,0), (1,6), (2,0), (3,6), (5,4), (9,0)] [] [4, 6] (List.forall_mem_nil _) (List.forall_mem_cons.2 ⟨?_, (List.forall_mem_cons.2 ⟨?_, List.forall_mem_nil _⟩)⟩)
        ·
          refine act_of 4 [(35, Sl a1 q.wait.length c1)] (fun X => ?_)
          refine runL_callR 36 (sclone_EAsk G a1 c1 q.wait hs1) (fun v G5 L1 hl5 hp => ?_)
          obtain ⟨a6, c6, r5, rfl, hr5, rfl⟩ := hp
          refine act_end (V' := [(0, Pt b1 0), (1, I q.most), (2, Pt b1 1), (3, Sl a1 q.wait.length c1), (4, Sl a6 q.wait.length c6), (5, .agg #[Sr a.name, Sr a.value, U a.n, U a.tag]), (9, I (((q.wait.length : Nat) : Int)))]) ?_
          refine dr_mid [2, 3] [(0,0), (1,8), (5,6), (9,0)] [] [6] (List.forall_mem_nil _) (List.forall_mem_cons.2 ⟨?_, List.forall_mem_nil _⟩)
          refine act_of 6 [(37, .agg #[Sr a.name, Sr a.value, U a.n, U a.tag])] (fun X => ?_)
          refine runL_bsl 38 1 #[Sr a.name, Sr a.value, U a.n, U a.tag] 93 (fun b6 => ?_)
          refine act_end (V' := [(0, Pt b1 0), (1, I q.most), (2, Pt b1 1), (3, Sl a1 q.wait.length c1), (4, Sl a6 q.wait.length c6), (5, .agg #[Sr a.name, Sr a.value, U a.n, U a.tag]), (6, Sl (At b6 0) 1 1), (9, I (((q.wait.length : Nat) : Int)))]) ?_
          refine dr_mid [2, 3, 5] [(0,0), (1,10), (9,0)] [] [7] (List.forall_mem_nil _) (List.forall_mem_cons.2 ⟨?_, List.forall_mem_nil _⟩)
          refine act_of 7 [(36, Sl a6 q.wait.length c6), (38, Sl (At b6 0) 1 1)] (fun X => ?_)
          refine runL_app1' (b := b6) (cs := [Sr a.name, Sr a.value, U a.n, U a.tag]) 39 93 1 0 (E := EAsk) a hr5 ⟨rfl, w2, w3, w4, w5⟩ (by have hq_ := queueCheck_iff.1 (by assumption); (try simp only [EAsk, List.length_append, List.length_cons, List.length_nil]); omega) (by have hq_ := queueCheck_iff.1 (by assumption); (try simp only [EAsk, List.length_append, List.length_cons, List.length_nil]); omega) (fun a7 c7 r6 hr6 => ?_)
          refine act_end (V' := [(0, Pt b1 0), (1, I q.most), (2, Pt b1 1), (3, Sl a1 q.wait.length c1), (4, Sl a6 q.wait.length c6), (5, .agg #[Sr a.name, Sr a.value, U a.n, U a.tag]), (6, Sl (At b6 0) 1 1), (7, Sl a7 ((q.wait ++ [a]).length) c7), (8, .agg #[I q.most, Sl a7 ((q.wait ++ [a]).length) c7]), (9, I (((q.wait.length : Nat) : Int)))]) ?_
          refine dr_mid [2, 3, 5] [(0,0), (1,10), (8,0), (9,0)] [] [10] (List.forall_mem_nil _) (List.forall_mem_cons.2 ⟨?_, List.forall_mem_nil _⟩)
          refine act_of 10 [(4, Pt b3 0), (40, .agg #[I q.most, Sl a7 ((q.wait ++ [a]).length) c7])] (fun X => ?_)
          refine runL_st 2 [[Sg b6 0 [Sr a.name, Sr a.value, U a.n, U a.tag]], r6, [Sg b3 0 [I q.most, Sl a7 ((q.wait ++ [a]).length) c7]], [Sg b2 0 [Sr a.name, Sr a.value, U a.n, U a.tag]], [Sg b1 0 [I q.most, Sl a1 q.wait.length c1]]] ?_
          refine act_end0 (V' := [(0, Pt b1 0), (1, I q.most), (2, Pt b1 1), (3, Sl a1 q.wait.length c1), (4, Sl a6 q.wait.length c6), (5, .agg #[Sr a.name, Sr a.value, U a.n, U a.tag]), (6, Sl (At b6 0) 1 1), (7, Sl a7 ((q.wait ++ [a]).length) c7), (8, .agg #[I q.most, Sl a7 ((q.wait ++ [a]).length) c7]), (9, I (((q.wait.length : Nat) : Int))), (11, I (((q.wait.length : Nat) : Int))), (12, I 0)]) ?_
          refine dr_end [0, 1, 2, 3, 5, 8] [(9,0), (11,0), (12,0)] [] [(2, Pt b1 0), (3, Pt b2 0), (4, Pt b3 0), (5, I (((q.wait.length : Nat) : Int))), (6, I 0), (7, I (queueCheck q)), (12, Bo (decide (queueCheck q = 0))), (24, Bo ((decide (queueCheck q = 0)) && (decide (((q.wait.length : Nat) : Int) = q.most)))), (26, Bo (!decide (queueCheck q = 0)))] (List.forall_mem_nil _) ?_
          refine tq_then ?_
          refine tc_ret ?_
          refine tq_frzR (E := EAsk) 1 hr6 (by have hq_ := queueCheck_iff.1 (by assumption); (try simp only [EAsk, List.length_append, List.length_cons, List.length_nil]); omega) (fun G6 hl6 hs4 => ?_)
          have hf7 : queuePut q a = ((⟨q.most, q.wait ++ [a]⟩ : QueueD), ((q.wait.length : Nat) : Int), 0) := by
            unfold queuePut queuePutE queueZ; simp_all; try omega
          refine tq_ret [2, 0, 0] [.agg #[I q.most, Sl a7 ((q.wait ++ [a]).length) c7], I (((q.wait.length : Nat) : Int)), I 0] (bp_rows [] (.cons _ (.cons _ (.cons _ (.cons _ (.cons _ .slnil))))) (Mem.le_trans hl5 hl6) ?_)
          rw [hf7]
          exact ⟨a7, c7, rfl, w1, hs4, rfl⟩
        refine act_of 6 [(37, .agg #[Sr a.name, Sr a.value, U a.n, U a.tag])] (fun X => ?_)
        refine runL_bsl 38 1 #[Sr a.name, Sr a.value, U a.n, U a.tag] 93 (fun b7 => ?_)
        refine act_end (V' := [(0, Pt b1 0), (1, I q.most), (2, Pt b1 1), (3, Sl a1 q.wait.length c1), (5, .agg #[Sr a.name, Sr a.value, U a.n, U a.tag]), (6, Sl (At b7 0) 1 1), (9, I (((q.wait.length : Nat) : Int)))]) ?_
        refine dr_mid [5] [(0,0), (1,8), (2,0), (3,8), (9,0)] [] [4] (List.forall_mem_nil _) (List.forall_mem_cons.2 ⟨?_, List.forall_mem_nil _⟩)
        refine act_of 4 [(35, Sl a1 q.wait.length c1)] (fun X => ?_)
        refine runL_callR 36 (sclone_EAsk G a1 c1 q.wait hs1) (fun v G7 L1 hl7 hp => ?_)
        obtain ⟨a8, c8, r7, rfl, hr7, rfl⟩ := hp
        refine act_end (V' := [(0, Pt b1 0), (1, I q.most), (2, Pt b1 1), (3, Sl a1 q.wait.length c1), (4, Sl a8 q.wait.length c8), (5, .agg #[Sr a.name, Sr a.value, U a.n, U a.tag]), (6, Sl (At b7 0) 1 1), (9, I (((q.wait.length : Nat) : Int)))]) ?_
        refine dr_mid [2, 3, 5] [(0,0), (1,10), (9,0)] [] [7] (List.forall_mem_nil _) (List.forall_mem_cons.2 ⟨?_, List.forall_mem_nil _⟩)
        refine act_of 7 [(36, Sl a8 q.wait.length c8), (38, Sl (At b7 0) 1 1)] (fun X => ?_)
        refine runL_app1' (b := b7) (cs := [Sr a.name, Sr a.value, U a.n, U a.tag]) 39 93 0 1 (E := EAsk) a hr7 ⟨rfl, w2, w3, w4, w5⟩ (by have hq_ := queueCheck_iff.1 (by assumption); (try simp only [EAsk, List.length_append, List.length_cons, List.length_nil]); omega) (by have hq_ := queueCheck_iff.1 (by assumption); (try simp only [EAsk, List.length_append, List.length_cons, List.length_nil]); omega) (fun a9 c9 r8 hr8 => ?_)
        refine act_end (V' := [(0, Pt b1 0), (1, I q.most), (2, Pt b1 1), (3, Sl a1 q.wait.length c1), (4, Sl a8 q.wait.length c8), (5, .agg #[Sr a.name, Sr a.value, U a.n, U a.tag]), (6, Sl (At b7 0) 1 1), (7, Sl a9 ((q.wait ++ [a]).length) c9), (8, .agg #[I q.most, Sl a9 ((q.wait ++ [a]).length) c9]), (9, I (((q.wait.length : Nat) : Int)))]) ?_
        refine dr_mid [2, 3, 5] [(0,0), (1,10), (8,0), (9,0)] [] [10] (List.forall_mem_nil _) (List.forall_mem_cons.2 ⟨?_, List.forall_mem_nil _⟩)
        refine act_of 10 [(4, Pt b3 0), (40, .agg #[I q.most, Sl a9 ((q.wait ++ [a]).length) c9])] (fun X => ?_)
        refine runL_st 2 [r8, [Sg b7 0 [Sr a.name, Sr a.value, U a.n, U a.tag]], [Sg b3 0 [I q.most, Sl a9 ((q.wait ++ [a]).length) c9]], [Sg b2 0 [Sr a.name, Sr a.value, U a.n, U a.tag]], [Sg b1 0 [I q.most, Sl a1 q.wait.length c1]]] ?_
        refine act_end0 (V' := [(0, Pt b1 0), (1, I q.most), (2, Pt b1 1), (3, Sl a1 q.wait.length c1), (4, Sl a8 q.wait.length c8), (5, .agg #[Sr a.name, Sr a.value, U a.n, U a.tag]), (6, Sl (At b7 0) 1 1), (7, Sl a9 ((q.wait ++ [a]).length) c9), (8, .agg #[I q.most, Sl a9 ((q.wait ++ [a]).length) c9]), (9, I (((q.wait.length : Nat) : Int))), (11, I (((q.wait.length : Nat) : Int))), (12, I 0)]) ?_
        refine dr_end [0, 1, 2, 3, 5, 8] [(9,0), (11,0), (12,0)] [] [(2, Pt b1 0), (3, Pt b2 0), (4, Pt b3 0), (5, I (((q.wait.length : Nat) : Int))), (6, I 0), (7, I (queueCheck q)), (12, Bo (decide (queueCheck q = 0))), (24, Bo ((decide (queueCheck q = 0)) && (decide (((q.wait.length : Nat) : Int) = q.most)))), (26, Bo (!decide (queueCheck q = 0)))] (List.forall_mem_nil _) ?_
        refine tq_then ?_
        refine tc_ret ?_
        refine tq_frzR (E := EAsk) 0 hr8 (by have hq_ := queueCheck_iff.1 (by assumption); (try simp only [EAsk, List.length_append, List.length_cons, List.length_nil]); omega) (fun G8 hl8 hs5 => ?_)
        have hf8 : queuePut q a = ((⟨q.most, q.wait ++ [a]⟩ : QueueD), ((q.wait.length : Nat) : Int), 0) := by
          unfold queuePut queuePutE queueZ; simp_all; try omega
        refine tq_ret [2, 0, 0] [.agg #[I q.most, Sl a9 ((q.wait ++ [a]).length) c9], I (((q.wait.length : Nat) : Int)), I 0] (bp_rows [] (.cons _ (.cons _ (.cons _ (.cons _ (.cons _ .slnil))))) (Mem.le_trans hl7 hl8) ?_)
        rw [hf8]
        exact ⟨a9, c9, rfl, w1, hs5, rfl⟩

theorem queueTake_con (G : Mem) (vs_q : List Value) (q : QueueD) (h_q : EQueue.R G vs_q q) (n : Int)  : Con Try.prog 53 #[.agg vs_q.toArray, I n] G [] (fun u G' L' => ∃ (a1 : Option Addr) (c2 : Nat) (a3 : Option Addr) (c4 : Nat), u = .tuple #[.agg #[I (((queueTake q n).1).most), Sl a1 ((((queueTake q n).1).wait).length) c2], Sl a3 (((queueTake q n).2.1).length) c4, I ((queueTake q n).2.2)] ∧ (-9223372036854775808 ≤ (((queueTake q n).1).most) ∧ (((queueTake q n).1).most) < 9223372036854775808) ∧ (RS EAsk G' a1 c2 (((queueTake q n).1).wait)) ∧ (RS EAsk G' a3 c4 ((queueTake q n).2.1)) ∧ L' = []) := by
  obtain ⟨a1, c1, rfl, w1, hs1⟩ := h_q
  refine con_of Try.func53 35 [(0, .agg #[I q.most, Sl a1 q.wait.length c1]), (1, I n)] rfl (fun w0 G0 => ?_)
  refine tc_seq ?_
  refine tc_region ?_
  refine runL_box 2 #[I q.most, Sl a1 q.wait.length c1] 90 (fun b1 => ?_)
  refine runL_box 4 #[I 0, Sl none 0 0] 90 (fun b2 => ?_)
  refine runL_b [0,0] [(1, I n), (2, Pt b1 0), (4, Pt b2 0), (5, Sl none 0 0), (6, I 0)] ?_
  refine runL_nil ?_
  refine tq_then ?_
  refine tc_seq ?_
  refine tc_seq ?_
  refine tc_region ?_
  refine runL_b [4] [(1, I n), (2, Pt b1 0), (4, Pt b2 0), (5, Sl none 0 0), (6, I 0), (8, .agg #[I q.most, Sl a1 q.wait.length c1])] ?_
  refine runL_callV 9 (I (queueCheck q)) (queueCheck_con G [I q.most, Sl a1 q.wait.length c1] q (⟨a1, c1, rfl, w1, hs1⟩)) ?_
  refine runL_b [0] [(1, I n), (2, Pt b1 0), (4, Pt b2 0), (5, Sl none 0 0), (6, I 0), (7, I (queueCheck q))] ?_
  refine runL_nil ?_
  refine tq_then ?_
  refine tc_rb [0,0] [(1, I n), (2, Pt b1 0), (4, Pt b2 0), (5, Sl none 0 0), (6, I 0), (7, I (queueCheck q)), (11, Bo (!decide (queueCheck q = 0)))] ?_
  refine tc_cond (!decide (queueCheck q = 0)) (fun h1 => ?_) (fun h1 => ?_)
  ·
    try simp only [decide_eq_true_eq, decide_eq_false_iff_not, Bool.and_eq_true, Bool.or_eq_true, Bool.and_eq_false_imp, Bool.or_eq_false_iff, Bool.not_eq_true', Bool.not_eq_false', Bool.not_eq_true, Bool.not_eq_false, beq_iff_eq, beq_eq_false_iff_ne, bne_iff_ne, ne_eq, Decidable.not_not, Int.not_lt, Int.not_le] at h1
    refine tc_rb [0,0,3,0,0] [(1, I n), (2, Pt b1 0), (4, Pt b2 0), (5, Sl none 0 0), (6, I (queueCheck q)), (7, I (queueCheck q)), (11, Bo (!decide (queueCheck q = 0)))] ?_
    refine tc_ret ?_
    refine tq_then_ret ?_
    have hf1 : queueTake q n = ((⟨0, []⟩ : QueueD), [], queueCheck q) := by
      unfold queueTake queueZ; simp_all; try omega
    refine tq_ret [0, 0, 0] [.agg #[I 0, Sl none 0 0], Sl none 0 0, I (queueCheck q)] (bp_rows [] (.cons _ (.cons _ .slnil)) (Mem.le_refl _) ?_)
    rw [hf1]
    exact ⟨none, 0, none, 0, rfl, (by first | assumption | omega | (simp; done) | (simp; omega)), (RS.nil' EAsk G), (RS.nil' EAsk G), rfl⟩
  ·
    try simp only [decide_eq_true_eq, decide_eq_false_iff_not, Bool.and_eq_true, Bool.or_eq_true, Bool.and_eq_false_imp, Bool.or_eq_false_iff, Bool.not_eq_true', Bool.not_eq_false', Bool.not_eq_true, Bool.not_eq_false, beq_iff_eq, beq_eq_false_iff_ne, bne_iff_ne, ne_eq, Decidable.not_not, Int.not_lt, Int.not_le] at h1
    refine tc_skip ?_
    refine tq_then ?_
    refine tc_seq ?_
    refine tc_rb [0,0] [(1, I n), (2, Pt b1 0), (4, Pt b2 0), (5, Sl none 0 0), (6, I 0), (7, I (queueCheck q)), (11, Bo (!decide (queueCheck q = 0))), (15, Bo (decide (n < 0)))] ?_
    refine tc_cond (decide (n < 0)) (fun h2 => ?_) (fun h2 => ?_)
    ·
      try simp only [decide_eq_true_eq, decide_eq_false_iff_not, Bool.and_eq_true, Bool.or_eq_true, Bool.and_eq_false_imp, Bool.or_eq_false_iff, Bool.not_eq_true', Bool.not_eq_false', Bool.not_eq_true, Bool.not_eq_false, beq_iff_eq, beq_eq_false_iff_ne, bne_iff_ne, ne_eq, Decidable.not_not, Int.not_lt, Int.not_le] at h2
      refine tc_rb [0,3,0,0] [(1, I n), (2, Pt b1 0), (4, Pt b2 0), (5, Sl none 0 0), (6, I 4), (7, I (queueCheck q)), (11, Bo (!decide (queueCheck q = 0))), (15, Bo (decide (n < 0)))] ?_
      refine tc_ret ?_
      refine tq_then_ret ?_
      have hf2 : queueTake q n = ((⟨0, []⟩ : QueueD), [], 4) := by
        unfold queueTake queueZ; simp_all; try omega
      refine tq_ret [0, 0, 0] [.agg #[I 0, Sl none 0 0], Sl none 0 0, I 4] (bp_rows [] (.cons _ (.cons _ .slnil)) (Mem.le_refl _) ?_)
      rw [hf2]
      exact ⟨none, 0, none, 0, rfl, (by first | assumption | omega | (simp; done) | (simp; omega)), (RS.nil' EAsk G), (RS.nil' EAsk G), rfl⟩
    ·
      try simp only [decide_eq_true_eq, decide_eq_false_iff_not, Bool.and_eq_true, Bool.or_eq_true, Bool.and_eq_false_imp, Bool.or_eq_false_iff, Bool.not_eq_true', Bool.not_eq_false', Bool.not_eq_true, Bool.not_eq_false, beq_iff_eq, beq_eq_false_iff_ne, bne_iff_ne, ne_eq, Decidable.not_not, Int.not_lt, Int.not_le] at h2
      refine tc_skip ?_
      refine tq_then ?_
      refine tc_rb [0,0,4,0,0,0] [(1, I (if (((q.wait.length : Nat) : Int)) < n then (((q.wait.length : Nat) : Int)) else n)), (2, Pt b1 0), (4, Pt b2 0), (5, Sl none 0 0), (6, I 0), (7, I (queueCheck q)), (11, Bo (!decide (queueCheck q = 0))), (15, Bo (decide (n < 0)))] ?_
      have e1 : (if (((q.wait.length : Nat) : Int)) < n then (((q.wait.length : Nat) : Int)) else n) = ((minLen n q.wait : Nat) : Int) := minLen_eq (by omega)
      refine tc_eq (fr' := [(1, I (((minLen n q.wait : Nat) : Int))), (2, Pt b1 0), (4, Pt b2 0), (5, Sl none 0 0), (6, I 0), (7, I (queueCheck q)), (11, Bo (!decide (queueCheck q = 0))), (15, Bo (decide (n < 0)))]) (L' := [[Sg b2 0 [I 0, Sl none 0 0]], [Sg b1 0 [I q.most, Sl a1 q.wait.length c1]]]) (by simp only [e1]) (by rfl) ?_
      clear e1
      refine tc_seq ?_
      obtain ⟨a2, c2, ea1, ec1, en1, eh1, hs2⟩ := RS.reslXD hs1 (minLen n q.wait) (by have := @minLen_le n q.wait; omega)
      obtain ⟨a3, c3, ea2, ec2, en2, eh2, hs3⟩ := RS.reslXT hs1 (minLen n q.wait) (by have := @minLen_le n q.wait; omega)
      refine tc_draw [6, 12, 13] ?_
      refine dr_V [(0, Pt b1 0), (1, I q.most), (2, Pt b1 1), (3, Sl a1 q.wait.length c1), (4, I (((minLen n q.wait : Nat) : Int))), (5, Sl a2 ((q.wait.drop (minLen n q.wait)).length) c2), (8, Pt b1 1), (9, Sl a1 q.wait.length c1), (10, I (((minLen n q.wait : Nat) : Int))), (11, Sl a3 ((q.wait.take (minLen n q.wait)).length) c3)] ?_
      refine dr_mid [] [(0,0), (1,4), (2,0), (3,4), (4,0), (8,0), (9,4), (10,0)] [5, 11] [6] (List.forall_mem_cons.2 ⟨?_, (List.forall_mem_cons.2 ⟨?_, List.forall_mem_nil _⟩)⟩) (List.forall_mem_cons.2 ⟨?_, List.forall_mem_nil _⟩)
      · refine stab_of 5 27 (Sl a2 ((q.wait.drop (minLen n q.wait)).length) c2) [(25, Sl a1 q.wait.length c1), (26, I (((minLen n q.wait : Nat) : Int)))] (fun X => ?_)
        exact runL_reslE (a := a1) (len := q.wait.length) (cap := c1) 27 4 (some (I (((minLen n q.wait : Nat) : Int)))) none (minLen n q.wait) q.wait.length (.inr ⟨_, rfl⟩) (.inl ⟨rfl, rfl⟩) (by have := @minLen_le n q.wait; omega) ea1 ec1 en1 eh1 stab_end
      · refine stab_of 11 33 (Sl a3 ((q.wait.take (minLen n q.wait)).length) c3) [(31, Sl a1 q.wait.length c1), (32, I (((minLen n q.wait : Nat) : Int)))] (fun X => ?_)
        exact runL_reslE (a := a1) (len := q.wait.length) (cap := c1) 33 4 none (some (I (((minLen n q.wait : Nat) : Int)))) 0 (minLen n q.wait) (.inl ⟨rfl, rfl⟩) (.inr ⟨_, rfl⟩) (by exact Nat.zero_le _) ea2 ec2 en2 eh2 stab_end
      refine act_of 6 [(27, Sl a2 ((q.wait.drop (minLen n q.wait)).length) c2)] (fun X => ?_)
      refine runL_callR 28 (sclone_EAsk G a2 c2 (q.wait.drop (minLen n q.wait)) hs2) (fun v G1 L1 hl1 hp => ?_)
      obtain ⟨a4, c4, r1, rfl, hr1, rfl⟩ := hp
      refine act_end (V' := [(0, Pt b1 0), (1, I q.most), (2, Pt b1 1), (3, Sl a1 q.wait.length c1), (4, I (((minLen n q.wait : Nat) : Int))), (5, Sl a2 ((q.wait.drop (minLen n q.wait)).length) c2), (6, Sl a4 ((q.wait.drop (minLen n q.wait)).length) c4), (7, .agg #[I q.most, Sl a4 ((q.wait.drop (minLen n q.wait)).length) c4]), (8, Pt b1 1), (9, Sl a1 q.wait.length c1), (10, I (((minLen n q.wait : Nat) : Int))), (11, Sl a3 ((q.wait.take (minLen n q.wait)).length) c3)]) ?_
      refine dr_mid [2, 3, 4, 5] [(0,0), (1,6), (7,0), (8,0), (9,6), (10,0)] [11] [12] (List.forall_mem_cons.2 ⟨?_, List.forall_mem_nil _⟩) (List.forall_mem_cons.2 ⟨?_, List.forall_mem_nil _⟩)
      · refine stab_of 11 33 (Sl a3 ((q.wait.take (minLen n q.wait)).length) c3) [(31, Sl a1 q.wait.length c1), (32, I (((minLen n q.wait : Nat) : Int)))] (fun X => ?_)
        exact runL_reslE (a := a1) (len := q.wait.length) (cap := c1) 33 4 none (some (I (((minLen n q.wait : Nat) : Int)))) 0 (minLen n q.wait) (.inl ⟨rfl, rfl⟩) (.inr ⟨_, rfl⟩) (by exact Nat.zero_le _) ea2 ec2 en2 eh2 stab_end
      refine act_of 12 [(33, Sl a3 ((q.wait.take (minLen n q.wait)).length) c3)] (fun X => ?_)
      refine runL_callR 34 (sclone_EAsk G1 a3 c3 (q.wait.take (minLen n q.wait)) (hs3.mono hl1)) (fun v G2 L1 hl2 hp => ?_)
      obtain ⟨a6, c6, r2, rfl, hr2, rfl⟩ := hp
      refine act_end (V' := [(0, Pt b1 0), (1, I q.most), (2, Pt b1 1), (3, Sl a1 q.wait.length c1), (4, I (((minLen n q.wait : Nat) : Int))), (5, Sl a2 ((q.wait.drop (minLen n q.wait)).length) c2), (6, Sl a4 ((q.wait.drop (minLen n q.wait)).length) c4), (7, .agg #[I q.most, Sl a4 ((q.wait.drop (minLen n q.wait)).length) c4]), (8, Pt b1 1), (9, Sl a1 q.wait.length c1), (10, I (((minLen n q.wait : Nat) : Int))), (11, Sl a3 ((q.wait.take (minLen n q.wait)).length) c3), (12, Sl a6 ((q.wait.take (minLen n q.wait)).length) c6)]) ?_
      refine dr_mid [2, 3, 4, 5, 8, 9, 10, 11] [(0,0), (1,8), (7,0)] [] [13] (List.forall_mem_nil _) (List.forall_mem_cons.2 ⟨?_, List.forall_mem_nil _⟩)
      refine act_of 13 [(4, Pt b2 0), (29, .agg #[I q.most, Sl a4 ((q.wait.drop (minLen n q.wait)).length) c4])] (fun X => ?_)
      refine runL_st 2 [r2, r1, [Sg b2 0 [I q.most, Sl a4 ((q.wait.drop (minLen n q.wait)).length) c4]], [Sg b1 0 [I q.most, Sl a1 q.wait.length c1]]] ?_
      refine act_end0 (V' := [(0, Pt b1 0), (1, I q.most), (2, Pt b1 1), (3, Sl a1 q.wait.length c1), (4, I (((minLen n q.wait : Nat) : Int))), (5, Sl a2 ((q.wait.drop (minLen n q.wait)).length) c2), (6, Sl a4 ((q.wait.drop (minLen n q.wait)).length) c4), (7, .agg #[I q.most, Sl a4 ((q.wait.drop (minLen n q.wait)).length) c4]), (8, Pt b1 1), (9, Sl a1 q.wait.length c1), (10, I (((minLen n q.wait : Nat) : Int))), (11, Sl a3 ((q.wait.take (minLen n q.wait)).length) c3), (12, Sl a6 ((q.wait.take (minLen n q.wait)).length) c6), (14, Sl a6 ((q.wait.take (minLen n q.wait)).length) c6), (15, I 0)]) ?_
      refine dr_end [0, 1, 2, 3, 4, 5, 7, 8, 9, 10, 11] [(14,0), (15,0)] [] [(1, I (((minLen n q.wait : Nat) : Int))), (2, Pt b1 0), (4, Pt b2 0), (5, Sl a6 ((q.wait.take (minLen n q.wait)).length) c6), (6, I 0), (7, I (queueCheck q)), (11, Bo (!decide (queueCheck q = 0))), (15, Bo (decide (n < 0)))] (List.forall_mem_nil _) ?_
      refine tq_then ?_
      refine tc_ret ?_
      refine tq_frzR (E := EAsk) 1 (hr1.mono hl2) (by exact (hs2).fit) (fun G3 hl3 hs5 => ?_)
      refine tq_frzR (E := EAsk) 0 (hr2.mono hl3) (by exact ((hs3.mono hl1)).fit) (fun G4 hl4 hs6 => ?_)
      have hf3 : queueTake q n = ((⟨q.most, q.wait.drop (minLen n q.wait)⟩ : QueueD), q.wait.take (minLen n q.wait), 0) := by
        unfold queueTake queueZ; simp_all; try omega
      refine tq_ret [2, 0, 0] [.agg #[I q.most, Sl a4 ((q.wait.drop (minLen n q.wait)).length) c4], Sl a6 ((q.wait.take (minLen n q.wait)).length) c6, I 0] (bp_rows [] (.cons _ (.cons _ (.cons _ (.cons _ .slnil)))) (Mem.le_trans (Mem.le_trans (Mem.le_trans hl1 hl2) hl3) hl4) ?_)
      rw [hf3]
      exact ⟨a4, c4, a6, c6, rfl, (by first | assumption | omega | (simp; done) | (simp; omega)), (hs5.mono hl4), hs6, rfl⟩

theorem queueWait_con (G : Mem) (a : Int) (b : Int) (e : Int)  : Con Try.prog 34 #[I a, I b, I e] G [] (fun u G' L' => u = .tuple #[I ((queueWait a b e).1), I ((queueWait a b e).2)]) := by
  refine con_of Try.func34 36 [(0, I a), (1, I b), (2, I e)] rfl (fun w0 G0 => ?_)
  refine tc_rb [0,0] [(0, I a), (1, I b), (2, I e), (6, I 0), (7, I 0)] ?_
  refine tc_seq ?_
  refine tc_seq ?_
  refine tc_region ?_
  refine runL_b [0,0,0] [(0, I a), (1, I b), (2, I e), (6, I 0), (7, I 0), (10, Bo (decide (a < 0)))] ?_
  refine runL_b2 (decide (a < 0)) (fun bb => [(0, I a), (1, I b), (2, I e), (6, I 0), (7, I 0), (10, Bo bb)]) [1,1,0] [0,0,0] (fun bb => [(0, I a), (1, I b), (2, I e), (6, I 0), (7, I 0), (13, Bo (bb || (decide (a > 30))))]) ?_
  refine runL_b [0] [(0, I a), (1, I b), (2, I e), (6, I 0), (7, I 0), (14, Bo ((decide (a < 0)) || (decide (a > 30))))] ?_
  refine runL_b2 ((decide (a < 0)) || (decide (a > 30))) (fun bb => [(0, I a), (1, I b), (2, I e), (6, I 0), (7, I 0), (14, Bo bb)]) [1,1,0] [0,0,0] (fun bb => [(0, I a), (1, I b), (2, I e), (6, I 0), (7, I 0), (17, Bo (bb || (decide (b < 1))))]) ?_
  refine runL_b [0] [(0, I a), (1, I b), (2, I e), (6, I 0), (7, I 0), (18, Bo (((decide (a < 0)) || (decide (a > 30))) || (decide (b < 1))))] ?_
  refine runL_b2 (((decide (a < 0)) || (decide (a > 30))) || (decide (b < 1))) (fun bb => [(0, I a), (1, I b), (2, I e), (6, I 0), (7, I 0), (18, Bo bb)]) [1,1,0] [0,0,0] (fun bb => [(0, I a), (1, I b), (2, I e), (6, I 0), (7, I 0), (21, Bo (bb || (decide (b > 30))))]) ?_
  refine runL_b [0] [(0, I a), (1, I b), (2, I e), (6, I 0), (7, I 0), (22, Bo ((((decide (a < 0)) || (decide (a > 30))) || (decide (b < 1))) || (decide (b > 30))))] ?_
  refine runL_b2 ((((decide (a < 0)) || (decide (a > 30))) || (decide (b < 1))) || (decide (b > 30))) (fun bb => [(0, I a), (1, I b), (2, I e), (6, I 0), (7, I 0), (22, Bo bb)]) [1,1,0] [0,0,0] (fun bb => [(0, I a), (1, I b), (2, I e), (6, I 0), (7, I 0), (25, Bo (bb || (decide (e < 1))))]) ?_
  refine runL_b [0] [(0, I a), (1, I b), (2, I e), (6, I 0), (7, I 0), (26, Bo (((((decide (a < 0)) || (decide (a > 30))) || (decide (b < 1))) || (decide (b > 30))) || (decide (e < 1))))] ?_
  refine runL_b2 (((((decide (a < 0)) || (decide (a > 30))) || (decide (b < 1))) || (decide (b > 30))) || (decide (e < 1))) (fun bb => [(0, I a), (1, I b), (2, I e), (6, I 0), (7, I 0), (26, Bo bb)]) [1,1,0] [0,0,0] (fun bb => [(0, I a), (1, I b), (2, I e), (6, I 0), (7, I 0), (29, Bo (bb || (decide (e > 1000))))]) ?_
  refine runL_nil ?_
  refine tq_then ?_
  refine tc_cond ((((((decide (a < 0)) || (decide (a > 30))) || (decide (b < 1))) || (decide (b > 30))) || (decide (e < 1))) || (decide (e > 1000))) (fun h1 => ?_) (fun h1 => ?_)
  ·
    try simp only [decide_eq_true_eq, decide_eq_false_iff_not, Bool.and_eq_true, Bool.or_eq_true, Bool.and_eq_false_imp, Bool.or_eq_false_iff, Bool.not_eq_true', Bool.not_eq_false', Bool.not_eq_true, Bool.not_eq_false, beq_iff_eq, beq_eq_false_iff_ne, bne_iff_ne, ne_eq, Decidable.not_not, Int.not_lt, Int.not_le] at h1
    refine tc_rb [0,0] [(0, I a), (1, I b), (2, I e), (6, I 0), (7, I 4), (29, Bo ((((((decide (a < 0)) || (decide (a > 30))) || (decide (b < 1))) || (decide (b > 30))) || (decide (e < 1))) || (decide (e > 1000))))] ?_
    refine tc_ret ?_
    refine tq_then_ret ?_
    refine tq_ret [0, 0] [I 0, I 4] (bp_ret (Mem.le_refl _) ?_)
    have hf_ : (queueWait a b e) = (0, 4) := by
      unfold queueWait; first | (rw [if_pos (by omega)]; done) | (rw [if_neg (by omega)]; done)
    (try rw [hf_]); rfl
  ·
    try simp only [decide_eq_true_eq, decide_eq_false_iff_not, Bool.and_eq_true, Bool.or_eq_true, Bool.and_eq_false_imp, Bool.or_eq_false_iff, Bool.not_eq_true', Bool.not_eq_false', Bool.not_eq_true, Bool.not_eq_false, beq_iff_eq, beq_eq_false_iff_ne, bne_iff_ne, ne_eq, Decidable.not_not, Int.not_lt, Int.not_le] at h1
    refine tc_skip ?_
    refine tq_then ?_
    refine tc_seq ?_
    refine tc_region ?_
    refine runL_b [0,0] [(0, I a), (1, I b), (2, I e), (6, I 0), (7, I 0), (29, Bo ((((((decide (a < 0)) || (decide (a > 30))) || (decide (b < 1))) || (decide (b > 30))) || (decide (e < 1))) || (decide (e > 1000)))), (30, I a), (31, I b)] ?_
    refine runL_div (k := .i64) (x := a) (y := b) 32 true ((a).tdiv b) (by first | omega | (have := qdiv_bd (a := a) (b := b) (by omega) (by omega); first | omega | (have := qmul_bd (a := a.tdiv b + 1) (b := e) (by omega) (by omega); omega))) (by simp only [cond_true]; exact IntWalk.i64_in _ (by first | omega | (have := qdiv_bd (a := a) (b := b) (by omega) (by omega); first | omega | (have := qmul_bd (a := a.tdiv b + 1) (b := e) (by omega) (by omega); omega)))) ?_
    refine runL_b [0,0,0,0,0] [(0, I a), (1, I b), (2, I e), (6, I (IntKind.i64.wrap ((IntKind.i64.wrap (((a).tdiv b) + 1)) * e))), (7, I 0), (29, Bo ((((((decide (a < 0)) || (decide (a > 30))) || (decide (b < 1))) || (decide (b > 30))) || (decide (e < 1))) || (decide (e > 1000))))] ?_
    have e1 : IntKind.i64.wrap (((a).tdiv b) + 1) = ((a).tdiv b) + 1 := IntWalk.i64_in _ (by first | omega | (have := qdiv_bd (a := a) (b := b) (by omega) (by omega); first | omega | (have := qmul_bd (a := a.tdiv b + 1) (b := e) (by omega) (by omega); omega)))
    have e2 : IntKind.i64.wrap ((((a).tdiv b) + 1) * e) = (((a).tdiv b) + 1) * e := IntWalk.i64_in _ (by first | omega | (have := qdiv_bd (a := a) (b := b) (by omega) (by omega); first | omega | (have := qmul_bd (a := a.tdiv b + 1) (b := e) (by omega) (by omega); omega)))
    refine runL_eq (fr' := [(0, I a), (1, I b), (2, I e), (6, I ((((a).tdiv b) + 1) * e)), (7, I 0), (29, Bo ((((((decide (a < 0)) || (decide (a > 30))) || (decide (b < 1))) || (decide (b > 30))) || (decide (e < 1))) || (decide (e > 1000))))]) (L' := []) (by simp only [e1, e2]) (by rfl) ?_
    clear e2 e1
    refine runL_nil ?_
    refine tq_then ?_
    refine tc_ret ?_
    refine tq_ret [0, 0] [I ((((a).tdiv b) + 1) * e), I 0] (bp_ret (Mem.le_refl _) ?_)
    have hf_ : (queueWait a b e) = (((((a).tdiv b) + 1) * e), 0) := by
      unfold queueWait; first | (rw [if_pos (by omega)]; done) | (rw [if_neg (by omega)]; done)
    (try rw [hf_]); rfl

theorem queues_con (G : Mem)   : Con Try.prog 33 #[] G [] (fun u G' L' => u = Bo true) := by
  refine con_of Try.func33 33 [] rfl (fun w0 G0 => ?_)
  refine tc_rb [0] [(0, Bo false)] ?_
  refine tc_seq ?_
  refine tc_region ?_
  refine runL_callV 7 (.tuple #[I ((queueWait 3 2 5).1), I ((queueWait 3 2 5).2)]) (queueWait_con G 3 2 5) ?_
  refine runL_b [0,0,0,0,0] [(0, Bo false), (1, I ((queueWait 3 2 5).1)), (2, I ((queueWait 3 2 5).2))] ?_
  refine runL_nil ?_
  refine tq_then ?_
  refine tc_seq ?_
  refine tc_region ?_
  refine runL_b [0,0] [(0, Bo false), (1, I ((queueWait 3 2 5).1)), (2, I ((queueWait 3 2 5).2)), (11, .agg #[I 1, Sl none 0 0]), (12, .agg #[Sr ([97]), Sr ([]), U 0, U 0])] ?_
  refine runL_callR 13 (queuePut_con G [I 1, Sl none 0 0] ((⟨1, []⟩ : QueueD)) (⟨none, 0, rfl, (by first | assumption | omega | (simp; done) | (simp; omega)), (RS.nil' EAsk G)⟩) [Sr ([97]), Sr ([]), U 0, U 0] ((⟨[97], [], 0, 0⟩ : AskD)) (⟨rfl, (Nat.le_of_ble_eq_true rfl), (Nat.le_of_ble_eq_true rfl), (by first | assumption | omega | (simp; done) | (simp; omega)), (by first | assumption | omega | (simp; done) | (simp; omega))⟩)) (fun v G1 L1 hl1 hp => ?_)
  obtain ⟨a1, c1, rfl, w1, hs1, rfl⟩ := hp
  refine runL_b [0,0,0,0] [(0, Bo false), (1, I ((queueWait 3 2 5).1)), (2, I ((queueWait 3 2 5).2)), (14, .agg #[I (((queuePut ((⟨1, []⟩ : QueueD)) ((⟨[97], [], 0, 0⟩ : AskD))).1).most), Sl a1 ((((queuePut ((⟨1, []⟩ : QueueD)) ((⟨[97], [], 0, 0⟩ : AskD))).1).wait).length) c1]), (15, I ((queuePut ((⟨1, []⟩ : QueueD)) ((⟨[97], [], 0, 0⟩ : AskD))).2.1)), (16, I ((queuePut ((⟨1, []⟩ : QueueD)) ((⟨[97], [], 0, 0⟩ : AskD))).2.2))] ?_
  refine runL_box 3 #[I 0, Sl none 0 0] 90 (fun b1 => ?_)
  refine runL_bs [3,0,0] [(0, Bo false), (1, I ((queueWait 3 2 5).1)), (2, I ((queueWait 3 2 5).2)), (3, Pt b1 0), (5, I ((queuePut ((⟨1, []⟩ : QueueD)) ((⟨[97], [], 0, 0⟩ : AskD))).2.2))] [[Sg b1 0 [I (((queuePut ((⟨1, []⟩ : QueueD)) ((⟨[97], [], 0, 0⟩ : AskD))).1).most), Sl a1 ((((queuePut ((⟨1, []⟩ : QueueD)) ((⟨[97], [], 0, 0⟩ : AskD))).1).wait).length) c1]]] ?_
  refine runL_nil ?_
  refine tq_then ?_
  refine tc_seq ?_
  refine tc_region ?_
  refine runL_b [0,0,0] [(0, Bo false), (1, I ((queueWait 3 2 5).1)), (3, Pt b1 0), (5, I ((queuePut ((⟨1, []⟩ : QueueD)) ((⟨[97], [], 0, 0⟩ : AskD))).2.2)), (19, Bo (decide ((queueWait 3 2 5).2 = 0)))] ?_
  refine runL_b2 (decide ((queueWait 3 2 5).2 = 0)) (fun bb => [(0, Bo false), (1, I ((queueWait 3 2 5).1)), (3, Pt b1 0), (5, I ((queuePut ((⟨1, []⟩ : QueueD)) ((⟨[97], [], 0, 0⟩ : AskD))).2.2)), (19, Bo bb)]) [0,0,0] [1,1,0] (fun bb => [(0, Bo false), (3, Pt b1 0), (5, I ((queuePut ((⟨1, []⟩ : QueueD)) ((⟨[97], [], 0, 0⟩ : AskD))).2.2)), (22, Bo (bb && (decide ((queueWait 3 2 5).1 = 10))))]) ?_
  refine runL_b [0] [(0, Bo false), (3, Pt b1 0), (5, I ((queuePut ((⟨1, []⟩ : QueueD)) ((⟨[97], [], 0, 0⟩ : AskD))).2.2)), (23, Bo ((decide ((queueWait 3 2 5).2 = 0)) && (decide ((queueWait 3 2 5).1 = 10))))] ?_
  refine runL_b2 ((decide ((queueWait 3 2 5).2 = 0)) && (decide ((queueWait 3 2 5).1 = 10))) (fun bb => [(0, Bo false), (3, Pt b1 0), (5, I ((queuePut ((⟨1, []⟩ : QueueD)) ((⟨[97], [], 0, 0⟩ : AskD))).2.2)), (23, Bo bb)]) [0,0,0] [1,1,0] (fun bb => [(0, Bo false), (3, Pt b1 0), (26, Bo (bb && (decide ((queuePut ((⟨1, []⟩ : QueueD)) ((⟨[97], [], 0, 0⟩ : AskD))).2.2 = 0))))]) ?_
  refine runL_b [0] [(0, Bo false), (3, Pt b1 0), (27, Bo (((decide ((queueWait 3 2 5).2 = 0)) && (decide ((queueWait 3 2 5).1 = 10))) && (decide ((queuePut ((⟨1, []⟩ : QueueD)) ((⟨[97], [], 0, 0⟩ : AskD))).2.2 = 0))))] ?_
  refine runL_b2 (((decide ((queueWait 3 2 5).2 = 0)) && (decide ((queueWait 3 2 5).1 = 10))) && (decide ((queuePut ((⟨1, []⟩ : QueueD)) ((⟨[97], [], 0, 0⟩ : AskD))).2.2 = 0))) (fun bb => [(0, Bo false), (3, Pt b1 0), (27, Bo bb)]) [0,2,0,0,0] [1,1,1,1,0] (fun bb => [(0, Bo false), (32, Bo (bb && (decide ((((((queuePut ((⟨1, []⟩ : QueueD)) ((⟨[97], [], 0, 0⟩ : AskD))).1).wait).length : Nat) : Int) = 1))))]) ?_
  refine runL_b [0] [(0, Bo ((((decide ((queueWait 3 2 5).2 = 0)) && (decide ((queueWait 3 2 5).1 = 10))) && (decide ((queuePut ((⟨1, []⟩ : QueueD)) ((⟨[97], [], 0, 0⟩ : AskD))).2.2 = 0))) && (decide ((((((queuePut ((⟨1, []⟩ : QueueD)) ((⟨[97], [], 0, 0⟩ : AskD))).1).wait).length : Nat) : Int) = 1))))] ?_
  refine runL_nil ?_
  refine tq_then ?_
  refine tc_ret ?_
  refine tq_ret [0] [Bo ((((decide ((queueWait 3 2 5).2 = 0)) && (decide ((queueWait 3 2 5).1 = 10))) && (decide ((queuePut ((⟨1, []⟩ : QueueD)) ((⟨[97], [], 0, 0⟩ : AskD))).2.2 = 0))) && (decide ((((((queuePut ((⟨1, []⟩ : QueueD)) ((⟨[97], [], 0, 0⟩ : AskD))).1).wait).length : Nat) : Int) = 1)))] (bp_ret hl1 ?_)
  have hf_ : ((((decide ((queueWait 3 2 5).2 = 0)) && (decide ((queueWait 3 2 5).1 = 10))) && (decide ((queuePut ((⟨1, []⟩ : QueueD)) ((⟨[97], [], 0, 0⟩ : AskD))).2.2 = 0))) && (decide ((((((queuePut ((⟨1, []⟩ : QueueD)) ((⟨[97], [], 0, 0⟩ : AskD))).1).wait).length : Nat) : Int) = 1))) = true := by
    decide
  exact congrArg Bo hf_

theorem queueWaits_con (G : Mem) (ahead : Int) (hw_ahead : -9223372036854775808 ≤ ahead ∧ ahead < 9223372036854775808) (more : Int) (hw_more : -9223372036854775808 ≤ more ∧ more < 9223372036854775808) (batch : Int) (hw_batch : -9223372036854775808 ≤ batch ∧ batch < 9223372036854775808) (great : Int) (hw_great : -9223372036854775808 ≤ great ∧ great < 9223372036854775808) (every : Int) (hw_every : -9223372036854775808 ≤ every ∧ every < 9223372036854775808)  : Con Try.prog 7 #[I ahead, I more, I batch, I great, I every] G [] (fun u G' L' => u = Bo true) := by
  refine con_of Try.func7 75 [(0, I ahead), (1, I more), (2, I batch), (3, I great), (4, I every)] rfl (fun w0 G0 => ?_)
  refine tc_rb [0] [(0, I ahead), (1, I more), (2, I batch), (3, I great), (4, I every), (10, Bo false)] ?_
  refine tc_seq ?_
  refine tc_seq ?_
  refine tc_region ?_
  refine runL_callV 17 (Bo true) (queues_con G) ?_
  refine runL_b [0] [(0, I ahead), (1, I more), (2, I batch), (3, I great), (4, I every), (10, Bo false), (18, Bo false)] ?_
  refine runL_nil ?_
  refine tq_then ?_
  refine tc_cond_false ?_
  refine tc_skip ?_
  refine tq_then ?_
  refine tc_seq ?_
  refine tc_region ?_
  refine runL_b [0,0,0] [(0, I ahead), (1, I more), (2, I batch), (3, I great), (4, I every), (10, Bo false), (18, Bo false), (20, I ahead), (21, I batch), (22, I every)] ?_
  refine runL_callV 23 (.tuple #[I ((queueWait ahead batch every).1), I ((queueWait ahead batch every).2)]) (queueWait_con G ahead batch every) ?_
  refine runL_b [0,0,0,0,0] [(0, I ahead), (1, I more), (2, I batch), (3, I great), (4, I every), (10, Bo false), (11, I ((queueWait ahead batch every).1)), (12, I ((queueWait ahead batch every).2)), (18, Bo false)] ?_
  refine runL_nil ?_
  refine tq_then ?_
  refine tc_seq ?_
  refine tc_region ?_
  refine runL_b [0,0,0] [(0, I ahead), (1, I more), (2, I batch), (3, I great), (4, I every), (10, Bo false), (11, I ((queueWait ahead batch every).1)), (12, I ((queueWait ahead batch every).2)), (18, Bo false), (27, I more), (28, I batch), (29, I every)] ?_
  refine runL_callV 30 (.tuple #[I ((queueWait more batch every).1), I ((queueWait more batch every).2)]) (queueWait_con G more batch every) ?_
  refine runL_b [0,0,0,0,0] [(0, I ahead), (1, I more), (2, I batch), (3, I great), (4, I every), (10, Bo false), (11, I ((queueWait ahead batch every).1)), (12, I ((queueWait ahead batch every).2)), (13, I ((queueWait more batch every).1)), (14, I ((queueWait more batch every).2)), (18, Bo false)] ?_
  refine runL_nil ?_
  refine tq_then ?_
  refine tc_seq ?_
  refine tc_region ?_
  refine runL_b [0,0,0] [(0, I ahead), (1, I more), (2, I batch), (3, I great), (4, I every), (10, Bo false), (11, I ((queueWait ahead batch every).1)), (12, I ((queueWait ahead batch every).2)), (13, I ((queueWait more batch every).1)), (14, I ((queueWait more batch every).2)), (18, Bo false), (34, I ahead), (35, I great), (36, I every)] ?_
  refine runL_callV 37 (.tuple #[I ((queueWait ahead great every).1), I ((queueWait ahead great every).2)]) (queueWait_con G ahead great every) ?_
  refine runL_b [0,0,0,0,0] [(0, I ahead), (1, I more), (2, I batch), (3, I great), (4, I every), (10, Bo false), (11, I ((queueWait ahead batch every).1)), (12, I ((queueWait ahead batch every).2)), (13, I ((queueWait more batch every).1)), (14, I ((queueWait more batch every).2)), (15, I ((queueWait ahead great every).1)), (16, I ((queueWait ahead great every).2)), (18, Bo false)] ?_
  refine runL_nil ?_
  refine tq_then ?_
  refine tc_seq ?_
  refine tc_seq ?_
  refine tc_region ?_
  refine runL_b [0,0,0] [(0, I ahead), (1, I more), (2, I batch), (3, I great), (4, I every), (10, Bo false), (11, I ((queueWait ahead batch every).1)), (12, I ((queueWait ahead batch every).2)), (13, I ((queueWait more batch every).1)), (15, I ((queueWait ahead great every).1)), (18, Bo false), (40, I ((queueWait ahead batch every).2)), (41, I ((queueWait more batch every).2)), (42, I ((queueWait ahead great every).2))] ?_
  refine runL_bsl 43 3 #[I ((queueWait ahead batch every).2), I ((queueWait more batch every).2), I ((queueWait ahead great every).2)] 25 (fun b1 => ?_)
  refine runL_frz1 (b := b1) (o := 0) (cs := [I ((queueWait ahead batch every).2), I ((queueWait more batch every).2), I ((queueWait ahead great every).2)]) 0 (fun G1 hl1 hz1 => ?_)
  have hs1 : RS EErr G1 (At b1 0) 3 [(queueWait ahead batch every).2, (queueWait more batch every).2, (queueWait ahead great every).2] := RS.lit [[I ((queueWait ahead batch every).2)], [I ((queueWait more batch every).2)], [I ((queueWait ahead great every).2)]] [(queueWait ahead batch every).2, (queueWait more batch every).2, (queueWait ahead great every).2] ⟨rfl, ⟨rfl, ⟨rfl, trivial⟩⟩⟩ hz1 (Nat.le_of_ble_eq_true rfl) (Nat.le_of_ble_eq_true rfl)
  refine runL_callV 44 (Bo (!(([(queueWait ahead batch every).2, (queueWait more batch every).2, (queueWait ahead great every).2]).any fun x0 => !decide (x0 = 0)))) (good_con G1 (At b1 0) 3 ([(queueWait ahead batch every).2, (queueWait more batch every).2, (queueWait ahead great every).2]) hs1) ?_
  refine runL_b [0,0] [(0, I ahead), (1, I more), (2, I batch), (3, I great), (4, I every), (10, Bo false), (11, I ((queueWait ahead batch every).1)), (12, I ((queueWait ahead batch every).2)), (13, I ((queueWait more batch every).1)), (15, I ((queueWait ahead great every).1)), (18, Bo false), (46, Bo (!(!(([(queueWait ahead batch every).2, (queueWait more batch every).2, (queueWait ahead great every).2]).any fun x0 => !decide (x0 = 0)))))] ?_
  refine runL_b2 (!(!(([(queueWait ahead batch every).2, (queueWait more batch every).2, (queueWait ahead great every).2]).any fun x0 => !decide (x0 = 0)))) (fun bb => [(0, I ahead), (1, I more), (2, I batch), (3, I great), (4, I every), (10, Bo false), (11, I ((queueWait ahead batch every).1)), (12, I ((queueWait ahead batch every).2)), (13, I ((queueWait more batch every).1)), (15, I ((queueWait ahead great every).1)), (18, Bo false), (46, Bo bb)]) [1,1,1,0] [0,0,0,0] (fun bb => [(0, I ahead), (1, I more), (2, I batch), (3, I great), (4, I every), (10, Bo false), (11, I ((queueWait ahead batch every).1)), (12, I ((queueWait ahead batch every).2)), (13, I ((queueWait more batch every).1)), (15, I ((queueWait ahead great every).1)), (18, Bo false), (50, Bo (bb || (decide (more < ahead))))]) ?_
  refine runL_b [0] [(0, I ahead), (1, I more), (2, I batch), (3, I great), (4, I every), (10, Bo false), (11, I ((queueWait ahead batch every).1)), (12, I ((queueWait ahead batch every).2)), (13, I ((queueWait more batch every).1)), (15, I ((queueWait ahead great every).1)), (18, Bo false), (51, Bo ((!(!(([(queueWait ahead batch every).2, (queueWait more batch every).2, (queueWait ahead great every).2]).any fun x0 => !decide (x0 = 0)))) || (decide (more < ahead))))] ?_
  refine runL_b2 ((!(!(([(queueWait ahead batch every).2, (queueWait more batch every).2, (queueWait ahead great every).2]).any fun x0 => !decide (x0 = 0)))) || (decide (more < ahead))) (fun bb => [(0, I ahead), (1, I more), (2, I batch), (3, I great), (4, I every), (10, Bo false), (11, I ((queueWait ahead batch every).1)), (12, I ((queueWait ahead batch every).2)), (13, I ((queueWait more batch every).1)), (15, I ((queueWait ahead great every).1)), (18, Bo false), (51, Bo bb)]) [1,1,1,0] [0,0,0,0] (fun bb => [(0, I ahead), (1, I more), (2, I batch), (3, I great), (4, I every), (10, Bo false), (11, I ((queueWait ahead batch every).1)), (12, I ((queueWait ahead batch every).2)), (13, I ((queueWait more batch every).1)), (15, I ((queueWait ahead great every).1)), (18, Bo false), (55, Bo (bb || (decide (great < batch))))]) ?_
  refine runL_nil ?_
  refine tq_then ?_
  refine tc_cond (((!(!(([(queueWait ahead batch every).2, (queueWait more batch every).2, (queueWait ahead great every).2]).any fun x0 => !decide (x0 = 0)))) || (decide (more < ahead))) || (decide (great < batch))) (fun h1 => ?_) (fun h1 => ?_)
  ·
    try simp only [decide_eq_true_eq, decide_eq_false_iff_not, Bool.and_eq_true, Bool.or_eq_true, Bool.and_eq_false_imp, Bool.or_eq_false_iff, Bool.not_eq_true', Bool.not_eq_false', Bool.not_eq_true, Bool.not_eq_false, beq_iff_eq, beq_eq_false_iff_ne, bne_iff_ne, ne_eq, Decidable.not_not, Int.not_lt, Int.not_le] at h1
    refine tc_seq ?_
    refine tc_region ?_
    refine runL_b [0,0,0] [(0, I ahead), (1, I more), (2, I batch), (3, I great), (4, I every), (10, Bo false), (11, I ((queueWait ahead batch every).1)), (12, I ((queueWait ahead batch every).2)), (13, I ((queueWait more batch every).1)), (15, I ((queueWait ahead great every).1)), (18, Bo false), (55, Bo (((!(!(([(queueWait ahead batch every).2, (queueWait more batch every).2, (queueWait ahead great every).2]).any fun x0 => !decide (x0 = 0)))) || (decide (more < ahead))) || (decide (great < batch)))), (58, Bo (decide ((queueWait ahead batch every).2 = 0)))] ?_
    refine runL_b2 (decide ((queueWait ahead batch every).2 = 0)) (fun bb => [(0, I ahead), (1, I more), (2, I batch), (3, I great), (4, I every), (10, Bo false), (11, I ((queueWait ahead batch every).1)), (12, I ((queueWait ahead batch every).2)), (13, I ((queueWait more batch every).1)), (15, I ((queueWait ahead great every).1)), (18, Bo false), (55, Bo (((!(!(([(queueWait ahead batch every).2, (queueWait more batch every).2, (queueWait ahead great every).2]).any fun x0 => !decide (x0 = 0)))) || (decide (more < ahead))) || (decide (great < batch)))), (58, Bo bb)]) [1,1,0] [0,0,0] (fun bb => [(0, I ahead), (1, I more), (2, I batch), (3, I great), (4, I every), (10, Bo false), (11, I ((queueWait ahead batch every).1)), (12, I ((queueWait ahead batch every).2)), (13, I ((queueWait more batch every).1)), (15, I ((queueWait ahead great every).1)), (18, Bo false), (55, Bo (((!(!(([(queueWait ahead batch every).2, (queueWait more batch every).2, (queueWait ahead great every).2]).any fun x0 => !decide (x0 = 0)))) || (decide (more < ahead))) || (decide (great < batch)))), (61, Bo (bb || (decide ((queueWait ahead batch every).1 = 0))))]) ?_
    refine runL_b [0] [(0, I ahead), (1, I more), (2, I batch), (3, I great), (4, I every), (10, Bo ((decide ((queueWait ahead batch every).2 = 0)) || (decide ((queueWait ahead batch every).1 = 0)))), (11, I ((queueWait ahead batch every).1)), (12, I ((queueWait ahead batch every).2)), (13, I ((queueWait more batch every).1)), (15, I ((queueWait ahead great every).1)), (18, Bo false), (55, Bo (((!(!(([(queueWait ahead batch every).2, (queueWait more batch every).2, (queueWait ahead great every).2]).any fun x0 => !decide (x0 = 0)))) || (decide (more < ahead))) || (decide (great < batch))))] ?_
    refine runL_nil ?_
    refine tq_then ?_
    refine tc_ret ?_
    refine tq_then_ret ?_
    refine tq_ret [0] [Bo ((decide ((queueWait ahead batch every).2 = 0)) || (decide ((queueWait ahead batch every).1 = 0)))] (bp_ret hl1 ?_)
    have hf_ : ((decide ((queueWait ahead batch every).2 = 0)) || (decide ((queueWait ahead batch every).1 = 0))) = true := by
      have q1 := @qw_mono ahead more batch great every; have q2 := @queueWait_err ahead batch every; simp only [List.any_cons, List.any_nil] at h1; grind
    exact congrArg Bo hf_
  ·
    try simp only [decide_eq_true_eq, decide_eq_false_iff_not, Bool.and_eq_true, Bool.or_eq_true, Bool.and_eq_false_imp, Bool.or_eq_false_iff, Bool.not_eq_true', Bool.not_eq_false', Bool.not_eq_true, Bool.not_eq_false, beq_iff_eq, beq_eq_false_iff_ne, bne_iff_ne, ne_eq, Decidable.not_not, Int.not_lt, Int.not_le] at h1
    refine tc_skip ?_
    refine tq_then ?_
    refine tc_seq ?_
    refine tc_region ?_
    refine runL_b [0,0,0,0] [(0, I ahead), (1, I more), (2, I batch), (3, I great), (4, I every), (10, Bo false), (11, I ((queueWait ahead batch every).1)), (12, I ((queueWait ahead batch every).2)), (13, I ((queueWait more batch every).1)), (15, I ((queueWait ahead great every).1)), (18, Bo false), (55, Bo (((!(!(([(queueWait ahead batch every).2, (queueWait more batch every).2, (queueWait ahead great every).2]).any fun x0 => !decide (x0 = 0)))) || (decide (more < ahead))) || (decide (great < batch)))), (65, Bo (decide (every ≤ (queueWait ahead batch every).1)))] ?_
    refine runL_b2 (decide (every ≤ (queueWait ahead batch every).1)) (fun bb => [(0, I ahead), (1, I more), (2, I batch), (3, I great), (4, I every), (10, Bo false), (11, I ((queueWait ahead batch every).1)), (12, I ((queueWait ahead batch every).2)), (13, I ((queueWait more batch every).1)), (15, I ((queueWait ahead great every).1)), (18, Bo false), (55, Bo (((!(!(([(queueWait ahead batch every).2, (queueWait more batch every).2, (queueWait ahead great every).2]).any fun x0 => !decide (x0 = 0)))) || (decide (more < ahead))) || (decide (great < batch)))), (65, Bo bb)]) [0,0,0,0] [1,1,1,0] (fun bb => [(0, I ahead), (1, I more), (2, I batch), (3, I great), (4, I every), (10, Bo false), (11, I ((queueWait ahead batch every).1)), (12, I ((queueWait ahead batch every).2)), (15, I ((queueWait ahead great every).1)), (18, Bo false), (55, Bo (((!(!(([(queueWait ahead batch every).2, (queueWait more batch every).2, (queueWait ahead great every).2]).any fun x0 => !decide (x0 = 0)))) || (decide (more < ahead))) || (decide (great < batch)))), (69, Bo (bb && (decide ((queueWait ahead batch every).1 ≤ (queueWait more batch every).1))))]) ?_
    refine runL_b [0] [(0, I ahead), (1, I more), (2, I batch), (3, I great), (4, I every), (10, Bo false), (11, I ((queueWait ahead batch every).1)), (12, I ((queueWait ahead batch every).2)), (15, I ((queueWait ahead great every).1)), (18, Bo false), (55, Bo (((!(!(([(queueWait ahead batch every).2, (queueWait more batch every).2, (queueWait ahead great every).2]).any fun x0 => !decide (x0 = 0)))) || (decide (more < ahead))) || (decide (great < batch)))), (70, Bo ((decide (every ≤ (queueWait ahead batch every).1)) && (decide ((queueWait ahead batch every).1 ≤ (queueWait more batch every).1))))] ?_
    refine runL_b2 ((decide (every ≤ (queueWait ahead batch every).1)) && (decide ((queueWait ahead batch every).1 ≤ (queueWait more batch every).1))) (fun bb => [(0, I ahead), (1, I more), (2, I batch), (3, I great), (4, I every), (10, Bo false), (11, I ((queueWait ahead batch every).1)), (12, I ((queueWait ahead batch every).2)), (15, I ((queueWait ahead great every).1)), (18, Bo false), (55, Bo (((!(!(([(queueWait ahead batch every).2, (queueWait more batch every).2, (queueWait ahead great every).2]).any fun x0 => !decide (x0 = 0)))) || (decide (more < ahead))) || (decide (great < batch)))), (70, Bo bb)]) [0,0,0,0] [1,1,1,0] (fun bb => [(0, I ahead), (1, I more), (2, I batch), (3, I great), (4, I every), (10, Bo false), (11, I ((queueWait ahead batch every).1)), (12, I ((queueWait ahead batch every).2)), (18, Bo false), (55, Bo (((!(!(([(queueWait ahead batch every).2, (queueWait more batch every).2, (queueWait ahead great every).2]).any fun x0 => !decide (x0 = 0)))) || (decide (more < ahead))) || (decide (great < batch)))), (74, Bo (bb && (decide ((queueWait ahead great every).1 ≤ (queueWait ahead batch every).1))))]) ?_
    refine runL_b [0] [(0, I ahead), (1, I more), (2, I batch), (3, I great), (4, I every), (10, Bo (((decide (every ≤ (queueWait ahead batch every).1)) && (decide ((queueWait ahead batch every).1 ≤ (queueWait more batch every).1))) && (decide ((queueWait ahead great every).1 ≤ (queueWait ahead batch every).1)))), (11, I ((queueWait ahead batch every).1)), (12, I ((queueWait ahead batch every).2)), (18, Bo false), (55, Bo (((!(!(([(queueWait ahead batch every).2, (queueWait more batch every).2, (queueWait ahead great every).2]).any fun x0 => !decide (x0 = 0)))) || (decide (more < ahead))) || (decide (great < batch))))] ?_
    refine runL_nil ?_
    refine tq_then ?_
    refine tc_ret ?_
    refine tq_ret [0] [Bo (((decide (every ≤ (queueWait ahead batch every).1)) && (decide ((queueWait ahead batch every).1 ≤ (queueWait more batch every).1))) && (decide ((queueWait ahead great every).1 ≤ (queueWait ahead batch every).1)))] (bp_ret hl1 ?_)
    have hf_ : (((decide (every ≤ (queueWait ahead batch every).1)) && (decide ((queueWait ahead batch every).1 ≤ (queueWait more batch every).1))) && (decide ((queueWait ahead great every).1 ≤ (queueWait ahead batch every).1))) = true := by
      have q1 := @qw_mono ahead more batch great every; have q2 := @queueWait_err ahead batch every; simp only [List.any_cons, List.any_nil] at h1; grind
    exact congrArg Bo hf_

theorem queueOrder_con (G : Mem) (most : Int) (hw_most : -9223372036854775808 ≤ most ∧ most < 9223372036854775808) (a_l : Option Addr) (c_l : Nat) (l : List AskD) (h_l : RS EAsk G a_l c_l l) (a_takes : Option Addr) (c_takes : Nat) (takes : List Int) (h_takes : RS EI G a_takes c_takes takes) (hf_l : l.length * 48 ≤ 140737488351232) (hf_takes : takes.length * 8 ≤ 140737488351232) : Con Try.prog 14 #[I most, Sl a_l l.length c_l, Sl a_takes takes.length c_takes] G [] (fun u G' L' => u = Bo true) := by
  refine con_of Try.func14 95 [(0, I most), (1, Sl a_l l.length c_l), (2, Sl a_takes takes.length c_takes)] rfl (fun w0 G0 => ?_)
  refine tc_rb [0] [(0, I most), (1, Sl a_l l.length c_l), (2, Sl a_takes takes.length c_takes), (6, Bo false)] ?_
  refine tc_seq ?_
  refine tc_seq ?_
  refine tc_region ?_
  refine runL_callV 18 (Bo true) (queues_con G) ?_
  refine runL_b [0] [(0, I most), (1, Sl a_l l.length c_l), (2, Sl a_takes takes.length c_takes), (6, Bo false), (19, Bo false)] ?_
  refine runL_nil ?_
  refine tq_then ?_
  refine tc_cond_false ?_
  refine tc_skip ?_
  refine tq_then ?_
  refine tc_seq ?_
  refine tc_region ?_
  refine runL_b [0,0] [(0, I most), (1, Sl a_l l.length c_l), (2, Sl a_takes takes.length c_takes), (6, Bo false), (19, Bo false), (21, .agg #[I most, Sl none 0 0])] ?_
  refine runL_box 7 #[I 0, Sl none 0 0] 90 (fun b1 => ?_)
  refine runL_bs [3] [(0, I most), (1, Sl a_l l.length c_l), (2, Sl a_takes takes.length c_takes), (6, Bo false), (7, Pt b1 0), (19, Bo false)] [[Sg b1 0 [I most, Sl none 0 0]]] ?_
  refine runL_nil ?_
  refine tq_then ?_
  refine tc_seq ?_
  refine tc_seq ?_
  refine tc_region ?_
  refine runL_b [2] [(0, I most), (1, Sl a_l l.length c_l), (2, Sl a_takes takes.length c_takes), (6, Bo false), (7, Pt b1 0), (19, Bo false), (22, .agg #[I most, Sl none 0 0])] ?_
  refine runL_callV 23 (I (queueCheck ((⟨most, []⟩ : QueueD)))) (queueCheck_con G [I most, Sl none 0 0] ((⟨most, []⟩ : QueueD)) (⟨none, 0, rfl, hw_most, (RS.nil' EAsk G)⟩)) ?_
  refine runL_b [0] [(0, I most), (1, Sl a_l l.length c_l), (2, Sl a_takes takes.length c_takes), (6, Bo false), (7, Pt b1 0), (19, Bo false), (24, Bo (!decide (queueCheck ((⟨most, []⟩ : QueueD)) = 0)))] ?_
  refine runL_nil ?_
  refine tq_then ?_
  refine tc_cond (!decide (queueCheck ((⟨most, []⟩ : QueueD)) = 0)) (fun h1 => ?_) (fun h1 => ?_)
  ·
    try simp only [decide_eq_true_eq, decide_eq_false_iff_not, Bool.and_eq_true, Bool.or_eq_true, Bool.and_eq_false_imp, Bool.or_eq_false_iff, Bool.not_eq_true', Bool.not_eq_false', Bool.not_eq_true, Bool.not_eq_false, beq_iff_eq, beq_eq_false_iff_ne, bne_iff_ne, ne_eq, Decidable.not_not, Int.not_lt, Int.not_le] at h1
    refine tc_rb [0] [(0, I most), (1, Sl a_l l.length c_l), (2, Sl a_takes takes.length c_takes), (6, Bo true), (7, Pt b1 0), (19, Bo false), (24, Bo (!decide (queueCheck ((⟨most, []⟩ : QueueD)) = 0)))] ?_
    refine tc_ret ?_
    refine tq_then_ret ?_
    refine tq_ret [0] [Bo true] (bp_ret (Mem.le_refl _) ?_)
    rfl
  ·
    try simp only [decide_eq_true_eq, decide_eq_false_iff_not, Bool.and_eq_true, Bool.or_eq_true, Bool.and_eq_false_imp, Bool.or_eq_false_iff, Bool.not_eq_true', Bool.not_eq_false', Bool.not_eq_true, Bool.not_eq_false, beq_iff_eq, beq_eq_false_iff_ne, bne_iff_ne, ne_eq, Decidable.not_not, Int.not_lt, Int.not_le] at h1
    refine tc_skip ?_
    refine tq_then ?_
    refine tc_rb [0,0] [(0, I most), (1, Sl a_l l.length c_l), (2, Sl a_takes takes.length c_takes), (6, Bo false), (7, Pt b1 0), (8, Sl none 0 0), (9, Sl none 0 0), (19, Bo false), (24, Bo (!decide (queueCheck ((⟨most, []⟩ : QueueD)) = 0)))] ?_
    refine tc_seq ?_
    refine tc_rb [0,0,0] [(0, I most), (2, Sl a_takes takes.length c_takes), (6, Bo false), (7, Pt b1 0), (8, Sl none 0 0), (9, Sl none 0 0), (19, Bo false), (24, Bo (!decide (queueCheck ((⟨most, []⟩ : QueueD)) = 0))), (25, Sl a_l l.length c_l), (26, I (((l.length : Nat) : Int))), (27, I 0)] ?_
    refine tc_block ?_
    refine tc_empty ?_
    refine tc_empty ?_
    have hlm_h_takes : takes.length ≤ 9223372036854775807 := Nat.le_trans (h_takes).le (h_takes).max
    have hlm_h_l : l.length ≤ 9223372036854775807 := Nat.le_trans (h_l).le (h_l).max
    refine tc_loop (σ := Nat × Option Addr × Nat × List Seg × List AskD × Option Addr × Nat × List Seg × List AskD × QueueD × Option Addr × Nat × Mem) (fun q_ => (Mem.le G q_.2.2.2.2.2.2.2.2.2.2.2.2) ∧ (q_.1 ≤ l.length) ∧ (TRow EAsk q_.2.2.2.2.2.2.2.2.2.2.2.2 q_.2.1 q_.2.2.1 q_.2.2.2.2.1 q_.2.2.2.1) ∧ (TRow EAsk q_.2.2.2.2.2.2.2.2.2.2.2.2 q_.2.2.2.2.2.1 q_.2.2.2.2.2.2.1 q_.2.2.2.2.2.2.2.2.1 q_.2.2.2.2.2.2.2.1) ∧ (-9223372036854775808 ≤ q_.2.2.2.2.2.2.2.2.2.1.most ∧ q_.2.2.2.2.2.2.2.2.2.1.most < 9223372036854775808) ∧ (RS EAsk q_.2.2.2.2.2.2.2.2.2.2.2.2 q_.2.2.2.2.2.2.2.2.2.2.1 q_.2.2.2.2.2.2.2.2.2.2.2.1 q_.2.2.2.2.2.2.2.2.2.1.wait) ∧ (OrdInv most q_.1 q_.2.2.2.2.2.2.2.2.2.1 q_.2.2.2.2.1 q_.2.2.2.2.2.2.2.2.1)) (fun q_ => [(0, I most), (2, Sl a_takes takes.length c_takes), (7, Pt b1 0), (8, Sl q_.2.1 q_.2.2.2.2.1.length q_.2.2.1), (9, Sl q_.2.2.2.2.2.1 q_.2.2.2.2.2.2.2.2.1.length q_.2.2.2.2.2.2.1), (19, Bo false), (24, Bo (!decide (queueCheck ((⟨most, []⟩ : QueueD)) = 0))), (25, Sl a_l l.length c_l), (26, I (((l.length : Nat) : Int))), (27, I ((q_.1 : Int)))]) (fun q_ => q_.2.2.2.2.2.2.2.2.2.2.2.2) (fun q_ => [q_.2.2.2.2.2.2.2.1, q_.2.2.2.1, [Sg b1 0 [I q_.2.2.2.2.2.2.2.2.2.1.most, Sl q_.2.2.2.2.2.2.2.2.2.2.1 q_.2.2.2.2.2.2.2.2.2.1.wait.length q_.2.2.2.2.2.2.2.2.2.2.2.1]]]) (fun q_ => l.length - q_.1) ((0, none, 0, [], [], none, 0, [], [], (⟨most, []⟩ : QueueD), none, 0, G)) ⟨(Mem.le_refl _), (by (try dsimp only); first | exact Nat.zero_le _ | omega | simp), (TRow.none EAsk _), (TRow.none EAsk _), hw_most, (RS.nil' EAsk G), (ord_start (by assumption))⟩ (fun q_ hs => ?_)
    obtain ⟨k, ai, ci, ri, xi, ao, co, ro, xo, q, aq0, cq0, g⟩ := q_
    obtain ⟨hle, hi, hri, hro, hq0, hq1, hI⟩ := hs
    dsimp only at hle hi hri hro hq0 hq1 hI
    refine tc_eq (fr' := [(0, I most), (2, Sl a_takes takes.length c_takes), (7, Pt b1 0), (8, Sl ai xi.length ci), (9, Sl ao xo.length co), (19, Bo false), (24, Bo (!decide (queueCheck ((⟨most, []⟩ : QueueD)) = 0))), (25, Sl a_l l.length c_l), (26, I (((l.length : Nat) : Int))), (27, I ((k : Int)))]) (L' := [ro, ri, [Sg b1 0 [I q.most, Sl aq0 q.wait.length cq0]]]) rfl rfl ?_
    refine tc_rb [0] [(0, I most), (2, Sl a_takes takes.length c_takes), (7, Pt b1 0), (8, Sl ai xi.length ci), (9, Sl ao xo.length co), (19, Bo false), (24, Bo (!decide (queueCheck ((⟨most, []⟩ : QueueD)) = 0))), (25, Sl a_l l.length c_l), (26, I (((l.length : Nat) : Int))), (27, I ((k : Int))), (28, Bo (decide ((k : Int) < ((l.length : Nat) : Int))))] ?_
    refine tc_seq ?_
    refine tc_cond (decide ((k : Int) < ((l.length : Nat) : Int))) (fun h2 => ?_) (fun h2 => ?_)
    ·
      try simp only [decide_eq_true_eq, decide_eq_false_iff_not, Bool.and_eq_true, Bool.or_eq_true, Bool.and_eq_false_imp, Bool.or_eq_false_iff, Bool.not_eq_true', Bool.not_eq_false', Bool.not_eq_true, Bool.not_eq_false, beq_iff_eq, beq_eq_false_iff_ne, bne_iff_ne, ne_eq, Decidable.not_not, Int.not_lt, Int.not_le] at h2
      refine tc_skip ?_
      refine tq_then ?_
      refine tc_seq ?_
      refine tc_block ?_
      refine tc_seq ?_
      refine tc_region ?_
      refine runL_b [0] [(0, I most), (2, Sl a_takes takes.length c_takes), (7, Pt b1 0), (8, Sl ai xi.length ci), (9, Sl ao xo.length co), (19, Bo false), (24, Bo (!decide (queueCheck ((⟨most, []⟩ : QueueD)) = 0))), (25, Sl a_l l.length c_l), (26, I (((l.length : Nat) : Int))), (27, I ((k : Int))), (28, Bo (decide ((k : Int) < ((l.length : Nat) : Int)))), (29, I ((k : Int)))] ?_
      obtain ⟨b2, o1, rfl⟩ := RS.addr (h_l.mono hle) (k := k) (by first | omega | (have := hI.olen; omega))
      obtain ⟨x1, hx1⟩ := getX (l := l) (k := k) (by first | omega | (have := hI.olen; omega))
      obtain ⟨_, ⟨rfl, w1, w2, w3, w4⟩, hc1⟩ := RS.get (h_l.mono hle) hx1
      refine runL_idx (b := b2) (off := o1) (len := l.length) (cap := c_l) (ik := .i64) 30 93 4 k (by first | omega | (have := hI.olen; omega)) ?_
      refine runL_ldG 31 93 (cs := [Sr x1.name, Sr x1.value, U x1.n, U x1.tag]) 0 (.agg #[Sr x1.name, Sr x1.value, U x1.n, U x1.tag]) hc1 ?_
      refine runL_box 11 #[Sr ([]), Sr ([]), U 0, U 0] 93 (fun b3 => ?_)
      refine runL_bs [0,3] [(0, I most), (2, Sl a_takes takes.length c_takes), (7, Pt b1 0), (8, Sl ai xi.length ci), (9, Sl ao xo.length co), (10, I ((k : Int))), (11, Pt b3 0), (19, Bo false), (24, Bo (!decide (queueCheck ((⟨most, []⟩ : QueueD)) = 0))), (25, Sl (At b2 o1) l.length c_l), (26, I (((l.length : Nat) : Int))), (27, I ((k : Int))), (28, Bo (decide ((k : Int) < ((l.length : Nat) : Int))))] [[Sg b3 0 [Sr x1.name, Sr x1.value, U x1.n, U x1.tag]], ro, ri, [Sg b1 0 [I q.most, Sl aq0 q.wait.length cq0]]] ?_
      refine runL_nil ?_
      refine tq_then ?_
      refine tc_seq ?_
      refine tc_rb [0,0] [(0, I most), (2, Sl a_takes takes.length c_takes), (7, Pt b1 0), (8, Sl ai xi.length ci), (9, Sl ao xo.length co), (10, I ((k : Int))), (11, Pt b3 0), (19, Bo false), (24, Bo (!decide (queueCheck ((⟨most, []⟩ : QueueD)) = 0))), (25, Sl (At b2 o1) l.length c_l), (26, I (((l.length : Nat) : Int))), (27, I ((k : Int))), (28, Bo (decide ((k : Int) < ((l.length : Nat) : Int)))), (33, Bo (decide ((k : Int) ≥ 100)))] ?_
      refine tc_cond (decide ((k : Int) ≥ 100)) (fun h3 => ?_) (fun h3 => ?_)
      ·
        try simp only [decide_eq_true_eq, decide_eq_false_iff_not, Bool.and_eq_true, Bool.or_eq_true, Bool.and_eq_false_imp, Bool.or_eq_false_iff, Bool.not_eq_true', Bool.not_eq_false', Bool.not_eq_true, Bool.not_eq_false, beq_iff_eq, beq_eq_false_iff_ne, bne_iff_ne, ne_eq, Decidable.not_not, Int.not_lt, Int.not_le] at h3
        refine tc_exit ?_
        refine tq_then_exit ?_
        refine tq_block_out rfl ?_
        refine tq_then_exit ?_
        refine tq_rnd_exit ?_
        refine tq_block_here ?_
        refine tq_then ?_
        refine tc_seq ?_
        refine tc_region ?_
        refine runL_b [0,0,0,8] [(0, I most), (2, Sl a_takes takes.length c_takes), (7, Pt b1 0), (8, Sl ai xi.length ci), (9, Sl ao xo.length co), (10, I ((k : Int))), (11, Pt b3 0), (19, Bo false), (24, Bo (!decide (queueCheck ((⟨most, []⟩ : QueueD)) = 0))), (25, Sl (At b2 o1) l.length c_l), (26, I (((l.length : Nat) : Int))), (27, I ((k : Int))), (28, Bo (decide ((k : Int) < ((l.length : Nat) : Int)))), (33, Bo (decide ((k : Int) ≥ 100))), (76, Sl ai xi.length ci), (77, Sl ao xo.length co), (79, Sl aq0 q.wait.length cq0)] ?_
        refine runL_bsl 80 2 #[Sl ao xo.length co, Sl aq0 q.wait.length cq0] 88 (fun b4 => ?_)
        refine runL_frzR (E := EAsk) 2 hro (by have := hI.olen; simp only [EAsk]; omega) (fun G1 hl1 hs1 => ?_)
        refine runL_frz1 (b := b4) (o := 0) (cs := [Sl ao xo.length co, Sl aq0 q.wait.length cq0]) 0 (fun G2 hl2 hz1 => ?_)
        have hs2 : RS ESlAsk G2 (At b4 0) 2 [xo, q.wait] := RS.lit [[Sl ao xo.length co], [Sl aq0 q.wait.length cq0]] [xo, q.wait] ⟨⟨ao, co, rfl, (hs1.mono hl2)⟩, ⟨⟨aq0, cq0, rfl, (hq1.mono (Mem.le_trans hl1 hl2))⟩, trivial⟩⟩ hz1 (Nat.le_of_ble_eq_true rfl) (Nat.le_of_ble_eq_true rfl)
        refine runL_callR 81 (sconcat_EAsk G2 (At b4 0) 2 ([xo, q.wait]) hs2 (by have := hI.olen; simp; omega)) (fun v G3 L1 hl3 hp => ?_)
        obtain ⟨a1, c1, r1, rfl, hr1, rfl⟩ := hp
        refine runL_frzR (E := EAsk) 4 (hri.mono (Mem.le_trans (Mem.le_trans hl1 hl2) hl3)) (by have := hI.olen; simp only [EAsk]; omega) (fun G4 hl4 hs3 => ?_)
        refine runL_frzR (E := EAsk) 0 (hr1.mono hl4) (by have := hI.olen; (simp only [lconcat, EAsk, List.flatten_cons, List.flatten_nil, List.length_append, List.length_nil]; omega)) (fun G5 hl5 hs4 => ?_)
        refine runL_callV 82 (Bo (decide (xi = lconcat ([xo, q.wait])))) (seq_EAsk G5 ai ci xi (hs3.mono hl5) a1 c1 (lconcat ([xo, q.wait])) hs4) ?_
        refine runL_b [0] [(0, I most), (2, Sl a_takes takes.length c_takes), (7, Pt b1 0), (8, Sl ai xi.length ci), (9, Sl ao xo.length co), (10, I ((k : Int))), (11, Pt b3 0), (19, Bo false), (24, Bo (!decide (queueCheck ((⟨most, []⟩ : QueueD)) = 0))), (25, Sl (At b2 o1) l.length c_l), (26, I (((l.length : Nat) : Int))), (27, I ((k : Int))), (28, Bo (decide ((k : Int) < ((l.length : Nat) : Int)))), (33, Bo (decide ((k : Int) ≥ 100))), (83, Bo (decide (xi = lconcat ([xo, q.wait]))))] ?_
        refine runL_b2 (decide (xi = lconcat ([xo, q.wait]))) (fun bb => [(0, I most), (2, Sl a_takes takes.length c_takes), (7, Pt b1 0), (8, Sl ai xi.length ci), (9, Sl ao xo.length co), (10, I ((k : Int))), (11, Pt b3 0), (19, Bo false), (24, Bo (!decide (queueCheck ((⟨most, []⟩ : QueueD)) = 0))), (25, Sl (At b2 o1) l.length c_l), (26, I (((l.length : Nat) : Int))), (27, I ((k : Int))), (28, Bo (decide ((k : Int) < ((l.length : Nat) : Int)))), (33, Bo (decide ((k : Int) ≥ 100))), (83, Bo bb)]) [0,12,0,0,0,0] [1,1,1,1,1,0] (fun bb => [(0, I most), (2, Sl a_takes takes.length c_takes), (7, Pt b1 0), (8, Sl ai xi.length ci), (9, Sl ao xo.length co), (10, I ((k : Int))), (11, Pt b3 0), (19, Bo false), (24, Bo (!decide (queueCheck ((⟨most, []⟩ : QueueD)) = 0))), (25, Sl (At b2 o1) l.length c_l), (26, I (((l.length : Nat) : Int))), (27, I ((k : Int))), (28, Bo (decide ((k : Int) < ((l.length : Nat) : Int)))), (33, Bo (decide ((k : Int) ≥ 100))), (89, Bo (bb && (decide (((q.wait.length : Nat) : Int) ≤ most))))]) ?_
        refine runL_b [0] [(0, I most), (2, Sl a_takes takes.length c_takes), (7, Pt b1 0), (8, Sl ai xi.length ci), (9, Sl ao xo.length co), (10, I ((k : Int))), (11, Pt b3 0), (19, Bo false), (24, Bo (!decide (queueCheck ((⟨most, []⟩ : QueueD)) = 0))), (25, Sl (At b2 o1) l.length c_l), (26, I (((l.length : Nat) : Int))), (27, I ((k : Int))), (28, Bo (decide ((k : Int) < ((l.length : Nat) : Int)))), (33, Bo (decide ((k : Int) ≥ 100))), (90, Bo ((decide (xi = lconcat ([xo, q.wait]))) && (decide (((q.wait.length : Nat) : Int) ≤ most))))] ?_
        refine runL_cases (fun bb => [(0, I most), (2, Sl a_takes takes.length c_takes), (7, Pt b1 0), (8, Sl ai xi.length ci), (9, Sl ao xo.length co), (10, I ((k : Int))), (11, Pt b3 0), (19, Bo false), (24, Bo (!decide (queueCheck ((⟨most, []⟩ : QueueD)) = 0))), (25, Sl (At b2 o1) l.length c_l), (26, I (((l.length : Nat) : Int))), (27, I ((k : Int))), (28, Bo (decide ((k : Int) < ((l.length : Nat) : Int)))), (33, Bo (decide ((k : Int) ≥ 100))), (90, Bo bb)]) ((decide (xi = lconcat ([xo, q.wait]))) && (decide (((q.wait.length : Nat) : Int) ≤ most))) (fun h4 => ?_) (fun h4 => ?_)
        ·
          try simp only [decide_eq_true_eq, decide_eq_false_iff_not, Bool.and_eq_true, Bool.or_eq_true, Bool.and_eq_false_imp, Bool.or_eq_false_iff, Bool.not_eq_true', Bool.not_eq_false', Bool.not_eq_true, Bool.not_eq_false, beq_iff_eq, beq_eq_false_iff_ne, bne_iff_ne, ne_eq, Decidable.not_not, Int.not_lt, Int.not_le] at h4
          refine runL_b [12] [(0, I most), (2, Sl a_takes takes.length c_takes), (7, Pt b1 0), (8, Sl ai xi.length ci), (9, Sl ao xo.length co), (10, I ((k : Int))), (11, Pt b3 0), (19, Bo false), (24, Bo (!decide (queueCheck ((⟨most, []⟩ : QueueD)) = 0))), (25, Sl (At b2 o1) l.length c_l), (26, I (((l.length : Nat) : Int))), (27, I ((k : Int))), (28, Bo (decide ((k : Int) < ((l.length : Nat) : Int)))), (33, Bo (decide ((k : Int) ≥ 100))), (90, Bo true), (91, .agg #[I q.most, Sl aq0 q.wait.length cq0])] ?_
          refine runL_callV 92 (I (queueCheck q)) (queueCheck_con G5 [I q.most, Sl aq0 q.wait.length cq0] q (⟨aq0, cq0, rfl, hq0, (hq1.mono (Mem.le_trans (Mem.le_trans (Mem.le_trans (Mem.le_trans hl1 hl2) hl3) hl4) hl5))⟩)) ?_
          refine runL_b [0,0,0] [(0, I most), (2, Sl a_takes takes.length c_takes), (6, Bo (decide (queueCheck q = 0))), (7, Pt b1 0), (8, Sl ai xi.length ci), (9, Sl ao xo.length co), (10, I ((k : Int))), (11, Pt b3 0), (19, Bo false), (24, Bo (!decide (queueCheck ((⟨most, []⟩ : QueueD)) = 0))), (25, Sl (At b2 o1) l.length c_l), (26, I (((l.length : Nat) : Int))), (27, I ((k : Int))), (28, Bo (decide ((k : Int) < ((l.length : Nat) : Int)))), (33, Bo (decide ((k : Int) ≥ 100)))] ?_
          refine runL_nil ?_
          refine tq_then ?_
          refine tc_ret ?_
          refine tq_ret [0] [Bo (decide (queueCheck q = 0))] (bp_ret (Mem.le_trans (Mem.le_trans (Mem.le_trans (Mem.le_trans (Mem.le_trans hle hl1) hl2) hl3) hl4) hl5) ?_)
          have hf_ : (decide (queueCheck q = 0)) = true := by
            have q0 := ord_end hI; first | (simp [q0]; done) | (obtain ⟨q1, q2, q3⟩ := q0; grind) | (have q4 := queuePut_ok (by assumption); have q5 := hI.olen; grind)
          exact congrArg Bo hf_
        ·
          try simp only [decide_eq_true_eq, decide_eq_false_iff_not, Bool.and_eq_true, Bool.or_eq_true, Bool.and_eq_false_imp, Bool.or_eq_false_iff, Bool.not_eq_true', Bool.not_eq_false', Bool.not_eq_true, Bool.not_eq_false, beq_iff_eq, beq_eq_false_iff_ne, bne_iff_ne, ne_eq, Decidable.not_not, Int.not_lt, Int.not_le] at h4
          refine runL_b [1,1,1,0,0] [(0, I most), (2, Sl a_takes takes.length c_takes), (6, Bo false), (7, Pt b1 0), (8, Sl ai xi.length ci), (9, Sl ao xo.length co), (10, I ((k : Int))), (11, Pt b3 0), (19, Bo false), (24, Bo (!decide (queueCheck ((⟨most, []⟩ : QueueD)) = 0))), (25, Sl (At b2 o1) l.length c_l), (26, I (((l.length : Nat) : Int))), (27, I ((k : Int))), (28, Bo (decide ((k : Int) < ((l.length : Nat) : Int)))), (33, Bo (decide ((k : Int) ≥ 100)))] ?_
          refine runL_nil ?_
          refine tq_then ?_
          refine tc_ret ?_
          refine tq_ret [0] [Bo false] (bp_ret (Mem.le_trans (Mem.le_trans (Mem.le_trans (Mem.le_trans (Mem.le_trans hle hl1) hl2) hl3) hl4) hl5) ?_)
          exfalso
          have q0 := ord_end hI; first | (simp [q0]; done) | (obtain ⟨q1, q2, q3⟩ := q0; grind) | (have q4 := queuePut_ok (by assumption); have q5 := hI.olen; grind)
      ·
        try simp only [decide_eq_true_eq, decide_eq_false_iff_not, Bool.and_eq_true, Bool.or_eq_true, Bool.and_eq_false_imp, Bool.or_eq_false_iff, Bool.not_eq_true', Bool.not_eq_false', Bool.not_eq_true, Bool.not_eq_false, beq_iff_eq, beq_eq_false_iff_ne, bne_iff_ne, ne_eq, Decidable.not_not, Int.not_lt, Int.not_le] at h3
        refine tc_skip ?_
        refine tq_then ?_
        refine tc_seq ?_
        refine tc_seq ?_
        refine tc_region ?_
        refine runL_b [8,2] [(0, I most), (2, Sl a_takes takes.length c_takes), (7, Pt b1 0), (8, Sl ai xi.length ci), (9, Sl ao xo.length co), (10, I ((k : Int))), (11, Pt b3 0), (19, Bo false), (24, Bo (!decide (queueCheck ((⟨most, []⟩ : QueueD)) = 0))), (25, Sl (At b2 o1) l.length c_l), (26, I (((l.length : Nat) : Int))), (27, I ((k : Int))), (28, Bo (decide ((k : Int) < ((l.length : Nat) : Int)))), (33, Bo (decide ((k : Int) ≥ 100))), (35, .agg #[I q.most, Sl aq0 q.wait.length cq0]), (36, .agg #[Sr x1.name, Sr x1.value, U x1.n, U x1.tag])] ?_
        refine runL_callR 37 (queuePut_con g [I q.most, Sl aq0 q.wait.length cq0] q (⟨aq0, cq0, rfl, hq0, hq1⟩) [Sr x1.name, Sr x1.value, U x1.n, U x1.tag] x1 (⟨rfl, w1, w2, w3, w4⟩)) (fun v G6 L1 hl6 hp => ?_)
        obtain ⟨a2, c2, rfl, w5, hs5, rfl⟩ := hp
        refine runL_b [0,0,0,0] [(0, I most), (2, Sl a_takes takes.length c_takes), (7, Pt b1 0), (8, Sl ai xi.length ci), (9, Sl ao xo.length co), (10, I ((k : Int))), (11, Pt b3 0), (19, Bo false), (24, Bo (!decide (queueCheck ((⟨most, []⟩ : QueueD)) = 0))), (25, Sl (At b2 o1) l.length c_l), (26, I (((l.length : Nat) : Int))), (27, I ((k : Int))), (28, Bo (decide ((k : Int) < ((l.length : Nat) : Int)))), (33, Bo (decide ((k : Int) ≥ 100))), (38, .agg #[I (((queuePut q x1).1).most), Sl a2 ((((queuePut q x1).1).wait).length) c2]), (39, I ((queuePut q x1).2.1)), (40, I ((queuePut q x1).2.2))] ?_
        refine runL_box 12 #[I 0, Sl none 0 0] 90 (fun b5 => ?_)
        refine runL_bs [3,0,0] [(0, I most), (2, Sl a_takes takes.length c_takes), (7, Pt b1 0), (8, Sl ai xi.length ci), (9, Sl ao xo.length co), (10, I ((k : Int))), (11, Pt b3 0), (12, Pt b5 0), (13, I ((queuePut q x1).2.1)), (14, I ((queuePut q x1).2.2)), (19, Bo false), (24, Bo (!decide (queueCheck ((⟨most, []⟩ : QueueD)) = 0))), (25, Sl (At b2 o1) l.length c_l), (26, I (((l.length : Nat) : Int))), (27, I ((k : Int))), (28, Bo (decide ((k : Int) < ((l.length : Nat) : Int)))), (33, Bo (decide ((k : Int) ≥ 100)))] [[Sg b5 0 [I (((queuePut q x1).1).most), Sl a2 ((((queuePut q x1).1).wait).length) c2]], [Sg b3 0 [Sr x1.name, Sr x1.value, U x1.n, U x1.tag]], ro, ri, [Sg b1 0 [I q.most, Sl aq0 q.wait.length cq0]]] ?_
        refine runL_nil ?_
        refine tq_then ?_
        refine tc_rb [0,0] [(0, I most), (2, Sl a_takes takes.length c_takes), (7, Pt b1 0), (8, Sl ai xi.length ci), (9, Sl ao xo.length co), (10, I ((k : Int))), (11, Pt b3 0), (12, Pt b5 0), (13, I ((queuePut q x1).2.1)), (14, I ((queuePut q x1).2.2)), (19, Bo false), (24, Bo (!decide (queueCheck ((⟨most, []⟩ : QueueD)) = 0))), (25, Sl (At b2 o1) l.length c_l), (26, I (((l.length : Nat) : Int))), (27, I ((k : Int))), (28, Bo (decide ((k : Int) < ((l.length : Nat) : Int)))), (33, Bo (decide ((k : Int) ≥ 100))), (42, Bo (decide ((queuePut q x1).2.2 = 0)))] ?_
        refine tc_cond (decide ((queuePut q x1).2.2 = 0)) (fun h5 => ?_) (fun h5 => ?_)
        ·
          try simp only [decide_eq_true_eq, decide_eq_false_iff_not, Bool.and_eq_true, Bool.or_eq_true, Bool.and_eq_false_imp, Bool.or_eq_false_iff, Bool.not_eq_true', Bool.not_eq_false', Bool.not_eq_true, Bool.not_eq_false, beq_iff_eq, beq_eq_false_iff_ne, bne_iff_ne, ne_eq, Decidable.not_not, Int.not_lt, Int.not_le] at h5
          refine tc_seq ?_
          refine tc_rb [0,0,0,0,0,0,0] [(0, I most), (2, Sl a_takes takes.length c_takes), (7, Pt b1 0), (8, Sl ai xi.length ci), (9, Sl ao xo.length co), (10, I ((k : Int))), (11, Pt b3 0), (12, Pt b5 0), (13, I ((queuePut q x1).2.1)), (14, I ((queuePut q x1).2.2)), (19, Bo false), (24, Bo (!decide (queueCheck ((⟨most, []⟩ : QueueD)) = 0))), (25, Sl (At b2 o1) l.length c_l), (26, I (((l.length : Nat) : Int))), (27, I ((k : Int))), (28, Bo (decide ((k : Int) < ((l.length : Nat) : Int)))), (33, Bo (decide ((k : Int) ≥ 100))), (42, Bo (decide ((queuePut q x1).2.2 = 0))), (49, Bo (!decide ((queuePut q x1).2.1 = IntKind.i64.wrap ((((xi.length : Nat) : Int)) - (((xo.length : Nat) : Int))))))] ?_
          have e1 : IntKind.i64.wrap ((((xi.length : Nat) : Int)) - (((xo.length : Nat) : Int))) = (((xi.length : Nat) : Int)) - (((xo.length : Nat) : Int)) := IntWalk.i64_in _ (by first | omega | (have := hI.olen; omega))
          refine tc_eq (fr' := [(0, I most), (2, Sl a_takes takes.length c_takes), (7, Pt b1 0), (8, Sl ai xi.length ci), (9, Sl ao xo.length co), (10, I ((k : Int))), (11, Pt b3 0), (12, Pt b5 0), (13, I ((queuePut q x1).2.1)), (14, I ((queuePut q x1).2.2)), (19, Bo false), (24, Bo (!decide (queueCheck ((⟨most, []⟩ : QueueD)) = 0))), (25, Sl (At b2 o1) l.length c_l), (26, I (((l.length : Nat) : Int))), (27, I ((k : Int))), (28, Bo (decide ((k : Int) < ((l.length : Nat) : Int)))), (33, Bo (decide ((k : Int) ≥ 100))), (42, Bo (decide ((queuePut q x1).2.2 = 0))), (49, Bo (!decide ((queuePut q x1).2.1 = (((xi.length : Nat) : Int)) - (((xo.length : Nat) : Int)))))]) (L' := [[Sg b5 0 [I (((queuePut q x1).1).most), Sl a2 ((((queuePut q x1).1).wait).length) c2]], [Sg b3 0 [Sr x1.name, Sr x1.value, U x1.n, U x1.tag]], ro, ri, [Sg b1 0 [I q.most, Sl aq0 q.wait.length cq0]]]) (by simp only [e1]) (by rfl) ?_
          clear e1
          refine tc_cond (!decide ((queuePut q x1).2.1 = (((xi.length : Nat) : Int)) - (((xo.length : Nat) : Int)))) (fun h6 => ?_) (fun h6 => ?_)
          ·
            try simp only [decide_eq_true_eq, decide_eq_false_iff_not, Bool.and_eq_true, Bool.or_eq_true, Bool.and_eq_false_imp, Bool.or_eq_false_iff, Bool.not_eq_true', Bool.not_eq_false', Bool.not_eq_true, Bool.not_eq_false, beq_iff_eq, beq_eq_false_iff_ne, bne_iff_ne, ne_eq, Decidable.not_not, Int.not_lt, Int.not_le] at h6
            refine tc_rb [0] [(0, I most), (2, Sl a_takes takes.length c_takes), (6, Bo false), (7, Pt b1 0), (8, Sl ai xi.length ci), (9, Sl ao xo.length co), (10, I ((k : Int))), (11, Pt b3 0), (12, Pt b5 0), (13, I ((queuePut q x1).2.1)), (14, I ((queuePut q x1).2.2)), (19, Bo false), (24, Bo (!decide (queueCheck ((⟨most, []⟩ : QueueD)) = 0))), (25, Sl (At b2 o1) l.length c_l), (26, I (((l.length : Nat) : Int))), (27, I ((k : Int))), (28, Bo (decide ((k : Int) < ((l.length : Nat) : Int)))), (33, Bo (decide ((k : Int) ≥ 100))), (42, Bo (decide ((queuePut q x1).2.2 = 0))), (49, Bo (!decide ((queuePut q x1).2.1 = (((xi.length : Nat) : Int)) - (((xo.length : Nat) : Int)))))] ?_
            refine tc_ret ?_
            refine tq_then_ret ?_
            refine tq_then_ret ?_
            refine tq_block_ret ?_
            refine tq_then_ret ?_
            refine tq_rnd_ret ?_
            refine tq_block_ret ?_
            refine tq_then_ret ?_
            refine tq_ret [0] [Bo false] (bp_ret (Mem.le_trans hle hl6) ?_)
            exfalso
            have q0 := ord_end hI; first | (simp [q0]; done) | (obtain ⟨q1, q2, q3⟩ := q0; grind) | (have q4 := queuePut_ok (by assumption); have q5 := hI.olen; grind)
          ·
            try simp only [decide_eq_true_eq, decide_eq_false_iff_not, Bool.and_eq_true, Bool.or_eq_true, Bool.and_eq_false_imp, Bool.or_eq_false_iff, Bool.not_eq_true', Bool.not_eq_false', Bool.not_eq_true, Bool.not_eq_false, beq_iff_eq, beq_eq_false_iff_ne, bne_iff_ne, ne_eq, Decidable.not_not, Int.not_lt, Int.not_le] at h6
            refine tc_skip ?_
            refine tq_then ?_
            refine tc_draw [3, 4, 5] ?_
            refine dr_V [(0, .agg #[I (((queuePut q x1).1).most), Sl a2 ((((queuePut q x1).1).wait).length) c2]), (1, Sl ai xi.length ci), (2, .agg #[Sr x1.name, Sr x1.value, U x1.n, U x1.tag])] ?_
            refine dr_mid [] [(0,2), (1,0), (2,4)] [] [3] (List.forall_mem_nil _) (List.forall_mem_cons.2 ⟨?_, List.forall_mem_nil _⟩)
            refine act_of 3 [(52, .agg #[Sr x1.name, Sr x1.value, U x1.n, U x1.tag])] (fun X => ?_)
            refine runL_bsl 53 1 #[Sr x1.name, Sr x1.value, U x1.n, U x1.tag] 93 (fun b6 => ?_)
            refine act_end (V' := [(0, .agg #[I (((queuePut q x1).1).most), Sl a2 ((((queuePut q x1).1).wait).length) c2]), (1, Sl ai xi.length ci), (2, .agg #[Sr x1.name, Sr x1.value, U x1.n, U x1.tag]), (3, Sl (At b6 0) 1 1)]) ?_
            refine dr_mid [2] [(0,4), (1,0)] [] [4] (List.forall_mem_nil _) (List.forall_mem_cons.2 ⟨?_, List.forall_mem_nil _⟩)
            refine act_of 4 [(51, Sl ai xi.length ci), (53, Sl (At b6 0) 1 1)] (fun X => ?_)
            refine runL_app1' (b := b6) (cs := [Sr x1.name, Sr x1.value, U x1.n, U x1.tag]) 54 93 4 0 (E := EAsk) x1 (hri.mono hl6) ⟨rfl, (by first | assumption | omega | (simp; done) | (simp; omega)), (by first | assumption | omega | (simp; done) | (simp; omega)), (by first | assumption | omega | (simp; done) | (simp; omega)), (by first | assumption | omega | (simp; done) | (simp; omega))⟩ (by first | (have := hI.olen; (try simp only [EAsk, List.length_append, List.length_cons, List.length_nil]); omega) | (have := (ord_t (ord_p hI (by omega) (by assumption)) (by assumption)).olen; simp only [List.length_append] at this; (try simp only [EAsk, List.length_append, List.length_cons, List.length_nil]); omega) | (have := (ord_t (ord_0 hI (by omega)) (by assumption)).olen; simp only [List.length_append] at this; (try simp only [EAsk, List.length_append, List.length_cons, List.length_nil]); omega)) (by first | (have := hI.olen; (try simp only [EAsk, List.length_append, List.length_cons, List.length_nil]); omega) | (have := (ord_t (ord_p hI (by omega) (by assumption)) (by assumption)).olen; simp only [List.length_append] at this; (try simp only [EAsk, List.length_append, List.length_cons, List.length_nil]); omega) | (have := (ord_t (ord_0 hI (by omega)) (by assumption)).olen; simp only [List.length_append] at this; (try simp only [EAsk, List.length_append, List.length_cons, List.length_nil]); omega)) (fun a3 c3 r2 hr2 => ?_)
            refine act_end (V' := [(0, .agg #[I (((queuePut q x1).1).most), Sl a2 ((((queuePut q x1).1).wait).length) c2]), (1, Sl ai xi.length ci), (2, .agg #[Sr x1.name, Sr x1.value, U x1.n, U x1.tag]), (3, Sl (At b6 0) 1 1), (4, Sl a3 ((xi ++ [x1]).length) c3)]) ?_
            refine dr_mid [1, 2] [(0,4)] [] [5] (List.forall_mem_nil _) (List.forall_mem_cons.2 ⟨?_, List.forall_mem_nil _⟩)
            refine act_of 5 [(7, Pt b1 0), (50, .agg #[I (((queuePut q x1).1).most), Sl a2 ((((queuePut q x1).1).wait).length) c2])] (fun X => ?_)
            refine runL_st 5 [[Sg b6 0 [Sr x1.name, Sr x1.value, U x1.n, U x1.tag]], [Sg b5 0 [I (((queuePut q x1).1).most), Sl a2 ((((queuePut q x1).1).wait).length) c2]], [Sg b3 0 [Sr x1.name, Sr x1.value, U x1.n, U x1.tag]], ro, r2, [Sg b1 0 [I (((queuePut q x1).1).most), Sl a2 ((((queuePut q x1).1).wait).length) c2]]] ?_
            refine act_end0 (V' := [(0, .agg #[I (((queuePut q x1).1).most), Sl a2 ((((queuePut q x1).1).wait).length) c2]), (1, Sl ai xi.length ci), (2, .agg #[Sr x1.name, Sr x1.value, U x1.n, U x1.tag]), (3, Sl (At b6 0) 1 1), (4, Sl a3 ((xi ++ [x1]).length) c3), (6, Sl a3 ((xi ++ [x1]).length) c3)]) ?_
            refine dr_end [0, 1, 2] [(6,0)] [] [(0, I most), (2, Sl a_takes takes.length c_takes), (7, Pt b1 0), (8, Sl a3 ((xi ++ [x1]).length) c3), (9, Sl ao xo.length co), (10, I ((k : Int))), (11, Pt b3 0), (12, Pt b5 0), (13, I ((queuePut q x1).2.1)), (14, I ((queuePut q x1).2.2)), (19, Bo false), (24, Bo (!decide (queueCheck ((⟨most, []⟩ : QueueD)) = 0))), (25, Sl (At b2 o1) l.length c_l), (26, I (((l.length : Nat) : Int))), (27, I ((k : Int))), (28, Bo (decide ((k : Int) < ((l.length : Nat) : Int)))), (33, Bo (decide ((k : Int) ≥ 100))), (42, Bo (decide ((queuePut q x1).2.2 = 0))), (49, Bo (!decide ((queuePut q x1).2.1 = (((xi.length : Nat) : Int)) - (((xo.length : Nat) : Int)))))] (List.forall_mem_nil _) ?_
            refine tq_then ?_
            refine tc_rb [0,0,0,0] [(0, I most), (2, Sl a_takes takes.length c_takes), (7, Pt b1 0), (8, Sl a3 ((xi ++ [x1]).length) c3), (9, Sl ao xo.length co), (10, I ((k : Int))), (11, Pt b3 0), (12, Pt b5 0), (13, I ((queuePut q x1).2.1)), (14, I ((queuePut q x1).2.2)), (19, Bo false), (24, Bo (!decide (queueCheck ((⟨most, []⟩ : QueueD)) = 0))), (25, Sl (At b2 o1) l.length c_l), (26, I (((l.length : Nat) : Int))), (27, I ((k : Int))), (28, Bo (decide ((k : Int) < ((l.length : Nat) : Int)))), (33, Bo (decide ((k : Int) ≥ 100))), (42, Bo (decide ((queuePut q x1).2.2 = 0))), (49, Bo (!decide ((queuePut q x1).2.1 = (((xi.length : Nat) : Int)) - (((xo.length : Nat) : Int))))), (58, Bo (decide ((k : Int) < ((takes.length : Nat) : Int))))] ?_
            refine tc_cond (decide ((k : Int) < ((takes.length : Nat) : Int))) (fun h7 => ?_) (fun h7 => ?_)
            ·
              try simp only [decide_eq_true_eq, decide_eq_false_iff_not, Bool.and_eq_true, Bool.or_eq_true, Bool.and_eq_false_imp, Bool.or_eq_false_iff, Bool.not_eq_true', Bool.not_eq_false', Bool.not_eq_true, Bool.not_eq_false, beq_iff_eq, beq_eq_false_iff_ne, bne_iff_ne, ne_eq, Decidable.not_not, Int.not_lt, Int.not_le] at h7
              refine tc_seq ?_
              obtain ⟨b7, o2, rfl⟩ := RS.addr (h_takes.mono (Mem.le_trans hle hl6)) (k := k) (by first | omega | (have := hI.olen; omega))
              obtain ⟨x2, hx2⟩ := getX (l := takes) (k := k) (by first | omega | (have := hI.olen; omega))
              obtain ⟨_, ⟨rfl, w6⟩, hc2⟩ := RS.get (h_takes.mono (Mem.le_trans hle hl6)) hx2
              refine tc_draw [5, 10, 11] ?_
              refine dr_V [(0, .agg #[I (((queuePut q x1).1).most), Sl a2 ((((queuePut q x1).1).wait).length) c2]), (1, Sl (At b7 o2) takes.length c_takes), (2, I ((k : Int))), (3, Pt b7 (o2 + k * 1)), (4, I x2)] ?_
              refine dr_mid [] [(0,12), (1,0), (2,0)] [3, 4] [5, 10] (List.forall_mem_cons.2 ⟨?_, (List.forall_mem_cons.2 ⟨?_, List.forall_mem_nil _⟩)⟩) (List.forall_mem_cons.2 ⟨?_, (List.forall_mem_cons.2 ⟨?_, List.forall_mem_nil _⟩)⟩)
              · refine stab_of 3 63 (Pt b7 (o2 + k * 1)) [(61, Sl (At b7 o2) takes.length c_takes), (62, I ((k : Int)))] (fun X => ?_)
                exact runL_idx (b := b7) (off := o2) (len := takes.length) (cap := c_takes) (ik := .i64) 63 3 1 k (by first | omega | (have := hI.olen; omega)) stab_end
              · refine stab_of 4 64 (I x2) [(63, Pt b7 (o2 + k * 1))] (fun X => ?_)
                exact runL_ldG 64 3 (cs := [I x2]) 0 (I x2) hc2 stab_end
              ·
                refine act_of 5 [(60, .agg #[I (((queuePut q x1).1).most), Sl a2 ((((queuePut q x1).1).wait).length) c2]), (64, I x2)] (fun X => ?_)
                refine runL_callR 65 (queueTake_con G6 [I (((queuePut q x1).1).most), Sl a2 ((((queuePut q x1).1).wait).length) c2] (((queuePut q x1).1)) (⟨a2, c2, rfl, (by first | assumption | omega | (simp; done) | (simp; omega)), hs5⟩) x2) (fun v G7 L1 hl7 hp => ?_)
                obtain ⟨a4, c4, a5, c5, rfl, w7, hs6, hs7, rfl⟩ := hp
                refine act_end (V' := [(0, .agg #[I (((queuePut q x1).1).most), Sl a2 ((((queuePut q x1).1).wait).length) c2]), (1, Sl (At b7 o2) takes.length c_takes), (2, I ((k : Int))), (3, Pt b7 (o2 + k * 1)), (4, I x2), (5, .tuple #[.agg #[I (((queueTake (((queuePut q x1).1)) x2).1).most), Sl a4 ((((queueTake (((queuePut q x1).1)) x2).1).wait).length) c4], Sl a5 (((queueTake (((queuePut q x1).1)) x2).2.1).length) c5, I ((queueTake (((queuePut q x1).1)) x2).2.2)]), (6, .tuple #[.agg #[I (((queueTake (((queuePut q x1).1)) x2).1).most), Sl a4 ((((queueTake (((queuePut q x1).1)) x2).1).wait).length) c4], Sl a5 (((queueTake (((queuePut q x1).1)) x2).2.1).length) c5, I ((queueTake (((queuePut q x1).1)) x2).2.2)]), (7, .agg #[I (((queueTake (((queuePut q x1).1)) x2).1).most), Sl a4 ((((queueTake (((queuePut q x1).1)) x2).1).wait).length) c4]), (8, Sl a5 (((queueTake (((queuePut q x1).1)) x2).2.1).length) c5), (9, I ((queueTake (((queuePut q x1).1)) x2).2.2))]) ?_
                refine dr_mid [0, 1, 2, 3, 4] [(6,0), (7,0), (8,0), (9,0)] [] [10] (List.forall_mem_nil _) (List.forall_mem_cons.2 ⟨?_, List.forall_mem_nil _⟩)
                refine act_of 10 [] (fun X => ?_)
                refine runL_box 15 #[I 0, Sl none 0 0] 90 (fun b8 => ?_)
                refine act_end (V' := [(0, .agg #[I (((queuePut q x1).1).most), Sl a2 ((((queuePut q x1).1).wait).length) c2]), (1, Sl (At b7 o2) takes.length c_takes), (2, I ((k : Int))), (3, Pt b7 (o2 + k * 1)), (4, I x2), (5, .tuple #[.agg #[I (((queueTake (((queuePut q x1).1)) x2).1).most), Sl a4 ((((queueTake (((queuePut q x1).1)) x2).1).wait).length) c4], Sl a5 (((queueTake (((queuePut q x1).1)) x2).2.1).length) c5, I ((queueTake (((queuePut q x1).1)) x2).2.2)]), (6, .tuple #[.agg #[I (((queueTake (((queuePut q x1).1)) x2).1).most), Sl a4 ((((queueTake (((queuePut q x1).1)) x2).1).wait).length) c4], Sl a5 (((queueTake (((queuePut q x1).1)) x2).2.1).length) c5, I ((queueTake (((queuePut q x1).1)) x2).2.2)]), (7, .agg #[I (((queueTake (((queuePut q x1).1)) x2).1).most), Sl a4 ((((queueTake (((queuePut q x1).1)) x2).1).wait).length) c4]), (8, Sl a5 (((queueTake (((queuePut q x1).1)) x2).2.1).length) c5), (9, I ((queueTake (((queuePut q x1).1)) x2).2.2)), (10, Pt b8 0)]) ?_
                refine dr_mid [0, 1, 2, 3, 4] [(6,0), (7,0), (8,0), (9,0)] [] [11] (List.forall_mem_nil _) (List.forall_mem_cons.2 ⟨?_, List.forall_mem_nil _⟩)
                refine act_of 11 [(15, Pt b8 0), (66, .agg #[I (((queueTake (((queuePut q x1).1)) x2).1).most), Sl a4 ((((queueTake (((queuePut q x1).1)) x2).1).wait).length) c4])] (fun X => ?_)
                refine runL_st 0 [[Sg b8 0 [I (((queueTake (((queuePut q x1).1)) x2).1).most), Sl a4 ((((queueTake (((queuePut q x1).1)) x2).1).wait).length) c4]], [Sg b6 0 [Sr x1.name, Sr x1.value, U x1.n, U x1.tag]], [Sg b5 0 [I (((queuePut q x1).1).most), Sl a2 ((((queuePut q x1).1).wait).length) c2]], [Sg b3 0 [Sr x1.name, Sr x1.value, U x1.n, U x1.tag]], ro, r2, [Sg b1 0 [I (((queuePut q x1).1).most), Sl a2 ((((queuePut q x1).1).wait).length) c2]]] ?_
                refine act_end0 (V' := [(0, .agg #[I (((queuePut q x1).1).most), Sl a2 ((((queuePut q x1).1).wait).length) c2]), (1, Sl (At b7 o2) takes.length c_takes), (2, I ((k : Int))), (3, Pt b7 (o2 + k * 1)), (4, I x2), (5, .tuple #[.agg #[I (((queueTake (((queuePut q x1).1)) x2).1).most), Sl a4 ((((queueTake (((queuePut q x1).1)) x2).1).wait).length) c4], Sl a5 (((queueTake (((queuePut q x1).1)) x2).2.1).length) c5, I ((queueTake (((queuePut q x1).1)) x2).2.2)]), (6, .tuple #[.agg #[I (((queueTake (((queuePut q x1).1)) x2).1).most), Sl a4 ((((queueTake (((queuePut q x1).1)) x2).1).wait).length) c4], Sl a5 (((queueTake (((queuePut q x1).1)) x2).2.1).length) c5, I ((queueTake (((queuePut q x1).1)) x2).2.2)]), (7, .agg #[I (((queueTake (((queuePut q x1).1)) x2).1).most), Sl a4 ((((queueTake (((queuePut q x1).1)) x2).1).wait).length) c4]), (8, Sl a5 (((queueTake (((queuePut q x1).1)) x2).2.1).length) c5), (9, I ((queueTake (((queuePut q x1).1)) x2).2.2)), (10, Pt b8 0), (12, Sl a5 (((queueTake (((queuePut q x1).1)) x2).2.1).length) c5), (13, I ((queueTake (((queuePut q x1).1)) x2).2.2))]) ?_
                refine dr_end [0, 1, 2, 3, 4, 6, 7] [(8,0), (9,0), (12,0), (13,0)] [] [(0, I most), (2, Sl (At b7 o2) takes.length c_takes), (7, Pt b1 0), (8, Sl a3 ((xi ++ [x1]).length) c3), (9, Sl ao xo.length co), (10, I ((k : Int))), (11, Pt b3 0), (12, Pt b5 0), (13, I ((queuePut q x1).2.1)), (14, I ((queuePut q x1).2.2)), (15, Pt b8 0), (16, Sl a5 (((queueTake (((queuePut q x1).1)) x2).2.1).length) c5), (17, I ((queueTake (((queuePut q x1).1)) x2).2.2)), (19, Bo false), (24, Bo (!decide (queueCheck ((⟨most, []⟩ : QueueD)) = 0))), (25, Sl (At b2 o1) l.length c_l), (26, I (((l.length : Nat) : Int))), (27, I ((k : Int))), (28, Bo (decide ((k : Int) < ((l.length : Nat) : Int)))), (33, Bo (decide ((k : Int) ≥ 100))), (42, Bo (decide ((queuePut q x1).2.2 = 0))), (49, Bo (!decide ((queuePut q x1).2.1 = (((xi.length : Nat) : Int)) - (((xo.length : Nat) : Int))))), (58, Bo (decide ((k : Int) < ((takes.length : Nat) : Int))))] (List.forall_mem_nil _) ?_
                refine tq_then ?_
                refine tc_rb [0,0] [(0, I most), (2, Sl (At b7 o2) takes.length c_takes), (7, Pt b1 0), (8, Sl a3 ((xi ++ [x1]).length) c3), (9, Sl ao xo.length co), (10, I ((k : Int))), (11, Pt b3 0), (12, Pt b5 0), (13, I ((queuePut q x1).2.1)), (14, I ((queuePut q x1).2.2)), (15, Pt b8 0), (16, Sl a5 (((queueTake (((queuePut q x1).1)) x2).2.1).length) c5), (17, I ((queueTake (((queuePut q x1).1)) x2).2.2)), (19, Bo false), (24, Bo (!decide (queueCheck ((⟨most, []⟩ : QueueD)) = 0))), (25, Sl (At b2 o1) l.length c_l), (26, I (((l.length : Nat) : Int))), (27, I ((k : Int))), (28, Bo (decide ((k : Int) < ((l.length : Nat) : Int)))), (33, Bo (decide ((k : Int) ≥ 100))), (42, Bo (decide ((queuePut q x1).2.2 = 0))), (49, Bo (!decide ((queuePut q x1).2.1 = (((xi.length : Nat) : Int)) - (((xo.length : Nat) : Int))))), (58, Bo (decide ((k : Int) < ((takes.length : Nat) : Int)))), (70, Bo (decide ((queueTake (((queuePut q x1).1)) x2).2.2 = 0)))] ?_
                refine tc_cond (decide ((queueTake (((queuePut q x1).1)) x2).2.2 = 0)) (fun h8 => ?_) (fun h8 => ?_)
                ·
                  try simp only [decide_eq_true_eq, decide_eq_false_iff_not, Bool.and_eq_true, Bool.or_eq_true, Bool.and_eq_false_imp, Bool.or_eq_false_iff, Bool.not_eq_true', Bool.not_eq_false', Bool.not_eq_true, Bool.not_eq_false, beq_iff_eq, beq_eq_false_iff_ne, bne_iff_ne, ne_eq, Decidable.not_not, Int.not_lt, Int.not_le] at h8
                  refine tc_draw [3, 4] ?_
                  refine dr_V [(0, .agg #[I (((queueTake (((queuePut q x1).1)) x2).1).most), Sl a4 ((((queueTake (((queuePut q x1).1)) x2).1).wait).length) c4]), (1, Sl ao xo.length co), (2, Sl a5 (((queueTake (((queuePut q x1).1)) x2).2.1).length) c5)] ?_
                  refine dr_mid [] [(0,2), (1,0), (2,0)] [] [3] (List.forall_mem_nil _) (List.forall_mem_cons.2 ⟨?_, List.forall_mem_nil _⟩)
                  refine act_of 3 [(72, Sl ao xo.length co), (73, Sl a5 (((queueTake (((queuePut q x1).1)) x2).2.1).length) c5)] (fun X => ?_)
                  refine runL_app' 74 93 4 (E := EAsk) (hro.mono (Mem.le_trans hl6 hl7)) hs7 (by first | (have := hI.olen; (try simp only [EAsk, List.length_append, List.length_cons, List.length_nil]); omega) | (have := (ord_t (ord_p hI (by omega) (by assumption)) (by assumption)).olen; simp only [List.length_append] at this; (try simp only [EAsk, List.length_append, List.length_cons, List.length_nil]); omega) | (have := (ord_t (ord_0 hI (by omega)) (by assumption)).olen; simp only [List.length_append] at this; (try simp only [EAsk, List.length_append, List.length_cons, List.length_nil]); omega)) (by first | (have := hI.olen; (try simp only [EAsk, List.length_append, List.length_cons, List.length_nil]); omega) | (have := (ord_t (ord_p hI (by omega) (by assumption)) (by assumption)).olen; simp only [List.length_append] at this; (try simp only [EAsk, List.length_append, List.length_cons, List.length_nil]); omega) | (have := (ord_t (ord_0 hI (by omega)) (by assumption)).olen; simp only [List.length_append] at this; (try simp only [EAsk, List.length_append, List.length_cons, List.length_nil]); omega)) (fun a6 c6 r3 hr3 => ?_)
                  refine act_end (V' := [(0, .agg #[I (((queueTake (((queuePut q x1).1)) x2).1).most), Sl a4 ((((queueTake (((queuePut q x1).1)) x2).1).wait).length) c4]), (1, Sl ao xo.length co), (2, Sl a5 (((queueTake (((queuePut q x1).1)) x2).2.1).length) c5), (3, Sl a6 ((xo ++ ((queueTake (((queuePut q x1).1)) x2).2.1)).length) c6)]) ?_
                  refine dr_mid [1, 2] [(0,2)] [] [4] (List.forall_mem_nil _) (List.forall_mem_cons.2 ⟨?_, List.forall_mem_nil _⟩)
                  refine act_of 4 [(7, Pt b1 0), (71, .agg #[I (((queueTake (((queuePut q x1).1)) x2).1).most), Sl a4 ((((queueTake (((queuePut q x1).1)) x2).1).wait).length) c4])] (fun X => ?_)
                  refine runL_st 6 [[Sg b8 0 [I (((queueTake (((queuePut q x1).1)) x2).1).most), Sl a4 ((((queueTake (((queuePut q x1).1)) x2).1).wait).length) c4]], [Sg b6 0 [Sr x1.name, Sr x1.value, U x1.n, U x1.tag]], [Sg b5 0 [I (((queuePut q x1).1).most), Sl a2 ((((queuePut q x1).1).wait).length) c2]], [Sg b3 0 [Sr x1.name, Sr x1.value, U x1.n, U x1.tag]], r3, r2, [Sg b1 0 [I (((queueTake (((queuePut q x1).1)) x2).1).most), Sl a4 ((((queueTake (((queuePut q x1).1)) x2).1).wait).length) c4]]] ?_
                  refine act_end0 (V' := [(0, .agg #[I (((queueTake (((queuePut q x1).1)) x2).1).most), Sl a4 ((((queueTake (((queuePut q x1).1)) x2).1).wait).length) c4]), (1, Sl ao xo.length co), (2, Sl a5 (((queueTake (((queuePut q x1).1)) x2).2.1).length) c5), (3, Sl a6 ((xo ++ ((queueTake (((queuePut q x1).1)) x2).2.1)).length) c6), (5, Sl a6 ((xo ++ ((queueTake (((queuePut q x1).1)) x2).2.1)).length) c6)]) ?_
                  refine dr_end [0, 1, 2] [(5,0)] [] [(0, I most), (2, Sl (At b7 o2) takes.length c_takes), (7, Pt b1 0), (8, Sl a3 ((xi ++ [x1]).length) c3), (9, Sl a6 ((xo ++ ((queueTake (((queuePut q x1).1)) x2).2.1)).length) c6), (10, I ((k : Int))), (11, Pt b3 0), (12, Pt b5 0), (13, I ((queuePut q x1).2.1)), (14, I ((queuePut q x1).2.2)), (15, Pt b8 0), (16, Sl a5 (((queueTake (((queuePut q x1).1)) x2).2.1).length) c5), (17, I ((queueTake (((queuePut q x1).1)) x2).2.2)), (19, Bo false), (24, Bo (!decide (queueCheck ((⟨most, []⟩ : QueueD)) = 0))), (25, Sl (At b2 o1) l.length c_l), (26, I (((l.length : Nat) : Int))), (27, I ((k : Int))), (28, Bo (decide ((k : Int) < ((l.length : Nat) : Int)))), (33, Bo (decide ((k : Int) ≥ 100))), (42, Bo (decide ((queuePut q x1).2.2 = 0))), (49, Bo (!decide ((queuePut q x1).2.1 = (((xi.length : Nat) : Int)) - (((xo.length : Nat) : Int))))), (58, Bo (decide ((k : Int) < ((takes.length : Nat) : Int)))), (70, Bo (decide ((queueTake (((queuePut q x1).1)) x2).2.2 = 0)))] (List.forall_mem_nil _) ?_
                  refine tq_block ?_
                  refine tq_then ?_
                  refine tc_region ?_
                  refine runL_b [0,0] [(0, I most), (2, Sl (At b7 o2) takes.length c_takes), (7, Pt b1 0), (8, Sl a3 ((xi ++ [x1]).length) c3), (9, Sl a6 ((xo ++ ((queueTake (((queuePut q x1).1)) x2).2.1)).length) c6), (10, I ((k : Int))), (11, Pt b3 0), (12, Pt b5 0), (13, I ((queuePut q x1).2.1)), (14, I ((queuePut q x1).2.2)), (15, Pt b8 0), (16, Sl a5 (((queueTake (((queuePut q x1).1)) x2).2.1).length) c5), (17, I ((queueTake (((queuePut q x1).1)) x2).2.2)), (19, Bo false), (24, Bo (!decide (queueCheck ((⟨most, []⟩ : QueueD)) = 0))), (25, Sl (At b2 o1) l.length c_l), (26, I (((l.length : Nat) : Int))), (27, I (IntKind.i64.wrap (((k : Int)) + 1))), (28, Bo (decide ((k : Int) < ((l.length : Nat) : Int)))), (33, Bo (decide ((k : Int) ≥ 100))), (42, Bo (decide ((queuePut q x1).2.2 = 0))), (49, Bo (!decide ((queuePut q x1).2.1 = (((xi.length : Nat) : Int)) - (((xo.length : Nat) : Int))))), (58, Bo (decide ((k : Int) < ((takes.length : Nat) : Int)))), (70, Bo (decide ((queueTake (((queuePut q x1).1)) x2).2.2 = 0)))] ?_
                  have e2 : IntKind.i64.wrap (((k : Int)) + 1) = ((k : Int)) + 1 := IntWalk.i64_in _ (by first | omega | (have := hI.olen; omega))
                  refine runL_eq (fr' := [(0, I most), (2, Sl (At b7 o2) takes.length c_takes), (7, Pt b1 0), (8, Sl a3 ((xi ++ [x1]).length) c3), (9, Sl a6 ((xo ++ ((queueTake (((queuePut q x1).1)) x2).2.1)).length) c6), (10, I ((k : Int))), (11, Pt b3 0), (12, Pt b5 0), (13, I ((queuePut q x1).2.1)), (14, I ((queuePut q x1).2.2)), (15, Pt b8 0), (16, Sl a5 (((queueTake (((queuePut q x1).1)) x2).2.1).length) c5), (17, I ((queueTake (((queuePut q x1).1)) x2).2.2)), (19, Bo false), (24, Bo (!decide (queueCheck ((⟨most, []⟩ : QueueD)) = 0))), (25, Sl (At b2 o1) l.length c_l), (26, I (((l.length : Nat) : Int))), (27, I (((k : Int)) + 1)), (28, Bo (decide ((k : Int) < ((l.length : Nat) : Int)))), (33, Bo (decide ((k : Int) ≥ 100))), (42, Bo (decide ((queuePut q x1).2.2 = 0))), (49, Bo (!decide ((queuePut q x1).2.1 = (((xi.length : Nat) : Int)) - (((xo.length : Nat) : Int))))), (58, Bo (decide ((k : Int) < ((takes.length : Nat) : Int)))), (70, Bo (decide ((queueTake (((queuePut q x1).1)) x2).2.2 = 0)))]) (L' := [[Sg b8 0 [I (((queueTake (((queuePut q x1).1)) x2).1).most), Sl a4 ((((queueTake (((queuePut q x1).1)) x2).1).wait).length) c4]], [Sg b6 0 [Sr x1.name, Sr x1.value, U x1.n, U x1.tag]], [Sg b5 0 [I (((queuePut q x1).1).most), Sl a2 ((((queuePut q x1).1).wait).length) c2]], [Sg b3 0 [Sr x1.name, Sr x1.value, U x1.n, U x1.tag]], r3, r2, [Sg b1 0 [I (((queueTake (((queuePut q x1).1)) x2).1).most), Sl a4 ((((queueTake (((queuePut q x1).1)) x2).1).wait).length) c4]]]) (by simp only [e2]) (by rfl) ?_
                  clear e2
                  refine runL_nil ?_
                  refine tq_owns [r3, r2, [Sg b1 0 [I (((queueTake (((queuePut q x1).1)) x2).1).most), Sl a4 ((((queueTake (((queuePut q x1).1)) x2).1).wait).length) c4]]] ((.cons _ (.cons _ (.cons _ (.cons _ (.cons_cons _ (.cons_cons _ (.cons_cons _ .slnil)))))))) ?_
                  exact tq_rnd ((k + 1, a3, c3, r2, xi ++ [x1], a6, c6, r3, xo ++ ((queueTake (((queuePut q x1).1)) x2).2.1), ((queueTake (((queuePut q x1).1)) x2).1), a4, c4, G7)) ⟨(Mem.le_trans hle (Mem.le_trans hl6 hl7)), (by omega), (hr2.mono hl7), hr3, (by first | assumption | omega | (simp; done) | (simp; omega)), hs6, (by first | exact ord_0 hI (by omega) | exact ord_p hI (by omega) (by assumption) | exact ord_t (ord_0 hI (by omega)) (by assumption) | exact ord_t (ord_p hI (by omega) (by assumption)) (by assumption))⟩ (by (try dsimp only); omega)
                ·
                  try simp only [decide_eq_true_eq, decide_eq_false_iff_not, Bool.and_eq_true, Bool.or_eq_true, Bool.and_eq_false_imp, Bool.or_eq_false_iff, Bool.not_eq_true', Bool.not_eq_false', Bool.not_eq_true, Bool.not_eq_false, beq_iff_eq, beq_eq_false_iff_ne, bne_iff_ne, ne_eq, Decidable.not_not, Int.not_lt, Int.not_le] at h8
                  refine tc_skip ?_
                  refine tq_block ?_
                  refine tq_then ?_
                  refine tc_region ?_
                  refine runL_b [0,0] [(0, I most), (2, Sl (At b7 o2) takes.length c_takes), (7, Pt b1 0), (8, Sl a3 ((xi ++ [x1]).length) c3), (9, Sl ao xo.length co), (10, I ((k : Int))), (11, Pt b3 0), (12, Pt b5 0), (13, I ((queuePut q x1).2.1)), (14, I ((queuePut q x1).2.2)), (15, Pt b8 0), (16, Sl a5 (((queueTake (((queuePut q x1).1)) x2).2.1).length) c5), (17, I ((queueTake (((queuePut q x1).1)) x2).2.2)), (19, Bo false), (24, Bo (!decide (queueCheck ((⟨most, []⟩ : QueueD)) = 0))), (25, Sl (At b2 o1) l.length c_l), (26, I (((l.length : Nat) : Int))), (27, I (IntKind.i64.wrap (((k : Int)) + 1))), (28, Bo (decide ((k : Int) < ((l.length : Nat) : Int)))), (33, Bo (decide ((k : Int) ≥ 100))), (42, Bo (decide ((queuePut q x1).2.2 = 0))), (49, Bo (!decide ((queuePut q x1).2.1 = (((xi.length : Nat) : Int)) - (((xo.length : Nat) : Int))))), (58, Bo (decide ((k : Int) < ((takes.length : Nat) : Int)))), (70, Bo (decide ((queueTake (((queuePut q x1).1)) x2).2.2 = 0)))] ?_
                  have e3 : IntKind.i64.wrap (((k : Int)) + 1) = ((k : Int)) + 1 := IntWalk.i64_in _ (by first | omega | (have := hI.olen; omega))
                  refine runL_eq (fr' := [(0, I most), (2, Sl (At b7 o2) takes.length c_takes), (7, Pt b1 0), (8, Sl a3 ((xi ++ [x1]).length) c3), (9, Sl ao xo.length co), (10, I ((k : Int))), (11, Pt b3 0), (12, Pt b5 0), (13, I ((queuePut q x1).2.1)), (14, I ((queuePut q x1).2.2)), (15, Pt b8 0), (16, Sl a5 (((queueTake (((queuePut q x1).1)) x2).2.1).length) c5), (17, I ((queueTake (((queuePut q x1).1)) x2).2.2)), (19, Bo false), (24, Bo (!decide (queueCheck ((⟨most, []⟩ : QueueD)) = 0))), (25, Sl (At b2 o1) l.length c_l), (26, I (((l.length : Nat) : Int))), (27, I (((k : Int)) + 1)), (28, Bo (decide ((k : Int) < ((l.length : Nat) : Int)))), (33, Bo (decide ((k : Int) ≥ 100))), (42, Bo (decide ((queuePut q x1).2.2 = 0))), (49, Bo (!decide ((queuePut q x1).2.1 = (((xi.length : Nat) : Int)) - (((xo.length : Nat) : Int))))), (58, Bo (decide ((k : Int) < ((takes.length : Nat) : Int)))), (70, Bo (decide ((queueTake (((queuePut q x1).1)) x2).2.2 = 0)))]) (L' := [[Sg b8 0 [I (((queueTake (((queuePut q x1).1)) x2).1).most), Sl a4 ((((queueTake (((queuePut q x1).1)) x2).1).wait).length) c4]], [Sg b6 0 [Sr x1.name, Sr x1.value, U x1.n, U x1.tag]], [Sg b5 0 [I (((queuePut q x1).1).most), Sl a2 ((((queuePut q x1).1).wait).length) c2]], [Sg b3 0 [Sr x1.name, Sr x1.value, U x1.n, U x1.tag]], ro, r2, [Sg b1 0 [I (((queuePut q x1).1).most), Sl a2 ((((queuePut q x1).1).wait).length) c2]]]) (by simp only [e3]) (by rfl) ?_
                  clear e3
                  refine runL_nil ?_
                  refine tq_owns [ro, r2, [Sg b1 0 [I (((queuePut q x1).1).most), Sl a2 ((((queuePut q x1).1).wait).length) c2]]] ((.cons _ (.cons _ (.cons _ (.cons _ (.cons_cons _ (.cons_cons _ (.cons_cons _ .slnil)))))))) ?_
                  exact tq_rnd ((k + 1, a3, c3, r2, xi ++ [x1], ao, co, ro, xo, ((queuePut q x1).1), a2, c2, G7)) ⟨(Mem.le_trans hle (Mem.le_trans hl6 hl7)), (by omega), (hr2.mono hl7), (hro.mono (Mem.le_trans hl6 hl7)), (by first | assumption | omega | (simp; done) | (simp; omega)), (hs5.mono hl7), (by first | exact ord_0 hI (by omega) | exact ord_p hI (by omega) (by assumption) | exact ord_t (ord_0 hI (by omega)) (by assumption) | exact ord_t (ord_p hI (by omega) (by assumption)) (by assumption))⟩ (by (try dsimp only); omega)
              refine act_of 10 [] (fun X => ?_)
              refine runL_box 15 #[I 0, Sl none 0 0] 90 (fun b9 => ?_)
              refine act_end (V' := [(0, .agg #[I (((queuePut q x1).1).most), Sl a2 ((((queuePut q x1).1).wait).length) c2]), (1, Sl (At b7 o2) takes.length c_takes), (2, I ((k : Int))), (3, Pt b7 (o2 + k * 1)), (4, I x2), (10, Pt b9 0)]) ?_
              refine dr_mid [] [(0,14), (1,0), (2,0)] [3, 4] [5] (List.forall_mem_cons.2 ⟨?_, (List.forall_mem_cons.2 ⟨?_, List.forall_mem_nil _⟩)⟩) (List.forall_mem_cons.2 ⟨?_, List.forall_mem_nil _⟩)
              · refine stab_of 3 63 (Pt b7 (o2 + k * 1)) [(61, Sl (At b7 o2) takes.length c_takes), (62, I ((k : Int)))] (fun X => ?_)
                exact runL_idx (b := b7) (off := o2) (len := takes.length) (cap := c_takes) (ik := .i64) 63 3 1 k (by first | omega | (have := hI.olen; omega)) stab_end
              · refine stab_of 4 64 (I x2) [(63, Pt b7 (o2 + k * 1))] (fun X => ?_)
                exact runL_ldG 64 3 (cs := [I x2]) 0 (I x2) hc2 stab_end
              refine act_of 5 [(60, .agg #[I (((queuePut q x1).1).most), Sl a2 ((((queuePut q x1).1).wait).length) c2]), (64, I x2)] (fun X => ?_)
              refine runL_callR 65 (queueTake_con G6 [I (((queuePut q x1).1).most), Sl a2 ((((queuePut q x1).1).wait).length) c2] (((queuePut q x1).1)) (⟨a2, c2, rfl, (by first | assumption | omega | (simp; done) | (simp; omega)), hs5⟩) x2) (fun v G8 L1 hl8 hp => ?_)
              obtain ⟨a7, c7, a8, c8, rfl, w8, hs8, hs9, rfl⟩ := hp
              refine act_end (V' := [(0, .agg #[I (((queuePut q x1).1).most), Sl a2 ((((queuePut q x1).1).wait).length) c2]), (1, Sl (At b7 o2) takes.length c_takes), (2, I ((k : Int))), (3, Pt b7 (o2 + k * 1)), (4, I x2), (5, .tuple #[.agg #[I (((queueTake (((queuePut q x1).1)) x2).1).most), Sl a7 ((((queueTake (((queuePut q x1).1)) x2).1).wait).length) c7], Sl a8 (((queueTake (((queuePut q x1).1)) x2).2.1).length) c8, I ((queueTake (((queuePut q x1).1)) x2).2.2)]), (6, .tuple #[.agg #[I (((queueTake (((queuePut q x1).1)) x2).1).most), Sl a7 ((((queueTake (((queuePut q x1).1)) x2).1).wait).length) c7], Sl a8 (((queueTake (((queuePut q x1).1)) x2).2.1).length) c8, I ((queueTake (((queuePut q x1).1)) x2).2.2)]), (7, .agg #[I (((queueTake (((queuePut q x1).1)) x2).1).most), Sl a7 ((((queueTake (((queuePut q x1).1)) x2).1).wait).length) c7]), (8, Sl a8 (((queueTake (((queuePut q x1).1)) x2).2.1).length) c8), (9, I ((queueTake (((queuePut q x1).1)) x2).2.2)), (10, Pt b9 0)]) ?_
              refine dr_mid [0, 1, 2, 3, 4] [(6,0), (7,0), (8,0), (9,0)] [] [11] (List.forall_mem_nil _) (List.forall_mem_cons.2 ⟨?_, List.forall_mem_nil _⟩)
              refine act_of 11 [(15, Pt b9 0), (66, .agg #[I (((queueTake (((queuePut q x1).1)) x2).1).most), Sl a7 ((((queueTake (((queuePut q x1).1)) x2).1).wait).length) c7])] (fun X => ?_)
              refine runL_st 0 [[Sg b9 0 [I (((queueTake (((queuePut q x1).1)) x2).1).most), Sl a7 ((((queueTake (((queuePut q x1).1)) x2).1).wait).length) c7]], [Sg b6 0 [Sr x1.name, Sr x1.value, U x1.n, U x1.tag]], [Sg b5 0 [I (((queuePut q x1).1).most), Sl a2 ((((queuePut q x1).1).wait).length) c2]], [Sg b3 0 [Sr x1.name, Sr x1.value, U x1.n, U x1.tag]], ro, r2, [Sg b1 0 [I (((queuePut q x1).1).most), Sl a2 ((((queuePut q x1).1).wait).length) c2]]] ?_
              refine act_end0 (V' := [(0, .agg #[I (((queuePut q x1).1).most), Sl a2 ((((queuePut q x1).1).wait).length) c2]), (1, Sl (At b7 o2) takes.length c_takes), (2, I ((k : Int))), (3, Pt b7 (o2 + k * 1)), (4, I x2), (5, .tuple #[.agg #[I (((queueTake (((queuePut q x1).1)) x2).1).most), Sl a7 ((((queueTake (((queuePut q x1).1)) x2).1).wait).length) c7], Sl a8 (((queueTake (((queuePut q x1).1)) x2).2.1).length) c8, I ((queueTake (((queuePut q x1).1)) x2).2.2)]), (6, .tuple #[.agg #[I (((queueTake (((queuePut q x1).1)) x2).1).most), Sl a7 ((((queueTake (((queuePut q x1).1)) x2).1).wait).length) c7], Sl a8 (((queueTake (((queuePut q x1).1)) x2).2.1).length) c8, I ((queueTake (((queuePut q x1).1)) x2).2.2)]), (7, .agg #[I (((queueTake (((queuePut q x1).1)) x2).1).most), Sl a7 ((((queueTake (((queuePut q x1).1)) x2).1).wait).length) c7]), (8, Sl a8 (((queueTake (((queuePut q x1).1)) x2).2.1).length) c8), (9, I ((queueTake (((queuePut q x1).1)) x2).2.2)), (10, Pt b9 0), (12, Sl a8 (((queueTake (((queuePut q x1).1)) x2).2.1).length) c8), (13, I ((queueTake (((queuePut q x1).1)) x2).2.2))]) ?_
              refine dr_end [0, 1, 2, 3, 4, 6, 7] [(8,0), (9,0), (12,0), (13,0)] [] [(0, I most), (2, Sl (At b7 o2) takes.length c_takes), (7, Pt b1 0), (8, Sl a3 ((xi ++ [x1]).length) c3), (9, Sl ao xo.length co), (10, I ((k : Int))), (11, Pt b3 0), (12, Pt b5 0), (13, I ((queuePut q x1).2.1)), (14, I ((queuePut q x1).2.2)), (15, Pt b9 0), (16, Sl a8 (((queueTake (((queuePut q x1).1)) x2).2.1).length) c8), (17, I ((queueTake (((queuePut q x1).1)) x2).2.2)), (19, Bo false), (24, Bo (!decide (queueCheck ((⟨most, []⟩ : QueueD)) = 0))), (25, Sl (At b2 o1) l.length c_l), (26, I (((l.length : Nat) : Int))), (27, I ((k : Int))), (28, Bo (decide ((k : Int) < ((l.length : Nat) : Int)))), (33, Bo (decide ((k : Int) ≥ 100))), (42, Bo (decide ((queuePut q x1).2.2 = 0))), (49, Bo (!decide ((queuePut q x1).2.1 = (((xi.length : Nat) : Int)) - (((xo.length : Nat) : Int))))), (58, Bo (decide ((k : Int) < ((takes.length : Nat) : Int))))] (List.forall_mem_nil _) ?_
              refine tq_then ?_
              refine tc_rb [0,0] [(0, I most), (2, Sl (At b7 o2) takes.length c_takes), (7, Pt b1 0), (8, Sl a3 ((xi ++ [x1]).length) c3), (9, Sl ao xo.length co), (10, I ((k : Int))), (11, Pt b3 0), (12, Pt b5 0), (13, I ((queuePut q x1).2.1)), (14, I ((queuePut q x1).2.2)), (15, Pt b9 0), (16, Sl a8 (((queueTake (((queuePut q x1).1)) x2).2.1).length) c8), (17, I ((queueTake (((queuePut q x1).1)) x2).2.2)), (19, Bo false), (24, Bo (!decide (queueCheck ((⟨most, []⟩ : QueueD)) = 0))), (25, Sl (At b2 o1) l.length c_l), (26, I (((l.length : Nat) : Int))), (27, I ((k : Int))), (28, Bo (decide ((k : Int) < ((l.length : Nat) : Int)))), (33, Bo (decide ((k : Int) ≥ 100))), (42, Bo (decide ((queuePut q x1).2.2 = 0))), (49, Bo (!decide ((queuePut q x1).2.1 = (((xi.length : Nat) : Int)) - (((xo.length : Nat) : Int))))), (58, Bo (decide ((k : Int) < ((takes.length : Nat) : Int)))), (70, Bo (decide ((queueTake (((queuePut q x1).1)) x2).2.2 = 0)))] ?_
              refine tc_cond (decide ((queueTake (((queuePut q x1).1)) x2).2.2 = 0)) (fun h9 => ?_) (fun h9 => ?_)
              ·
                try simp only [decide_eq_true_eq, decide_eq_false_iff_not, Bool.and_eq_true, Bool.or_eq_true, Bool.and_eq_false_imp, Bool.or_eq_false_iff, Bool.not_eq_true', Bool.not_eq_false', Bool.not_eq_true, Bool.not_eq_false, beq_iff_eq, beq_eq_false_iff_ne, bne_iff_ne, ne_eq, Decidable.not_not, Int.not_lt, Int.not_le] at h9
                refine tc_draw [3, 4] ?_
                refine dr_V [(0, .agg #[I (((queueTake (((queuePut q x1).1)) x2).1).most), Sl a7 ((((queueTake (((queuePut q x1).1)) x2).1).wait).length) c7]), (1, Sl ao xo.length co), (2, Sl a8 (((queueTake (((queuePut q x1).1)) x2).2.1).length) c8)] ?_
                refine dr_mid [] [(0,2), (1,0), (2,0)] [] [3] (List.forall_mem_nil _) (List.forall_mem_cons.2 ⟨?_, List.forall_mem_nil _⟩)
                refine act_of 3 [(72, Sl ao xo.length co), (73, Sl a8 (((queueTake (((queuePut q x1).1)) x2).2.1).length) c8)] (fun X => ?_)
                refine runL_app' 74 93 4 (E := EAsk) (hro.mono (Mem.le_trans hl6 hl8)) hs9 (by first | (have := hI.olen; (try simp only [EAsk, List.length_append, List.length_cons, List.length_nil]); omega) | (have := (ord_t (ord_p hI (by omega) (by assumption)) (by assumption)).olen; simp only [List.length_append] at this; (try simp only [EAsk, List.length_append, List.length_cons, List.length_nil]); omega) | (have := (ord_t (ord_0 hI (by omega)) (by assumption)).olen; simp only [List.length_append] at this; (try simp only [EAsk, List.length_append, List.length_cons, List.length_nil]); omega)) (by first | (have := hI.olen; (try simp only [EAsk, List.length_append, List.length_cons, List.length_nil]); omega) | (have := (ord_t (ord_p hI (by omega) (by assumption)) (by assumption)).olen; simp only [List.length_append] at this; (try simp only [EAsk, List.length_append, List.length_cons, List.length_nil]); omega) | (have := (ord_t (ord_0 hI (by omega)) (by assumption)).olen; simp only [List.length_append] at this; (try simp only [EAsk, List.length_append, List.length_cons, List.length_nil]); omega)) (fun a9 c9 r4 hr4 => ?_)
                refine act_end (V' := [(0, .agg #[I (((queueTake (((queuePut q x1).1)) x2).1).most), Sl a7 ((((queueTake (((queuePut q x1).1)) x2).1).wait).length) c7]), (1, Sl ao xo.length co), (2, Sl a8 (((queueTake (((queuePut q x1).1)) x2).2.1).length) c8), (3, Sl a9 ((xo ++ ((queueTake (((queuePut q x1).1)) x2).2.1)).length) c9)]) ?_
                refine dr_mid [1, 2] [(0,2)] [] [4] (List.forall_mem_nil _) (List.forall_mem_cons.2 ⟨?_, List.forall_mem_nil _⟩)
                refine act_of 4 [(7, Pt b1 0), (71, .agg #[I (((queueTake (((queuePut q x1).1)) x2).1).most), Sl a7 ((((queueTake (((queuePut q x1).1)) x2).1).wait).length) c7])] (fun X => ?_)
                refine runL_st 6 [[Sg b9 0 [I (((queueTake (((queuePut q x1).1)) x2).1).most), Sl a7 ((((queueTake (((queuePut q x1).1)) x2).1).wait).length) c7]], [Sg b6 0 [Sr x1.name, Sr x1.value, U x1.n, U x1.tag]], [Sg b5 0 [I (((queuePut q x1).1).most), Sl a2 ((((queuePut q x1).1).wait).length) c2]], [Sg b3 0 [Sr x1.name, Sr x1.value, U x1.n, U x1.tag]], r4, r2, [Sg b1 0 [I (((queueTake (((queuePut q x1).1)) x2).1).most), Sl a7 ((((queueTake (((queuePut q x1).1)) x2).1).wait).length) c7]]] ?_
                refine act_end0 (V' := [(0, .agg #[I (((queueTake (((queuePut q x1).1)) x2).1).most), Sl a7 ((((queueTake (((queuePut q x1).1)) x2).1).wait).length) c7]), (1, Sl ao xo.length co), (2, Sl a8 (((queueTake (((queuePut q x1).1)) x2).2.1).length) c8), (3, Sl a9 ((xo ++ ((queueTake (((queuePut q x1).1)) x2).2.1)).length) c9), (5, Sl a9 ((xo ++ ((queueTake (((queuePut q x1).1)) x2).2.1)).length) c9)]) ?_
                refine dr_end [0, 1, 2] [(5,0)] [] [(0, I most), (2, Sl (At b7 o2) takes.length c_takes), (7, Pt b1 0), (8, Sl a3 ((xi ++ [x1]).length) c3), (9, Sl a9 ((xo ++ ((queueTake (((queuePut q x1).1)) x2).2.1)).length) c9), (10, I ((k : Int))), (11, Pt b3 0), (12, Pt b5 0), (13, I ((queuePut q x1).2.1)), (14, I ((queuePut q x1).2.2)), (15, Pt b9 0), (16, Sl a8 (((queueTake (((queuePut q x1).1)) x2).2.1).length) c8), (17, I ((queueTake (((queuePut q x1).1)) x2).2.2)), (19, Bo false), (24, Bo (!decide (queueCheck ((⟨most, []⟩ : QueueD)) = 0))), (25, Sl (At b2 o1) l.length c_l), (26, I (((l.length : Nat) : Int))), (27, I ((k : Int))), (28, Bo (decide ((k : Int) < ((l.length : Nat) : Int)))), (33, Bo (decide ((k : Int) ≥ 100))), (42, Bo (decide ((queuePut q x1).2.2 = 0))), (49, Bo (!decide ((queuePut q x1).2.1 = (((xi.length : Nat) : Int)) - (((xo.length : Nat) : Int))))), (58, Bo (decide ((k : Int) < ((takes.length : Nat) : Int)))), (70, Bo (decide ((queueTake (((queuePut q x1).1)) x2).2.2 = 0)))] (List.forall_mem_nil _) ?_
                refine tq_block ?_
                refine tq_then ?_
                refine tc_region ?_
                refine runL_b [0,0] [(0, I most), (2, Sl (At b7 o2) takes.length c_takes), (7, Pt b1 0), (8, Sl a3 ((xi ++ [x1]).length) c3), (9, Sl a9 ((xo ++ ((queueTake (((queuePut q x1).1)) x2).2.1)).length) c9), (10, I ((k : Int))), (11, Pt b3 0), (12, Pt b5 0), (13, I ((queuePut q x1).2.1)), (14, I ((queuePut q x1).2.2)), (15, Pt b9 0), (16, Sl a8 (((queueTake (((queuePut q x1).1)) x2).2.1).length) c8), (17, I ((queueTake (((queuePut q x1).1)) x2).2.2)), (19, Bo false), (24, Bo (!decide (queueCheck ((⟨most, []⟩ : QueueD)) = 0))), (25, Sl (At b2 o1) l.length c_l), (26, I (((l.length : Nat) : Int))), (27, I (IntKind.i64.wrap (((k : Int)) + 1))), (28, Bo (decide ((k : Int) < ((l.length : Nat) : Int)))), (33, Bo (decide ((k : Int) ≥ 100))), (42, Bo (decide ((queuePut q x1).2.2 = 0))), (49, Bo (!decide ((queuePut q x1).2.1 = (((xi.length : Nat) : Int)) - (((xo.length : Nat) : Int))))), (58, Bo (decide ((k : Int) < ((takes.length : Nat) : Int)))), (70, Bo (decide ((queueTake (((queuePut q x1).1)) x2).2.2 = 0)))] ?_
                have e4 : IntKind.i64.wrap (((k : Int)) + 1) = ((k : Int)) + 1 := IntWalk.i64_in _ (by first | omega | (have := hI.olen; omega))
                refine runL_eq (fr' := [(0, I most), (2, Sl (At b7 o2) takes.length c_takes), (7, Pt b1 0), (8, Sl a3 ((xi ++ [x1]).length) c3), (9, Sl a9 ((xo ++ ((queueTake (((queuePut q x1).1)) x2).2.1)).length) c9), (10, I ((k : Int))), (11, Pt b3 0), (12, Pt b5 0), (13, I ((queuePut q x1).2.1)), (14, I ((queuePut q x1).2.2)), (15, Pt b9 0), (16, Sl a8 (((queueTake (((queuePut q x1).1)) x2).2.1).length) c8), (17, I ((queueTake (((queuePut q x1).1)) x2).2.2)), (19, Bo false), (24, Bo (!decide (queueCheck ((⟨most, []⟩ : QueueD)) = 0))), (25, Sl (At b2 o1) l.length c_l), (26, I (((l.length : Nat) : Int))), (27, I (((k : Int)) + 1)), (28, Bo (decide ((k : Int) < ((l.length : Nat) : Int)))), (33, Bo (decide ((k : Int) ≥ 100))), (42, Bo (decide ((queuePut q x1).2.2 = 0))), (49, Bo (!decide ((queuePut q x1).2.1 = (((xi.length : Nat) : Int)) - (((xo.length : Nat) : Int))))), (58, Bo (decide ((k : Int) < ((takes.length : Nat) : Int)))), (70, Bo (decide ((queueTake (((queuePut q x1).1)) x2).2.2 = 0)))]) (L' := [[Sg b9 0 [I (((queueTake (((queuePut q x1).1)) x2).1).most), Sl a7 ((((queueTake (((queuePut q x1).1)) x2).1).wait).length) c7]], [Sg b6 0 [Sr x1.name, Sr x1.value, U x1.n, U x1.tag]], [Sg b5 0 [I (((queuePut q x1).1).most), Sl a2 ((((queuePut q x1).1).wait).length) c2]], [Sg b3 0 [Sr x1.name, Sr x1.value, U x1.n, U x1.tag]], r4, r2, [Sg b1 0 [I (((queueTake (((queuePut q x1).1)) x2).1).most), Sl a7 ((((queueTake (((queuePut q x1).1)) x2).1).wait).length) c7]]]) (by simp only [e4]) (by rfl) ?_
                clear e4
                refine runL_nil ?_
                refine tq_owns [r4, r2, [Sg b1 0 [I (((queueTake (((queuePut q x1).1)) x2).1).most), Sl a7 ((((queueTake (((queuePut q x1).1)) x2).1).wait).length) c7]]] ((.cons _ (.cons _ (.cons _ (.cons _ (.cons_cons _ (.cons_cons _ (.cons_cons _ .slnil)))))))) ?_
                exact tq_rnd ((k + 1, a3, c3, r2, xi ++ [x1], a9, c9, r4, xo ++ ((queueTake (((queuePut q x1).1)) x2).2.1), ((queueTake (((queuePut q x1).1)) x2).1), a7, c7, G8)) ⟨(Mem.le_trans hle (Mem.le_trans hl6 hl8)), (by omega), (hr2.mono hl8), hr4, (by first | assumption | omega | (simp; done) | (simp; omega)), hs8, (by first | exact ord_0 hI (by omega) | exact ord_p hI (by omega) (by assumption) | exact ord_t (ord_0 hI (by omega)) (by assumption) | exact ord_t (ord_p hI (by omega) (by assumption)) (by assumption))⟩ (by (try dsimp only); omega)
              ·
                try simp only [decide_eq_true_eq, decide_eq_false_iff_not, Bool.and_eq_true, Bool.or_eq_true, Bool.and_eq_false_imp, Bool.or_eq_false_iff, Bool.not_eq_true', Bool.not_eq_false', Bool.not_eq_true, Bool.not_eq_false, beq_iff_eq, beq_eq_false_iff_ne, bne_iff_ne, ne_eq, Decidable.not_not, Int.not_lt, Int.not_le] at h9
                refine tc_skip ?_
                refine tq_block ?_
                refine tq_then ?_
                refine tc_region ?_
                refine runL_b [0,0] [(0, I most), (2, Sl (At b7 o2) takes.length c_takes), (7, Pt b1 0), (8, Sl a3 ((xi ++ [x1]).length) c3), (9, Sl ao xo.length co), (10, I ((k : Int))), (11, Pt b3 0), (12, Pt b5 0), (13, I ((queuePut q x1).2.1)), (14, I ((queuePut q x1).2.2)), (15, Pt b9 0), (16, Sl a8 (((queueTake (((queuePut q x1).1)) x2).2.1).length) c8), (17, I ((queueTake (((queuePut q x1).1)) x2).2.2)), (19, Bo false), (24, Bo (!decide (queueCheck ((⟨most, []⟩ : QueueD)) = 0))), (25, Sl (At b2 o1) l.length c_l), (26, I (((l.length : Nat) : Int))), (27, I (IntKind.i64.wrap (((k : Int)) + 1))), (28, Bo (decide ((k : Int) < ((l.length : Nat) : Int)))), (33, Bo (decide ((k : Int) ≥ 100))), (42, Bo (decide ((queuePut q x1).2.2 = 0))), (49, Bo (!decide ((queuePut q x1).2.1 = (((xi.length : Nat) : Int)) - (((xo.length : Nat) : Int))))), (58, Bo (decide ((k : Int) < ((takes.length : Nat) : Int)))), (70, Bo (decide ((queueTake (((queuePut q x1).1)) x2).2.2 = 0)))] ?_
                have e5 : IntKind.i64.wrap (((k : Int)) + 1) = ((k : Int)) + 1 := IntWalk.i64_in _ (by first | omega | (have := hI.olen; omega))
                refine runL_eq (fr' := [(0, I most), (2, Sl (At b7 o2) takes.length c_takes), (7, Pt b1 0), (8, Sl a3 ((xi ++ [x1]).length) c3), (9, Sl ao xo.length co), (10, I ((k : Int))), (11, Pt b3 0), (12, Pt b5 0), (13, I ((queuePut q x1).2.1)), (14, I ((queuePut q x1).2.2)), (15, Pt b9 0), (16, Sl a8 (((queueTake (((queuePut q x1).1)) x2).2.1).length) c8), (17, I ((queueTake (((queuePut q x1).1)) x2).2.2)), (19, Bo false), (24, Bo (!decide (queueCheck ((⟨most, []⟩ : QueueD)) = 0))), (25, Sl (At b2 o1) l.length c_l), (26, I (((l.length : Nat) : Int))), (27, I (((k : Int)) + 1)), (28, Bo (decide ((k : Int) < ((l.length : Nat) : Int)))), (33, Bo (decide ((k : Int) ≥ 100))), (42, Bo (decide ((queuePut q x1).2.2 = 0))), (49, Bo (!decide ((queuePut q x1).2.1 = (((xi.length : Nat) : Int)) - (((xo.length : Nat) : Int))))), (58, Bo (decide ((k : Int) < ((takes.length : Nat) : Int)))), (70, Bo (decide ((queueTake (((queuePut q x1).1)) x2).2.2 = 0)))]) (L' := [[Sg b9 0 [I (((queueTake (((queuePut q x1).1)) x2).1).most), Sl a7 ((((queueTake (((queuePut q x1).1)) x2).1).wait).length) c7]], [Sg b6 0 [Sr x1.name, Sr x1.value, U x1.n, U x1.tag]], [Sg b5 0 [I (((queuePut q x1).1).most), Sl a2 ((((queuePut q x1).1).wait).length) c2]], [Sg b3 0 [Sr x1.name, Sr x1.value, U x1.n, U x1.tag]], ro, r2, [Sg b1 0 [I (((queuePut q x1).1).most), Sl a2 ((((queuePut q x1).1).wait).length) c2]]]) (by simp only [e5]) (by rfl) ?_
                clear e5
                refine runL_nil ?_
                refine tq_owns [ro, r2, [Sg b1 0 [I (((queuePut q x1).1).most), Sl a2 ((((queuePut q x1).1).wait).length) c2]]] ((.cons _ (.cons _ (.cons _ (.cons _ (.cons_cons _ (.cons_cons _ (.cons_cons _ .slnil)))))))) ?_
                exact tq_rnd ((k + 1, a3, c3, r2, xi ++ [x1], ao, co, ro, xo, ((queuePut q x1).1), a2, c2, G8)) ⟨(Mem.le_trans hle (Mem.le_trans hl6 hl8)), (by omega), (hr2.mono hl8), (hro.mono (Mem.le_trans hl6 hl8)), (by first | assumption | omega | (simp; done) | (simp; omega)), (hs5.mono hl8), (by first | exact ord_0 hI (by omega) | exact ord_p hI (by omega) (by assumption) | exact ord_t (ord_0 hI (by omega)) (by assumption) | exact ord_t (ord_p hI (by omega) (by assumption)) (by assumption))⟩ (by (try dsimp only); omega)
            ·
              try simp only [decide_eq_true_eq, decide_eq_false_iff_not, Bool.and_eq_true, Bool.or_eq_true, Bool.and_eq_false_imp, Bool.or_eq_false_iff, Bool.not_eq_true', Bool.not_eq_false', Bool.not_eq_true, Bool.not_eq_false, beq_iff_eq, beq_eq_false_iff_ne, bne_iff_ne, ne_eq, Decidable.not_not, Int.not_lt, Int.not_le] at h7
              refine tc_skip ?_
              refine tq_block ?_
              refine tq_then ?_
              refine tc_region ?_
              refine runL_b [0,0] [(0, I most), (2, Sl a_takes takes.length c_takes), (7, Pt b1 0), (8, Sl a3 ((xi ++ [x1]).length) c3), (9, Sl ao xo.length co), (10, I ((k : Int))), (11, Pt b3 0), (12, Pt b5 0), (13, I ((queuePut q x1).2.1)), (14, I ((queuePut q x1).2.2)), (19, Bo false), (24, Bo (!decide (queueCheck ((⟨most, []⟩ : QueueD)) = 0))), (25, Sl (At b2 o1) l.length c_l), (26, I (((l.length : Nat) : Int))), (27, I (IntKind.i64.wrap (((k : Int)) + 1))), (28, Bo (decide ((k : Int) < ((l.length : Nat) : Int)))), (33, Bo (decide ((k : Int) ≥ 100))), (42, Bo (decide ((queuePut q x1).2.2 = 0))), (49, Bo (!decide ((queuePut q x1).2.1 = (((xi.length : Nat) : Int)) - (((xo.length : Nat) : Int))))), (58, Bo (decide ((k : Int) < ((takes.length : Nat) : Int))))] ?_
              have e6 : IntKind.i64.wrap (((k : Int)) + 1) = ((k : Int)) + 1 := IntWalk.i64_in _ (by first | omega | (have := hI.olen; omega))
              refine runL_eq (fr' := [(0, I most), (2, Sl a_takes takes.length c_takes), (7, Pt b1 0), (8, Sl a3 ((xi ++ [x1]).length) c3), (9, Sl ao xo.length co), (10, I ((k : Int))), (11, Pt b3 0), (12, Pt b5 0), (13, I ((queuePut q x1).2.1)), (14, I ((queuePut q x1).2.2)), (19, Bo false), (24, Bo (!decide (queueCheck ((⟨most, []⟩ : QueueD)) = 0))), (25, Sl (At b2 o1) l.length c_l), (26, I (((l.length : Nat) : Int))), (27, I (((k : Int)) + 1)), (28, Bo (decide ((k : Int) < ((l.length : Nat) : Int)))), (33, Bo (decide ((k : Int) ≥ 100))), (42, Bo (decide ((queuePut q x1).2.2 = 0))), (49, Bo (!decide ((queuePut q x1).2.1 = (((xi.length : Nat) : Int)) - (((xo.length : Nat) : Int))))), (58, Bo (decide ((k : Int) < ((takes.length : Nat) : Int))))]) (L' := [[Sg b6 0 [Sr x1.name, Sr x1.value, U x1.n, U x1.tag]], [Sg b5 0 [I (((queuePut q x1).1).most), Sl a2 ((((queuePut q x1).1).wait).length) c2]], [Sg b3 0 [Sr x1.name, Sr x1.value, U x1.n, U x1.tag]], ro, r2, [Sg b1 0 [I (((queuePut q x1).1).most), Sl a2 ((((queuePut q x1).1).wait).length) c2]]]) (by simp only [e6]) (by rfl) ?_
              clear e6
              refine runL_nil ?_
              refine tq_owns [ro, r2, [Sg b1 0 [I (((queuePut q x1).1).most), Sl a2 ((((queuePut q x1).1).wait).length) c2]]] ((.cons _ (.cons _ (.cons _ (.cons_cons _ (.cons_cons _ (.cons_cons _ .slnil))))))) ?_
              exact tq_rnd ((k + 1, a3, c3, r2, xi ++ [x1], ao, co, ro, xo, ((queuePut q x1).1), a2, c2, G6)) ⟨(Mem.le_trans hle hl6), (by omega), hr2, (hro.mono hl6), (by first | assumption | omega | (simp; done) | (simp; omega)), hs5, (by first | exact ord_0 hI (by omega) | exact ord_p hI (by omega) (by assumption) | exact ord_t (ord_0 hI (by omega)) (by assumption) | exact ord_t (ord_p hI (by omega) (by assumption)) (by assumption))⟩ (by (try dsimp only); omega)
        ·
          try simp only [decide_eq_true_eq, decide_eq_false_iff_not, Bool.and_eq_true, Bool.or_eq_true, Bool.and_eq_false_imp, Bool.or_eq_false_iff, Bool.not_eq_true', Bool.not_eq_false', Bool.not_eq_true, Bool.not_eq_false, beq_iff_eq, beq_eq_false_iff_ne, bne_iff_ne, ne_eq, Decidable.not_not, Int.not_lt, Int.not_le] at h5
          refine tc_skip ?_
          refine tq_then ?_
          refine tc_rb [0,0,0,0] [(0, I most), (2, Sl a_takes takes.length c_takes), (7, Pt b1 0), (8, Sl ai xi.length ci), (9, Sl ao xo.length co), (10, I ((k : Int))), (11, Pt b3 0), (12, Pt b5 0), (13, I ((queuePut q x1).2.1)), (14, I ((queuePut q x1).2.2)), (19, Bo false), (24, Bo (!decide (queueCheck ((⟨most, []⟩ : QueueD)) = 0))), (25, Sl (At b2 o1) l.length c_l), (26, I (((l.length : Nat) : Int))), (27, I ((k : Int))), (28, Bo (decide ((k : Int) < ((l.length : Nat) : Int)))), (33, Bo (decide ((k : Int) ≥ 100))), (42, Bo (decide ((queuePut q x1).2.2 = 0))), (58, Bo (decide ((k : Int) < ((takes.length : Nat) : Int))))] ?_
          refine tc_cond (decide ((k : Int) < ((takes.length : Nat) : Int))) (fun h10 => ?_) (fun h10 => ?_)
          ·
            try simp only [decide_eq_true_eq, decide_eq_false_iff_not, Bool.and_eq_true, Bool.or_eq_true, Bool.and_eq_false_imp, Bool.or_eq_false_iff, Bool.not_eq_true', Bool.not_eq_false', Bool.not_eq_true, Bool.not_eq_false, beq_iff_eq, beq_eq_false_iff_ne, bne_iff_ne, ne_eq, Decidable.not_not, Int.not_lt, Int.not_le] at h10
            refine tc_seq ?_
            obtain ⟨b10, o3, rfl⟩ := RS.addr (h_takes.mono (Mem.le_trans hle hl6)) (k := k) (by first | omega | (have := hI.olen; omega))
            obtain ⟨x3, hx3⟩ := getX (l := takes) (k := k) (by first | omega | (have := hI.olen; omega))
            obtain ⟨_, ⟨rfl, w9⟩, hc3⟩ := RS.get (h_takes.mono (Mem.le_trans hle hl6)) hx3
            refine tc_draw [5, 10, 11] ?_
            refine dr_V [(0, .agg #[I q.most, Sl aq0 q.wait.length cq0]), (1, Sl (At b10 o3) takes.length c_takes), (2, I ((k : Int))), (3, Pt b10 (o3 + k * 1)), (4, I x3)] ?_
            refine dr_mid [] [(0,10), (1,0), (2,0)] [3, 4] [5, 10] (List.forall_mem_cons.2 ⟨?_, (List.forall_mem_cons.2 ⟨?_, List.forall_mem_nil _⟩)⟩) (List.forall_mem_cons.2 ⟨?_, (List.forall_mem_cons.2 ⟨?_, List.forall_mem_nil _⟩)⟩)
            · refine stab_of 3 63 (Pt b10 (o3 + k * 1)) [(61, Sl (At b10 o3) takes.length c_takes), (62, I ((k : Int)))] (fun X => ?_)
              exact runL_idx (b := b10) (off := o3) (len := takes.length) (cap := c_takes) (ik := .i64) 63 3 1 k (by first | omega | (have := hI.olen; omega)) stab_end
            · refine stab_of 4 64 (I x3) [(63, Pt b10 (o3 + k * 1))] (fun X => ?_)
              exact runL_ldG 64 3 (cs := [I x3]) 0 (I x3) hc3 stab_end
            ·
              refine act_of 5 [(60, .agg #[I q.most, Sl aq0 q.wait.length cq0]), (64, I x3)] (fun X => ?_)
              refine runL_callR 65 (queueTake_con G6 [I q.most, Sl aq0 q.wait.length cq0] q (⟨aq0, cq0, rfl, hq0, (hq1.mono hl6)⟩) x3) (fun v G9 L1 hl9 hp => ?_)
              obtain ⟨a10, c10, a11, c11, rfl, w10, hs10, hs11, rfl⟩ := hp
              refine act_end (V' := [(0, .agg #[I q.most, Sl aq0 q.wait.length cq0]), (1, Sl (At b10 o3) takes.length c_takes), (2, I ((k : Int))), (3, Pt b10 (o3 + k * 1)), (4, I x3), (5, .tuple #[.agg #[I (((queueTake q x3).1).most), Sl a10 ((((queueTake q x3).1).wait).length) c10], Sl a11 (((queueTake q x3).2.1).length) c11, I ((queueTake q x3).2.2)]), (6, .tuple #[.agg #[I (((queueTake q x3).1).most), Sl a10 ((((queueTake q x3).1).wait).length) c10], Sl a11 (((queueTake q x3).2.1).length) c11, I ((queueTake q x3).2.2)]), (7, .agg #[I (((queueTake q x3).1).most), Sl a10 ((((queueTake q x3).1).wait).length) c10]), (8, Sl a11 (((queueTake q x3).2.1).length) c11), (9, I ((queueTake q x3).2.2))]) ?_
              refine dr_mid [0, 1, 2, 3, 4] [(6,0), (7,0), (8,0), (9,0)] [] [10] (List.forall_mem_nil _) (List.forall_mem_cons.2 ⟨?_, List.forall_mem_nil _⟩)
              refine act_of 10 [] (fun X => ?_)
              refine runL_box 15 #[I 0, Sl none 0 0] 90 (fun b11 => ?_)
              refine act_end (V' := [(0, .agg #[I q.most, Sl aq0 q.wait.length cq0]), (1, Sl (At b10 o3) takes.length c_takes), (2, I ((k : Int))), (3, Pt b10 (o3 + k * 1)), (4, I x3), (5, .tuple #[.agg #[I (((queueTake q x3).1).most), Sl a10 ((((queueTake q x3).1).wait).length) c10], Sl a11 (((queueTake q x3).2.1).length) c11, I ((queueTake q x3).2.2)]), (6, .tuple #[.agg #[I (((queueTake q x3).1).most), Sl a10 ((((queueTake q x3).1).wait).length) c10], Sl a11 (((queueTake q x3).2.1).length) c11, I ((queueTake q x3).2.2)]), (7, .agg #[I (((queueTake q x3).1).most), Sl a10 ((((queueTake q x3).1).wait).length) c10]), (8, Sl a11 (((queueTake q x3).2.1).length) c11), (9, I ((queueTake q x3).2.2)), (10, Pt b11 0)]) ?_
              refine dr_mid [0, 1, 2, 3, 4] [(6,0), (7,0), (8,0), (9,0)] [] [11] (List.forall_mem_nil _) (List.forall_mem_cons.2 ⟨?_, List.forall_mem_nil _⟩)
              refine act_of 11 [(15, Pt b11 0), (66, .agg #[I (((queueTake q x3).1).most), Sl a10 ((((queueTake q x3).1).wait).length) c10])] (fun X => ?_)
              refine runL_st 0 [[Sg b11 0 [I (((queueTake q x3).1).most), Sl a10 ((((queueTake q x3).1).wait).length) c10]], [Sg b5 0 [I (((queuePut q x1).1).most), Sl a2 ((((queuePut q x1).1).wait).length) c2]], [Sg b3 0 [Sr x1.name, Sr x1.value, U x1.n, U x1.tag]], ro, ri, [Sg b1 0 [I q.most, Sl aq0 q.wait.length cq0]]] ?_
              refine act_end0 (V' := [(0, .agg #[I q.most, Sl aq0 q.wait.length cq0]), (1, Sl (At b10 o3) takes.length c_takes), (2, I ((k : Int))), (3, Pt b10 (o3 + k * 1)), (4, I x3), (5, .tuple #[.agg #[I (((queueTake q x3).1).most), Sl a10 ((((queueTake q x3).1).wait).length) c10], Sl a11 (((queueTake q x3).2.1).length) c11, I ((queueTake q x3).2.2)]), (6, .tuple #[.agg #[I (((queueTake q x3).1).most), Sl a10 ((((queueTake q x3).1).wait).length) c10], Sl a11 (((queueTake q x3).2.1).length) c11, I ((queueTake q x3).2.2)]), (7, .agg #[I (((queueTake q x3).1).most), Sl a10 ((((queueTake q x3).1).wait).length) c10]), (8, Sl a11 (((queueTake q x3).2.1).length) c11), (9, I ((queueTake q x3).2.2)), (10, Pt b11 0), (12, Sl a11 (((queueTake q x3).2.1).length) c11), (13, I ((queueTake q x3).2.2))]) ?_
              refine dr_end [0, 1, 2, 3, 4, 6, 7] [(8,0), (9,0), (12,0), (13,0)] [] [(0, I most), (2, Sl (At b10 o3) takes.length c_takes), (7, Pt b1 0), (8, Sl ai xi.length ci), (9, Sl ao xo.length co), (10, I ((k : Int))), (11, Pt b3 0), (12, Pt b5 0), (13, I ((queuePut q x1).2.1)), (14, I ((queuePut q x1).2.2)), (15, Pt b11 0), (16, Sl a11 (((queueTake q x3).2.1).length) c11), (17, I ((queueTake q x3).2.2)), (19, Bo false), (24, Bo (!decide (queueCheck ((⟨most, []⟩ : QueueD)) = 0))), (25, Sl (At b2 o1) l.length c_l), (26, I (((l.length : Nat) : Int))), (27, I ((k : Int))), (28, Bo (decide ((k : Int) < ((l.length : Nat) : Int)))), (33, Bo (decide ((k : Int) ≥ 100))), (42, Bo (decide ((queuePut q x1).2.2 = 0))), (58, Bo (decide ((k : Int) < ((takes.length : Nat) : Int))))] (List.forall_mem_nil _) ?_
              refine tq_then ?_
              refine tc_rb [0,0] [(0, I most), (2, Sl (At b10 o3) takes.length c_takes), (7, Pt b1 0), (8, Sl ai xi.length ci), (9, Sl ao xo.length co), (10, I ((k : Int))), (11, Pt b3 0), (12, Pt b5 0), (13, I ((queuePut q x1).2.1)), (14, I ((queuePut q x1).2.2)), (15, Pt b11 0), (16, Sl a11 (((queueTake q x3).2.1).length) c11), (17, I ((queueTake q x3).2.2)), (19, Bo false), (24, Bo (!decide (queueCheck ((⟨most, []⟩ : QueueD)) = 0))), (25, Sl (At b2 o1) l.length c_l), (26, I (((l.length : Nat) : Int))), (27, I ((k : Int))), (28, Bo (decide ((k : Int) < ((l.length : Nat) : Int)))), (33, Bo (decide ((k : Int) ≥ 100))), (42, Bo (decide ((queuePut q x1).2.2 = 0))), (58, Bo (decide ((k : Int) < ((takes.length : Nat) : Int)))), (70, Bo (decide ((queueTake q x3).2.2 = 0)))] ?_
              refine tc_cond (decide ((queueTake q x3).2.2 = 0)) (fun h11 => ?_) (fun h11 => ?_)
              ·
                try simp only [decide_eq_true_eq, decide_eq_false_iff_not, Bool.and_eq_true, Bool.or_eq_true, Bool.and_eq_false_imp, Bool.or_eq_false_iff, Bool.not_eq_true', Bool.not_eq_false', Bool.not_eq_true, Bool.not_eq_false, beq_iff_eq, beq_eq_false_iff_ne, bne_iff_ne, ne_eq, Decidable.not_not, Int.not_lt, Int.not_le] at h11
                refine tc_draw [3, 4] ?_
                refine dr_V [(0, .agg #[I (((queueTake q x3).1).most), Sl a10 ((((queueTake q x3).1).wait).length) c10]), (1, Sl ao xo.length co), (2, Sl a11 (((queueTake q x3).2.1).length) c11)] ?_
                refine dr_mid [] [(0,2), (1,0), (2,0)] [] [3] (List.forall_mem_nil _) (List.forall_mem_cons.2 ⟨?_, List.forall_mem_nil _⟩)
                refine act_of 3 [(72, Sl ao xo.length co), (73, Sl a11 (((queueTake q x3).2.1).length) c11)] (fun X => ?_)
                refine runL_app' 74 93 3 (E := EAsk) (hro.mono (Mem.le_trans hl6 hl9)) hs11 (by first | (have := hI.olen; (try simp only [EAsk, List.length_append, List.length_cons, List.length_nil]); omega) | (have := (ord_t (ord_p hI (by omega) (by assumption)) (by assumption)).olen; simp only [List.length_append] at this; (try simp only [EAsk, List.length_append, List.length_cons, List.length_nil]); omega) | (have := (ord_t (ord_0 hI (by omega)) (by assumption)).olen; simp only [List.length_append] at this; (try simp only [EAsk, List.length_append, List.length_cons, List.length_nil]); omega)) (by first | (have := hI.olen; (try simp only [EAsk, List.length_append, List.length_cons, List.length_nil]); omega) | (have := (ord_t (ord_p hI (by omega) (by assumption)) (by assumption)).olen; simp only [List.length_append] at this; (try simp only [EAsk, List.length_append, List.length_cons, List.length_nil]); omega) | (have := (ord_t (ord_0 hI (by omega)) (by assumption)).olen; simp only [List.length_append] at this; (try simp only [EAsk, List.length_append, List.length_cons, List.length_nil]); omega)) (fun a12 c12 r5 hr5 => ?_)
                refine act_end (V' := [(0, .agg #[I (((queueTake q x3).1).most), Sl a10 ((((queueTake q x3).1).wait).length) c10]), (1, Sl ao xo.length co), (2, Sl a11 (((queueTake q x3).2.1).length) c11), (3, Sl a12 ((xo ++ ((queueTake q x3).2.1)).length) c12)]) ?_
                refine dr_mid [1, 2] [(0,2)] [] [4] (List.forall_mem_nil _) (List.forall_mem_cons.2 ⟨?_, List.forall_mem_nil _⟩)
                refine act_of 4 [(7, Pt b1 0), (71, .agg #[I (((queueTake q x3).1).most), Sl a10 ((((queueTake q x3).1).wait).length) c10])] (fun X => ?_)
                refine runL_st 5 [[Sg b11 0 [I (((queueTake q x3).1).most), Sl a10 ((((queueTake q x3).1).wait).length) c10]], [Sg b5 0 [I (((queuePut q x1).1).most), Sl a2 ((((queuePut q x1).1).wait).length) c2]], [Sg b3 0 [Sr x1.name, Sr x1.value, U x1.n, U x1.tag]], r5, ri, [Sg b1 0 [I (((queueTake q x3).1).most), Sl a10 ((((queueTake q x3).1).wait).length) c10]]] ?_
                refine act_end0 (V' := [(0, .agg #[I (((queueTake q x3).1).most), Sl a10 ((((queueTake q x3).1).wait).length) c10]), (1, Sl ao xo.length co), (2, Sl a11 (((queueTake q x3).2.1).length) c11), (3, Sl a12 ((xo ++ ((queueTake q x3).2.1)).length) c12), (5, Sl a12 ((xo ++ ((queueTake q x3).2.1)).length) c12)]) ?_
                refine dr_end [0, 1, 2] [(5,0)] [] [(0, I most), (2, Sl (At b10 o3) takes.length c_takes), (7, Pt b1 0), (8, Sl ai xi.length ci), (9, Sl a12 ((xo ++ ((queueTake q x3).2.1)).length) c12), (10, I ((k : Int))), (11, Pt b3 0), (12, Pt b5 0), (13, I ((queuePut q x1).2.1)), (14, I ((queuePut q x1).2.2)), (15, Pt b11 0), (16, Sl a11 (((queueTake q x3).2.1).length) c11), (17, I ((queueTake q x3).2.2)), (19, Bo false), (24, Bo (!decide (queueCheck ((⟨most, []⟩ : QueueD)) = 0))), (25, Sl (At b2 o1) l.length c_l), (26, I (((l.length : Nat) : Int))), (27, I ((k : Int))), (28, Bo (decide ((k : Int) < ((l.length : Nat) : Int)))), (33, Bo (decide ((k : Int) ≥ 100))), (42, Bo (decide ((queuePut q x1).2.2 = 0))), (58, Bo (decide ((k : Int) < ((takes.length : Nat) : Int)))), (70, Bo (decide ((queueTake q x3).2.2 = 0)))] (List.forall_mem_nil _) ?_
                refine tq_block ?_
                refine tq_then ?_
                refine tc_region ?_
                refine runL_b [0,0] [(0, I most), (2, Sl (At b10 o3) takes.length c_takes), (7, Pt b1 0), (8, Sl ai xi.length ci), (9, Sl a12 ((xo ++ ((queueTake q x3).2.1)).length) c12), (10, I ((k : Int))), (11, Pt b3 0), (12, Pt b5 0), (13, I ((queuePut q x1).2.1)), (14, I ((queuePut q x1).2.2)), (15, Pt b11 0), (16, Sl a11 (((queueTake q x3).2.1).length) c11), (17, I ((queueTake q x3).2.2)), (19, Bo false), (24, Bo (!decide (queueCheck ((⟨most, []⟩ : QueueD)) = 0))), (25, Sl (At b2 o1) l.length c_l), (26, I (((l.length : Nat) : Int))), (27, I (IntKind.i64.wrap (((k : Int)) + 1))), (28, Bo (decide ((k : Int) < ((l.length : Nat) : Int)))), (33, Bo (decide ((k : Int) ≥ 100))), (42, Bo (decide ((queuePut q x1).2.2 = 0))), (58, Bo (decide ((k : Int) < ((takes.length : Nat) : Int)))), (70, Bo (decide ((queueTake q x3).2.2 = 0)))] ?_
                have e7 : IntKind.i64.wrap (((k : Int)) + 1) = ((k : Int)) + 1 := IntWalk.i64_in _ (by first | omega | (have := hI.olen; omega))
                refine runL_eq (fr' := [(0, I most), (2, Sl (At b10 o3) takes.length c_takes), (7, Pt b1 0), (8, Sl ai xi.length ci), (9, Sl a12 ((xo ++ ((queueTake q x3).2.1)).length) c12), (10, I ((k : Int))), (11, Pt b3 0), (12, Pt b5 0), (13, I ((queuePut q x1).2.1)), (14, I ((queuePut q x1).2.2)), (15, Pt b11 0), (16, Sl a11 (((queueTake q x3).2.1).length) c11), (17, I ((queueTake q x3).2.2)), (19, Bo false), (24, Bo (!decide (queueCheck ((⟨most, []⟩ : QueueD)) = 0))), (25, Sl (At b2 o1) l.length c_l), (26, I (((l.length : Nat) : Int))), (27, I (((k : Int)) + 1)), (28, Bo (decide ((k : Int) < ((l.length : Nat) : Int)))), (33, Bo (decide ((k : Int) ≥ 100))), (42, Bo (decide ((queuePut q x1).2.2 = 0))), (58, Bo (decide ((k : Int) < ((takes.length : Nat) : Int)))), (70, Bo (decide ((queueTake q x3).2.2 = 0)))]) (L' := [[Sg b11 0 [I (((queueTake q x3).1).most), Sl a10 ((((queueTake q x3).1).wait).length) c10]], [Sg b5 0 [I (((queuePut q x1).1).most), Sl a2 ((((queuePut q x1).1).wait).length) c2]], [Sg b3 0 [Sr x1.name, Sr x1.value, U x1.n, U x1.tag]], r5, ri, [Sg b1 0 [I (((queueTake q x3).1).most), Sl a10 ((((queueTake q x3).1).wait).length) c10]]]) (by simp only [e7]) (by rfl) ?_
                clear e7
                refine runL_nil ?_
                refine tq_owns [r5, ri, [Sg b1 0 [I (((queueTake q x3).1).most), Sl a10 ((((queueTake q x3).1).wait).length) c10]]] ((.cons _ (.cons _ (.cons _ (.cons_cons _ (.cons_cons _ (.cons_cons _ .slnil))))))) ?_
                exact tq_rnd ((k + 1, ai, ci, ri, xi, a12, c12, r5, xo ++ ((queueTake q x3).2.1), ((queueTake q x3).1), a10, c10, G9)) ⟨(Mem.le_trans hle (Mem.le_trans hl6 hl9)), (by omega), (hri.mono (Mem.le_trans hl6 hl9)), hr5, (by first | assumption | omega | (simp; done) | (simp; omega)), hs10, (by first | exact ord_0 hI (by omega) | exact ord_p hI (by omega) (by assumption) | exact ord_t (ord_0 hI (by omega)) (by assumption) | exact ord_t (ord_p hI (by omega) (by assumption)) (by assumption))⟩ (by (try dsimp only); omega)
              ·
                try simp only [decide_eq_true_eq, decide_eq_false_iff_not, Bool.and_eq_true, Bool.or_eq_true, Bool.and_eq_false_imp, Bool.or_eq_false_iff, Bool.not_eq_true', Bool.not_eq_false', Bool.not_eq_true, Bool.not_eq_false, beq_iff_eq, beq_eq_false_iff_ne, bne_iff_ne, ne_eq, Decidable.not_not, Int.not_lt, Int.not_le] at h11
                refine tc_skip ?_
                refine tq_block ?_
                refine tq_then ?_
                refine tc_region ?_
                refine runL_b [0,0] [(0, I most), (2, Sl (At b10 o3) takes.length c_takes), (7, Pt b1 0), (8, Sl ai xi.length ci), (9, Sl ao xo.length co), (10, I ((k : Int))), (11, Pt b3 0), (12, Pt b5 0), (13, I ((queuePut q x1).2.1)), (14, I ((queuePut q x1).2.2)), (15, Pt b11 0), (16, Sl a11 (((queueTake q x3).2.1).length) c11), (17, I ((queueTake q x3).2.2)), (19, Bo false), (24, Bo (!decide (queueCheck ((⟨most, []⟩ : QueueD)) = 0))), (25, Sl (At b2 o1) l.length c_l), (26, I (((l.length : Nat) : Int))), (27, I (IntKind.i64.wrap (((k : Int)) + 1))), (28, Bo (decide ((k : Int) < ((l.length : Nat) : Int)))), (33, Bo (decide ((k : Int) ≥ 100))), (42, Bo (decide ((queuePut q x1).2.2 = 0))), (58, Bo (decide ((k : Int) < ((takes.length : Nat) : Int)))), (70, Bo (decide ((queueTake q x3).2.2 = 0)))] ?_
                have e8 : IntKind.i64.wrap (((k : Int)) + 1) = ((k : Int)) + 1 := IntWalk.i64_in _ (by first | omega | (have := hI.olen; omega))
                refine runL_eq (fr' := [(0, I most), (2, Sl (At b10 o3) takes.length c_takes), (7, Pt b1 0), (8, Sl ai xi.length ci), (9, Sl ao xo.length co), (10, I ((k : Int))), (11, Pt b3 0), (12, Pt b5 0), (13, I ((queuePut q x1).2.1)), (14, I ((queuePut q x1).2.2)), (15, Pt b11 0), (16, Sl a11 (((queueTake q x3).2.1).length) c11), (17, I ((queueTake q x3).2.2)), (19, Bo false), (24, Bo (!decide (queueCheck ((⟨most, []⟩ : QueueD)) = 0))), (25, Sl (At b2 o1) l.length c_l), (26, I (((l.length : Nat) : Int))), (27, I (((k : Int)) + 1)), (28, Bo (decide ((k : Int) < ((l.length : Nat) : Int)))), (33, Bo (decide ((k : Int) ≥ 100))), (42, Bo (decide ((queuePut q x1).2.2 = 0))), (58, Bo (decide ((k : Int) < ((takes.length : Nat) : Int)))), (70, Bo (decide ((queueTake q x3).2.2 = 0)))]) (L' := [[Sg b11 0 [I (((queueTake q x3).1).most), Sl a10 ((((queueTake q x3).1).wait).length) c10]], [Sg b5 0 [I (((queuePut q x1).1).most), Sl a2 ((((queuePut q x1).1).wait).length) c2]], [Sg b3 0 [Sr x1.name, Sr x1.value, U x1.n, U x1.tag]], ro, ri, [Sg b1 0 [I q.most, Sl aq0 q.wait.length cq0]]]) (by simp only [e8]) (by rfl) ?_
                clear e8
                refine runL_nil ?_
                refine tq_owns [ro, ri, [Sg b1 0 [I q.most, Sl aq0 q.wait.length cq0]]] ((.cons _ (.cons _ (.cons _ (.cons_cons _ (.cons_cons _ (.cons_cons _ .slnil))))))) ?_
                exact tq_rnd ((k + 1, ai, ci, ri, xi, ao, co, ro, xo, q, aq0, cq0, G9)) ⟨(Mem.le_trans hle (Mem.le_trans hl6 hl9)), (by omega), (hri.mono (Mem.le_trans hl6 hl9)), (hro.mono (Mem.le_trans hl6 hl9)), (by first | assumption | omega | (simp; done) | (simp; omega)), (hq1.mono (Mem.le_trans hl6 hl9)), (by first | exact ord_0 hI (by omega) | exact ord_p hI (by omega) (by assumption) | exact ord_t (ord_0 hI (by omega)) (by assumption) | exact ord_t (ord_p hI (by omega) (by assumption)) (by assumption))⟩ (by (try dsimp only); omega)
            refine act_of 10 [] (fun X => ?_)
            refine runL_box 15 #[I 0, Sl none 0 0] 90 (fun b12 => ?_)
            refine act_end (V' := [(0, .agg #[I q.most, Sl aq0 q.wait.length cq0]), (1, Sl (At b10 o3) takes.length c_takes), (2, I ((k : Int))), (3, Pt b10 (o3 + k * 1)), (4, I x3), (10, Pt b12 0)]) ?_
            refine dr_mid [] [(0,12), (1,0), (2,0)] [3, 4] [5] (List.forall_mem_cons.2 ⟨?_, (List.forall_mem_cons.2 ⟨?_, List.forall_mem_nil _⟩)⟩) (List.forall_mem_cons.2 ⟨?_, List.forall_mem_nil _⟩)
            · refine stab_of 3 63 (Pt b10 (o3 + k * 1)) [(61, Sl (At b10 o3) takes.length c_takes), (62, I ((k : Int)))] (fun X => ?_)
              exact runL_idx (b := b10) (off := o3) (len := takes.length) (cap := c_takes) (ik := .i64) 63 3 1 k (by first | omega | (have := hI.olen; omega)) stab_end
            · refine stab_of 4 64 (I x3) [(63, Pt b10 (o3 + k * 1))] (fun X => ?_)
              exact runL_ldG 64 3 (cs := [I x3]) 0 (I x3) hc3 stab_end
            refine act_of 5 [(60, .agg #[I q.most, Sl aq0 q.wait.length cq0]), (64, I x3)] (fun X => ?_)
            refine runL_callR 65 (queueTake_con G6 [I q.most, Sl aq0 q.wait.length cq0] q (⟨aq0, cq0, rfl, hq0, (hq1.mono hl6)⟩) x3) (fun v G10 L1 hl10 hp => ?_)
            obtain ⟨a13, c13, a14, c14, rfl, w11, hs12, hs13, rfl⟩ := hp
            refine act_end (V' := [(0, .agg #[I q.most, Sl aq0 q.wait.length cq0]), (1, Sl (At b10 o3) takes.length c_takes), (2, I ((k : Int))), (3, Pt b10 (o3 + k * 1)), (4, I x3), (5, .tuple #[.agg #[I (((queueTake q x3).1).most), Sl a13 ((((queueTake q x3).1).wait).length) c13], Sl a14 (((queueTake q x3).2.1).length) c14, I ((queueTake q x3).2.2)]), (6, .tuple #[.agg #[I (((queueTake q x3).1).most), Sl a13 ((((queueTake q x3).1).wait).length) c13], Sl a14 (((queueTake q x3).2.1).length) c14, I ((queueTake q x3).2.2)]), (7, .agg #[I (((queueTake q x3).1).most), Sl a13 ((((queueTake q x3).1).wait).length) c13]), (8, Sl a14 (((queueTake q x3).2.1).length) c14), (9, I ((queueTake q x3).2.2)), (10, Pt b12 0)]) ?_
            refine dr_mid [0, 1, 2, 3, 4] [(6,0), (7,0), (8,0), (9,0)] [] [11] (List.forall_mem_nil _) (List.forall_mem_cons.2 ⟨?_, List.forall_mem_nil _⟩)
            refine act_of 11 [(15, Pt b12 0), (66, .agg #[I (((queueTake q x3).1).most), Sl a13 ((((queueTake q x3).1).wait).length) c13])] (fun X => ?_)
            refine runL_st 0 [[Sg b12 0 [I (((queueTake q x3).1).most), Sl a13 ((((queueTake q x3).1).wait).length) c13]], [Sg b5 0 [I (((queuePut q x1).1).most), Sl a2 ((((queuePut q x1).1).wait).length) c2]], [Sg b3 0 [Sr x1.name, Sr x1.value, U x1.n, U x1.tag]], ro, ri, [Sg b1 0 [I q.most, Sl aq0 q.wait.length cq0]]] ?_
            refine act_end0 (V' := [(0, .agg #[I q.most, Sl aq0 q.wait.length cq0]), (1, Sl (At b10 o3) takes.length c_takes), (2, I ((k : Int))), (3, Pt b10 (o3 + k * 1)), (4, I x3), (5, .tuple #[.agg #[I (((queueTake q x3).1).most), Sl a13 ((((queueTake q x3).1).wait).length) c13], Sl a14 (((queueTake q x3).2.1).length) c14, I ((queueTake q x3).2.2)]), (6, .tuple #[.agg #[I (((queueTake q x3).1).most), Sl a13 ((((queueTake q x3).1).wait).length) c13], Sl a14 (((queueTake q x3).2.1).length) c14, I ((queueTake q x3).2.2)]), (7, .agg #[I (((queueTake q x3).1).most), Sl a13 ((((queueTake q x3).1).wait).length) c13]), (8, Sl a14 (((queueTake q x3).2.1).length) c14), (9, I ((queueTake q x3).2.2)), (10, Pt b12 0), (12, Sl a14 (((queueTake q x3).2.1).length) c14), (13, I ((queueTake q x3).2.2))]) ?_
            refine dr_end [0, 1, 2, 3, 4, 6, 7] [(8,0), (9,0), (12,0), (13,0)] [] [(0, I most), (2, Sl (At b10 o3) takes.length c_takes), (7, Pt b1 0), (8, Sl ai xi.length ci), (9, Sl ao xo.length co), (10, I ((k : Int))), (11, Pt b3 0), (12, Pt b5 0), (13, I ((queuePut q x1).2.1)), (14, I ((queuePut q x1).2.2)), (15, Pt b12 0), (16, Sl a14 (((queueTake q x3).2.1).length) c14), (17, I ((queueTake q x3).2.2)), (19, Bo false), (24, Bo (!decide (queueCheck ((⟨most, []⟩ : QueueD)) = 0))), (25, Sl (At b2 o1) l.length c_l), (26, I (((l.length : Nat) : Int))), (27, I ((k : Int))), (28, Bo (decide ((k : Int) < ((l.length : Nat) : Int)))), (33, Bo (decide ((k : Int) ≥ 100))), (42, Bo (decide ((queuePut q x1).2.2 = 0))), (58, Bo (decide ((k : Int) < ((takes.length : Nat) : Int))))] (List.forall_mem_nil _) ?_
            refine tq_then ?_
            refine tc_rb [0,0] [(0, I most), (2, Sl (At b10 o3) takes.length c_takes), (7, Pt b1 0), (8, Sl ai xi.length ci), (9, Sl ao xo.length co), (10, I ((k : Int))), (11, Pt b3 0), (12, Pt b5 0), (13, I ((queuePut q x1).2.1)), (14, I ((queuePut q x1).2.2)), (15, Pt b12 0), (16, Sl a14 (((queueTake q x3).2.1).length) c14), (17, I ((queueTake q x3).2.2)), (19, Bo false), (24, Bo (!decide (queueCheck ((⟨most, []⟩ : QueueD)) = 0))), (25, Sl (At b2 o1) l.length c_l), (26, I (((l.length : Nat) : Int))), (27, I ((k : Int))), (28, Bo (decide ((k : Int) < ((l.length : Nat) : Int)))), (33, Bo (decide ((k : Int) ≥ 100))), (42, Bo (decide ((queuePut q x1).2.2 = 0))), (58, Bo (decide ((k : Int) < ((takes.length : Nat) : Int)))), (70, Bo (decide ((queueTake q x3).2.2 = 0)))] ?_
            refine tc_cond (decide ((queueTake q x3).2.2 = 0)) (fun h12 => ?_) (fun h12 => ?_)
            ·
              try simp only [decide_eq_true_eq, decide_eq_false_iff_not, Bool.and_eq_true, Bool.or_eq_true, Bool.and_eq_false_imp, Bool.or_eq_false_iff, Bool.not_eq_true', Bool.not_eq_false', Bool.not_eq_true, Bool.not_eq_false, beq_iff_eq, beq_eq_false_iff_ne, bne_iff_ne, ne_eq, Decidable.not_not, Int.not_lt, Int.not_le] at h12
              refine tc_draw [3, 4] ?_
              refine dr_V [(0, .agg #[I (((queueTake q x3).1).most), Sl a13 ((((queueTake q x3).1).wait).length) c13]), (1, Sl ao xo.length co), (2, Sl a14 (((queueTake q x3).2.1).length) c14)] ?_
              refine dr_mid [] [(0,2), (1,0), (2,0)] [] [3] (List.forall_mem_nil _) (List.forall_mem_cons.2 ⟨?_, List.forall_mem_nil _⟩)
              refine act_of 3 [(72, Sl ao xo.length co), (73, Sl a14 (((queueTake q x3).2.1).length) c14)] (fun X => ?_)
              refine runL_app' 74 93 3 (E := EAsk) (hro.mono (Mem.le_trans hl6 hl10)) hs13 (by first | (have := hI.olen; (try simp only [EAsk, List.length_append, List.length_cons, List.length_nil]); omega) | (have := (ord_t (ord_p hI (by omega) (by assumption)) (by assumption)).olen; simp only [List.length_append] at this; (try simp only [EAsk, List.length_append, List.length_cons, List.length_nil]); omega) | (have := (ord_t (ord_0 hI (by omega)) (by assumption)).olen; simp only [List.length_append] at this; (try simp only [EAsk, List.length_append, List.length_cons, List.length_nil]); omega)) (by first | (have := hI.olen; (try simp only [EAsk, List.length_append, List.length_cons, List.length_nil]); omega) | (have := (ord_t (ord_p hI (by omega) (by assumption)) (by assumption)).olen; simp only [List.length_append] at this; (try simp only [EAsk, List.length_append, List.length_cons, List.length_nil]); omega) | (have := (ord_t (ord_0 hI (by omega)) (by assumption)).olen; simp only [List.length_append] at this; (try simp only [EAsk, List.length_append, List.length_cons, List.length_nil]); omega)) (fun a15 c15 r6 hr6 => ?_)
              refine act_end (V' := [(0, .agg #[I (((queueTake q x3).1).most), Sl a13 ((((queueTake q x3).1).wait).length) c13]), (1, Sl ao xo.length co), (2, Sl a14 (((queueTake q x3).2.1).length) c14), (3, Sl a15 ((xo ++ ((queueTake q x3).2.1)).length) c15)]) ?_
              refine dr_mid [1, 2] [(0,2)] [] [4] (List.forall_mem_nil _) (List.forall_mem_cons.2 ⟨?_, List.forall_mem_nil _⟩)
              refine act_of 4 [(7, Pt b1 0), (71, .agg #[I (((queueTake q x3).1).most), Sl a13 ((((queueTake q x3).1).wait).length) c13])] (fun X => ?_)
              refine runL_st 5 [[Sg b12 0 [I (((queueTake q x3).1).most), Sl a13 ((((queueTake q x3).1).wait).length) c13]], [Sg b5 0 [I (((queuePut q x1).1).most), Sl a2 ((((queuePut q x1).1).wait).length) c2]], [Sg b3 0 [Sr x1.name, Sr x1.value, U x1.n, U x1.tag]], r6, ri, [Sg b1 0 [I (((queueTake q x3).1).most), Sl a13 ((((queueTake q x3).1).wait).length) c13]]] ?_
              refine act_end0 (V' := [(0, .agg #[I (((queueTake q x3).1).most), Sl a13 ((((queueTake q x3).1).wait).length) c13]), (1, Sl ao xo.length co), (2, Sl a14 (((queueTake q x3).2.1).length) c14), (3, Sl a15 ((xo ++ ((queueTake q x3).2.1)).length) c15), (5, Sl a15 ((xo ++ ((queueTake q x3).2.1)).length) c15)]) ?_
              refine dr_end [0, 1, 2] [(5,0)] [] [(0, I most), (2, Sl (At b10 o3) takes.length c_takes), (7, Pt b1 0), (8, Sl ai xi.length ci), (9, Sl a15 ((xo ++ ((queueTake q x3).2.1)).length) c15), (10, I ((k : Int))), (11, Pt b3 0), (12, Pt b5 0), (13, I ((queuePut q x1).2.1)), (14, I ((queuePut q x1).2.2)), (15, Pt b12 0), (16, Sl a14 (((queueTake q x3).2.1).length) c14), (17, I ((queueTake q x3).2.2)), (19, Bo false), (24, Bo (!decide (queueCheck ((⟨most, []⟩ : QueueD)) = 0))), (25, Sl (At b2 o1) l.length c_l), (26, I (((l.length : Nat) : Int))), (27, I ((k : Int))), (28, Bo (decide ((k : Int) < ((l.length : Nat) : Int)))), (33, Bo (decide ((k : Int) ≥ 100))), (42, Bo (decide ((queuePut q x1).2.2 = 0))), (58, Bo (decide ((k : Int) < ((takes.length : Nat) : Int)))), (70, Bo (decide ((queueTake q x3).2.2 = 0)))] (List.forall_mem_nil _) ?_
              refine tq_block ?_
              refine tq_then ?_
              refine tc_region ?_
              refine runL_b [0,0] [(0, I most), (2, Sl (At b10 o3) takes.length c_takes), (7, Pt b1 0), (8, Sl ai xi.length ci), (9, Sl a15 ((xo ++ ((queueTake q x3).2.1)).length) c15), (10, I ((k : Int))), (11, Pt b3 0), (12, Pt b5 0), (13, I ((queuePut q x1).2.1)), (14, I ((queuePut q x1).2.2)), (15, Pt b12 0), (16, Sl a14 (((queueTake q x3).2.1).length) c14), (17, I ((queueTake q x3).2.2)), (19, Bo false), (24, Bo (!decide (queueCheck ((⟨most, []⟩ : QueueD)) = 0))), (25, Sl (At b2 o1) l.length c_l), (26, I (((l.length : Nat) : Int))), (27, I (IntKind.i64.wrap (((k : Int)) + 1))), (28, Bo (decide ((k : Int) < ((l.length : Nat) : Int)))), (33, Bo (decide ((k : Int) ≥ 100))), (42, Bo (decide ((queuePut q x1).2.2 = 0))), (58, Bo (decide ((k : Int) < ((takes.length : Nat) : Int)))), (70, Bo (decide ((queueTake q x3).2.2 = 0)))] ?_
              have e9 : IntKind.i64.wrap (((k : Int)) + 1) = ((k : Int)) + 1 := IntWalk.i64_in _ (by first | omega | (have := hI.olen; omega))
              refine runL_eq (fr' := [(0, I most), (2, Sl (At b10 o3) takes.length c_takes), (7, Pt b1 0), (8, Sl ai xi.length ci), (9, Sl a15 ((xo ++ ((queueTake q x3).2.1)).length) c15), (10, I ((k : Int))), (11, Pt b3 0), (12, Pt b5 0), (13, I ((queuePut q x1).2.1)), (14, I ((queuePut q x1).2.2)), (15, Pt b12 0), (16, Sl a14 (((queueTake q x3).2.1).length) c14), (17, I ((queueTake q x3).2.2)), (19, Bo false), (24, Bo (!decide (queueCheck ((⟨most, []⟩ : QueueD)) = 0))), (25, Sl (At b2 o1) l.length c_l), (26, I (((l.length : Nat) : Int))), (27, I (((k : Int)) + 1)), (28, Bo (decide ((k : Int) < ((l.length : Nat) : Int)))), (33, Bo (decide ((k : Int) ≥ 100))), (42, Bo (decide ((queuePut q x1).2.2 = 0))), (58, Bo (decide ((k : Int) < ((takes.length : Nat) : Int)))), (70, Bo (decide ((queueTake q x3).2.2 = 0)))]) (L' := [[Sg b12 0 [I (((queueTake q x3).1).most), Sl a13 ((((queueTake q x3).1).wait).length) c13]], [Sg b5 0 [I (((queuePut q x1).1).most), Sl a2 ((((queuePut q x1).1).wait).length) c2]], [Sg b3 0 [Sr x1.name, Sr x1.value, U x1.n, U x1.tag]], r6, ri, [Sg b1 0 [I (((queueTake q x3).1).most), Sl a13 ((((queueTake q x3).1).wait).length) c13]]]) (by simp only [e9]) (by rfl) ?_
              clear e9
              refine runL_nil ?_
              refine tq_owns [r6, ri, [Sg b1 0 [I (((queueTake q x3).1).most), Sl a13 ((((queueTake q x3).1).wait).length) c13]]] ((.cons _ (.cons _ (.cons _ (.cons_cons _ (.cons_cons _ (.cons_cons _ .slnil))))))) ?_
              exact tq_rnd ((k + 1, ai, ci, ri, xi, a15, c15, r6, xo ++ ((queueTake q x3).2.1), ((queueTake q x3).1), a13, c13, G10)) ⟨(Mem.le_trans hle (Mem.le_trans hl6 hl10)), (by omega), (hri.mono (Mem.le_trans hl6 hl10)), hr6, (by first | assumption | omega | (simp; done) | (simp; omega)), hs12, (by first | exact ord_0 hI (by omega) | exact ord_p hI (by omega) (by assumption) | exact ord_t (ord_0 hI (by omega)) (by assumption) | exact ord_t (ord_p hI (by omega) (by assumption)) (by assumption))⟩ (by (try dsimp only); omega)
            ·
              try simp only [decide_eq_true_eq, decide_eq_false_iff_not, Bool.and_eq_true, Bool.or_eq_true, Bool.and_eq_false_imp, Bool.or_eq_false_iff, Bool.not_eq_true', Bool.not_eq_false', Bool.not_eq_true, Bool.not_eq_false, beq_iff_eq, beq_eq_false_iff_ne, bne_iff_ne, ne_eq, Decidable.not_not, Int.not_lt, Int.not_le] at h12
              refine tc_skip ?_
              refine tq_block ?_
              refine tq_then ?_
              refine tc_region ?_
              refine runL_b [0,0] [(0, I most), (2, Sl (At b10 o3) takes.length c_takes), (7, Pt b1 0), (8, Sl ai xi.length ci), (9, Sl ao xo.length co), (10, I ((k : Int))), (11, Pt b3 0), (12, Pt b5 0), (13, I ((queuePut q x1).2.1)), (14, I ((queuePut q x1).2.2)), (15, Pt b12 0), (16, Sl a14 (((queueTake q x3).2.1).length) c14), (17, I ((queueTake q x3).2.2)), (19, Bo false), (24, Bo (!decide (queueCheck ((⟨most, []⟩ : QueueD)) = 0))), (25, Sl (At b2 o1) l.length c_l), (26, I (((l.length : Nat) : Int))), (27, I (IntKind.i64.wrap (((k : Int)) + 1))), (28, Bo (decide ((k : Int) < ((l.length : Nat) : Int)))), (33, Bo (decide ((k : Int) ≥ 100))), (42, Bo (decide ((queuePut q x1).2.2 = 0))), (58, Bo (decide ((k : Int) < ((takes.length : Nat) : Int)))), (70, Bo (decide ((queueTake q x3).2.2 = 0)))] ?_
              have e10 : IntKind.i64.wrap (((k : Int)) + 1) = ((k : Int)) + 1 := IntWalk.i64_in _ (by first | omega | (have := hI.olen; omega))
              refine runL_eq (fr' := [(0, I most), (2, Sl (At b10 o3) takes.length c_takes), (7, Pt b1 0), (8, Sl ai xi.length ci), (9, Sl ao xo.length co), (10, I ((k : Int))), (11, Pt b3 0), (12, Pt b5 0), (13, I ((queuePut q x1).2.1)), (14, I ((queuePut q x1).2.2)), (15, Pt b12 0), (16, Sl a14 (((queueTake q x3).2.1).length) c14), (17, I ((queueTake q x3).2.2)), (19, Bo false), (24, Bo (!decide (queueCheck ((⟨most, []⟩ : QueueD)) = 0))), (25, Sl (At b2 o1) l.length c_l), (26, I (((l.length : Nat) : Int))), (27, I (((k : Int)) + 1)), (28, Bo (decide ((k : Int) < ((l.length : Nat) : Int)))), (33, Bo (decide ((k : Int) ≥ 100))), (42, Bo (decide ((queuePut q x1).2.2 = 0))), (58, Bo (decide ((k : Int) < ((takes.length : Nat) : Int)))), (70, Bo (decide ((queueTake q x3).2.2 = 0)))]) (L' := [[Sg b12 0 [I (((queueTake q x3).1).most), Sl a13 ((((queueTake q x3).1).wait).length) c13]], [Sg b5 0 [I (((queuePut q x1).1).most), Sl a2 ((((queuePut q x1).1).wait).length) c2]], [Sg b3 0 [Sr x1.name, Sr x1.value, U x1.n, U x1.tag]], ro, ri, [Sg b1 0 [I q.most, Sl aq0 q.wait.length cq0]]]) (by simp only [e10]) (by rfl) ?_
              clear e10
              refine runL_nil ?_
              refine tq_owns [ro, ri, [Sg b1 0 [I q.most, Sl aq0 q.wait.length cq0]]] ((.cons _ (.cons _ (.cons _ (.cons_cons _ (.cons_cons _ (.cons_cons _ .slnil))))))) ?_
              exact tq_rnd ((k + 1, ai, ci, ri, xi, ao, co, ro, xo, q, aq0, cq0, G10)) ⟨(Mem.le_trans hle (Mem.le_trans hl6 hl10)), (by omega), (hri.mono (Mem.le_trans hl6 hl10)), (hro.mono (Mem.le_trans hl6 hl10)), (by first | assumption | omega | (simp; done) | (simp; omega)), (hq1.mono (Mem.le_trans hl6 hl10)), (by first | exact ord_0 hI (by omega) | exact ord_p hI (by omega) (by assumption) | exact ord_t (ord_0 hI (by omega)) (by assumption) | exact ord_t (ord_p hI (by omega) (by assumption)) (by assumption))⟩ (by (try dsimp only); omega)
          ·
            try simp only [decide_eq_true_eq, decide_eq_false_iff_not, Bool.and_eq_true, Bool.or_eq_true, Bool.and_eq_false_imp, Bool.or_eq_false_iff, Bool.not_eq_true', Bool.not_eq_false', Bool.not_eq_true, Bool.not_eq_false, beq_iff_eq, beq_eq_false_iff_ne, bne_iff_ne, ne_eq, Decidable.not_not, Int.not_lt, Int.not_le] at h10
            refine tc_skip ?_
            refine tq_block ?_
            refine tq_then ?_
            refine tc_region ?_
            refine runL_b [0,0] [(0, I most), (2, Sl a_takes takes.length c_takes), (7, Pt b1 0), (8, Sl ai xi.length ci), (9, Sl ao xo.length co), (10, I ((k : Int))), (11, Pt b3 0), (12, Pt b5 0), (13, I ((queuePut q x1).2.1)), (14, I ((queuePut q x1).2.2)), (19, Bo false), (24, Bo (!decide (queueCheck ((⟨most, []⟩ : QueueD)) = 0))), (25, Sl (At b2 o1) l.length c_l), (26, I (((l.length : Nat) : Int))), (27, I (IntKind.i64.wrap (((k : Int)) + 1))), (28, Bo (decide ((k : Int) < ((l.length : Nat) : Int)))), (33, Bo (decide ((k : Int) ≥ 100))), (42, Bo (decide ((queuePut q x1).2.2 = 0))), (58, Bo (decide ((k : Int) < ((takes.length : Nat) : Int))))] ?_
            have e11 : IntKind.i64.wrap (((k : Int)) + 1) = ((k : Int)) + 1 := IntWalk.i64_in _ (by first | omega | (have := hI.olen; omega))
            refine runL_eq (fr' := [(0, I most), (2, Sl a_takes takes.length c_takes), (7, Pt b1 0), (8, Sl ai xi.length ci), (9, Sl ao xo.length co), (10, I ((k : Int))), (11, Pt b3 0), (12, Pt b5 0), (13, I ((queuePut q x1).2.1)), (14, I ((queuePut q x1).2.2)), (19, Bo false), (24, Bo (!decide (queueCheck ((⟨most, []⟩ : QueueD)) = 0))), (25, Sl (At b2 o1) l.length c_l), (26, I (((l.length : Nat) : Int))), (27, I (((k : Int)) + 1)), (28, Bo (decide ((k : Int) < ((l.length : Nat) : Int)))), (33, Bo (decide ((k : Int) ≥ 100))), (42, Bo (decide ((queuePut q x1).2.2 = 0))), (58, Bo (decide ((k : Int) < ((takes.length : Nat) : Int))))]) (L' := [[Sg b5 0 [I (((queuePut q x1).1).most), Sl a2 ((((queuePut q x1).1).wait).length) c2]], [Sg b3 0 [Sr x1.name, Sr x1.value, U x1.n, U x1.tag]], ro, ri, [Sg b1 0 [I q.most, Sl aq0 q.wait.length cq0]]]) (by simp only [e11]) (by rfl) ?_
            clear e11
            refine runL_nil ?_
            refine tq_owns [ro, ri, [Sg b1 0 [I q.most, Sl aq0 q.wait.length cq0]]] ((.cons _ (.cons _ (.cons_cons _ (.cons_cons _ (.cons_cons _ .slnil)))))) ?_
            exact tq_rnd ((k + 1, ai, ci, ri, xi, ao, co, ro, xo, q, aq0, cq0, G6)) ⟨(Mem.le_trans hle hl6), (by omega), (hri.mono hl6), (hro.mono hl6), (by first | assumption | omega | (simp; done) | (simp; omega)), (hq1.mono hl6), (by first | exact ord_0 hI (by omega) | exact ord_p hI (by omega) (by assumption) | exact ord_t (ord_0 hI (by omega)) (by assumption) | exact ord_t (ord_p hI (by omega) (by assumption)) (by assumption))⟩ (by (try dsimp only); omega)
    ·
      try simp only [decide_eq_true_eq, decide_eq_false_iff_not, Bool.and_eq_true, Bool.or_eq_true, Bool.and_eq_false_imp, Bool.or_eq_false_iff, Bool.not_eq_true', Bool.not_eq_false', Bool.not_eq_true, Bool.not_eq_false, beq_iff_eq, beq_eq_false_iff_ne, bne_iff_ne, ne_eq, Decidable.not_not, Int.not_lt, Int.not_le] at h2
      refine tc_exit ?_
      refine tq_then_exit ?_
      refine tq_rnd_exit ?_
      refine tq_block_here ?_
      refine tq_then ?_
      refine tc_seq ?_
      refine tc_region ?_
      refine runL_b [0,0,0,6] [(0, I most), (2, Sl a_takes takes.length c_takes), (7, Pt b1 0), (8, Sl ai xi.length ci), (9, Sl ao xo.length co), (19, Bo false), (24, Bo (!decide (queueCheck ((⟨most, []⟩ : QueueD)) = 0))), (25, Sl a_l l.length c_l), (26, I (((l.length : Nat) : Int))), (27, I ((k : Int))), (28, Bo (decide ((k : Int) < ((l.length : Nat) : Int)))), (76, Sl ai xi.length ci), (77, Sl ao xo.length co), (79, Sl aq0 q.wait.length cq0)] ?_
      refine runL_bsl 80 2 #[Sl ao xo.length co, Sl aq0 q.wait.length cq0] 88 (fun b13 => ?_)
      refine runL_frzR (E := EAsk) 1 hro (by have := hI.olen; simp only [EAsk]; omega) (fun G11 hl11 hs14 => ?_)
      refine runL_frz1 (b := b13) (o := 0) (cs := [Sl ao xo.length co, Sl aq0 q.wait.length cq0]) 0 (fun G12 hl12 hz2 => ?_)
      have hs15 : RS ESlAsk G12 (At b13 0) 2 [xo, q.wait] := RS.lit [[Sl ao xo.length co], [Sl aq0 q.wait.length cq0]] [xo, q.wait] ⟨⟨ao, co, rfl, (hs14.mono hl12)⟩, ⟨⟨aq0, cq0, rfl, (hq1.mono (Mem.le_trans hl11 hl12))⟩, trivial⟩⟩ hz2 (Nat.le_of_ble_eq_true rfl) (Nat.le_of_ble_eq_true rfl)
      refine runL_callR 81 (sconcat_EAsk G12 (At b13 0) 2 ([xo, q.wait]) hs15 (by have := hI.olen; simp; omega)) (fun v G13 L1 hl13 hp => ?_)
      obtain ⟨a16, c16, r7, rfl, hr7, rfl⟩ := hp
      refine runL_frzR (E := EAsk) 3 (hri.mono (Mem.le_trans (Mem.le_trans hl11 hl12) hl13)) (by have := hI.olen; simp only [EAsk]; omega) (fun G14 hl14 hs16 => ?_)
      refine runL_frzR (E := EAsk) 0 (hr7.mono hl14) (by have := hI.olen; (simp only [lconcat, EAsk, List.flatten_cons, List.flatten_nil, List.length_append, List.length_nil]; omega)) (fun G15 hl15 hs17 => ?_)
      refine runL_callV 82 (Bo (decide (xi = lconcat ([xo, q.wait])))) (seq_EAsk G15 ai ci xi (hs16.mono hl15) a16 c16 (lconcat ([xo, q.wait])) hs17) ?_
      refine runL_b [0] [(0, I most), (2, Sl a_takes takes.length c_takes), (7, Pt b1 0), (8, Sl ai xi.length ci), (9, Sl ao xo.length co), (19, Bo false), (24, Bo (!decide (queueCheck ((⟨most, []⟩ : QueueD)) = 0))), (25, Sl a_l l.length c_l), (26, I (((l.length : Nat) : Int))), (27, I ((k : Int))), (28, Bo (decide ((k : Int) < ((l.length : Nat) : Int)))), (83, Bo (decide (xi = lconcat ([xo, q.wait]))))] ?_
      refine runL_b2 (decide (xi = lconcat ([xo, q.wait]))) (fun bb => [(0, I most), (2, Sl a_takes takes.length c_takes), (7, Pt b1 0), (8, Sl ai xi.length ci), (9, Sl ao xo.length co), (19, Bo false), (24, Bo (!decide (queueCheck ((⟨most, []⟩ : QueueD)) = 0))), (25, Sl a_l l.length c_l), (26, I (((l.length : Nat) : Int))), (27, I ((k : Int))), (28, Bo (decide ((k : Int) < ((l.length : Nat) : Int)))), (83, Bo bb)]) [0,10,0,0,0,0] [1,1,1,1,1,0] (fun bb => [(0, I most), (2, Sl a_takes takes.length c_takes), (7, Pt b1 0), (8, Sl ai xi.length ci), (9, Sl ao xo.length co), (19, Bo false), (24, Bo (!decide (queueCheck ((⟨most, []⟩ : QueueD)) = 0))), (25, Sl a_l l.length c_l), (26, I (((l.length : Nat) : Int))), (27, I ((k : Int))), (28, Bo (decide ((k : Int) < ((l.length : Nat) : Int)))), (89, Bo (bb && (decide (((q.wait.length : Nat) : Int) ≤ most))))]) ?_
      refine runL_b [0] [(0, I most), (2, Sl a_takes takes.length c_takes), (7, Pt b1 0), (8, Sl ai xi.length ci), (9, Sl ao xo.length co), (19, Bo false), (24, Bo (!decide (queueCheck ((⟨most, []⟩ : QueueD)) = 0))), (25, Sl a_l l.length c_l), (26, I (((l.length : Nat) : Int))), (27, I ((k : Int))), (28, Bo (decide ((k : Int) < ((l.length : Nat) : Int)))), (90, Bo ((decide (xi = lconcat ([xo, q.wait]))) && (decide (((q.wait.length : Nat) : Int) ≤ most))))] ?_
      refine runL_cases (fun bb => [(0, I most), (2, Sl a_takes takes.length c_takes), (7, Pt b1 0), (8, Sl ai xi.length ci), (9, Sl ao xo.length co), (19, Bo false), (24, Bo (!decide (queueCheck ((⟨most, []⟩ : QueueD)) = 0))), (25, Sl a_l l.length c_l), (26, I (((l.length : Nat) : Int))), (27, I ((k : Int))), (28, Bo (decide ((k : Int) < ((l.length : Nat) : Int)))), (90, Bo bb)]) ((decide (xi = lconcat ([xo, q.wait]))) && (decide (((q.wait.length : Nat) : Int) ≤ most))) (fun h13 => ?_) (fun h13 => ?_)
      ·
        try simp only [decide_eq_true_eq, decide_eq_false_iff_not, Bool.and_eq_true, Bool.or_eq_true, Bool.and_eq_false_imp, Bool.or_eq_false_iff, Bool.not_eq_true', Bool.not_eq_false', Bool.not_eq_true, Bool.not_eq_false, beq_iff_eq, beq_eq_false_iff_ne, bne_iff_ne, ne_eq, Decidable.not_not, Int.not_lt, Int.not_le] at h13
        refine runL_b [10] [(0, I most), (2, Sl a_takes takes.length c_takes), (7, Pt b1 0), (8, Sl ai xi.length ci), (9, Sl ao xo.length co), (19, Bo false), (24, Bo (!decide (queueCheck ((⟨most, []⟩ : QueueD)) = 0))), (25, Sl a_l l.length c_l), (26, I (((l.length : Nat) : Int))), (27, I ((k : Int))), (28, Bo (decide ((k : Int) < ((l.length : Nat) : Int)))), (90, Bo true), (91, .agg #[I q.most, Sl aq0 q.wait.length cq0])] ?_
        refine runL_callV 92 (I (queueCheck q)) (queueCheck_con G15 [I q.most, Sl aq0 q.wait.length cq0] q (⟨aq0, cq0, rfl, hq0, (hq1.mono (Mem.le_trans (Mem.le_trans (Mem.le_trans (Mem.le_trans hl11 hl12) hl13) hl14) hl15))⟩)) ?_
        refine runL_b [0,0,0] [(0, I most), (2, Sl a_takes takes.length c_takes), (6, Bo (decide (queueCheck q = 0))), (7, Pt b1 0), (8, Sl ai xi.length ci), (9, Sl ao xo.length co), (19, Bo false), (24, Bo (!decide (queueCheck ((⟨most, []⟩ : QueueD)) = 0))), (25, Sl a_l l.length c_l), (26, I (((l.length : Nat) : Int))), (27, I ((k : Int))), (28, Bo (decide ((k : Int) < ((l.length : Nat) : Int))))] ?_
        refine runL_nil ?_
        refine tq_then ?_
        refine tc_ret ?_
        refine tq_ret [0] [Bo (decide (queueCheck q = 0))] (bp_ret (Mem.le_trans (Mem.le_trans (Mem.le_trans (Mem.le_trans (Mem.le_trans hle hl11) hl12) hl13) hl14) hl15) ?_)
        have hf_ : (decide (queueCheck q = 0)) = true := by
          have q0 := ord_end hI; first | (simp [q0]; done) | (obtain ⟨q1, q2, q3⟩ := q0; grind) | (have q4 := queuePut_ok (by assumption); have q5 := hI.olen; grind)
        exact congrArg Bo hf_
      ·
        try simp only [decide_eq_true_eq, decide_eq_false_iff_not, Bool.and_eq_true, Bool.or_eq_true, Bool.and_eq_false_imp, Bool.or_eq_false_iff, Bool.not_eq_true', Bool.not_eq_false', Bool.not_eq_true, Bool.not_eq_false, beq_iff_eq, beq_eq_false_iff_ne, bne_iff_ne, ne_eq, Decidable.not_not, Int.not_lt, Int.not_le] at h13
        refine runL_b [1,1,1,0,0] [(0, I most), (2, Sl a_takes takes.length c_takes), (6, Bo false), (7, Pt b1 0), (8, Sl ai xi.length ci), (9, Sl ao xo.length co), (19, Bo false), (24, Bo (!decide (queueCheck ((⟨most, []⟩ : QueueD)) = 0))), (25, Sl a_l l.length c_l), (26, I (((l.length : Nat) : Int))), (27, I ((k : Int))), (28, Bo (decide ((k : Int) < ((l.length : Nat) : Int))))] ?_
        refine runL_nil ?_
        refine tq_then ?_
        refine tc_ret ?_
        refine tq_ret [0] [Bo false] (bp_ret (Mem.le_trans (Mem.le_trans (Mem.le_trans (Mem.le_trans (Mem.le_trans hle hl11) hl12) hl13) hl14) hl15) ?_)
        exfalso
        have q0 := ord_end hI; first | (simp [q0]; done) | (obtain ⟨q1, q2, q3⟩ := q0; grind) | (have q4 := queuePut_ok (by assumption); have q5 := hI.olen; grind)
end Go.Proofs.Ytgcnkcajfjpbcaa
