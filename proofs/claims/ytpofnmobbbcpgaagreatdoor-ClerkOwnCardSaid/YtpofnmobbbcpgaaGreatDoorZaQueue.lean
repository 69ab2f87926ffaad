import Derived.Test.YtpofnmobbbcpgaaGreatDoorZaStr
import Derived.Test.YtpofnmobbbcpgaaGreatDoorZaSl
namespace Go.Proofs.YtpofnmobbbcpgaaGreatDoor
open Go.Tx
set_option linter.unusedVariables false
set_option linter.unusedSimpArgs false
def askRight (name value : List UInt8) : Int := if pathName name = false then 3 else if 20 < value.length then 2 else 0
def queueRight (a : AskD) : Int := askRight a.name a.value
theorem qdiv_bd {a b : Int} (h : 0 ≤ a ∧ a ≤ 30) (hb : 1 ≤ b ∧ b ≤ 30) : 0 ≤ a.tdiv b ∧ a.tdiv b ≤ 30 := by
  rw [Int.tdiv_eq_ediv_of_nonneg h.1]
  exact ⟨Int.ediv_nonneg h.1 (by omega), Int.le_trans (Int.ediv_le_self _ h.1) h.2⟩
theorem qmul_bd {a b : Int} (h : 0 ≤ a ∧ a ≤ 31) (hb : 1 ≤ b ∧ b ≤ 1000) : 0 ≤ a * b ∧ a * b ≤ 31000 := by
  refine ⟨Int.mul_nonneg h.1 (by omega), ?_⟩
  have h1 : a * b ≤ 31 * b := Int.mul_le_mul_of_nonneg_right h.2 (by omega)
  omega
def asksRight : List AskD → Int
  | [] => 0
  | a :: l => if queueRight a = 0 then asksRight l else queueRight a
def queueCheck (q : QueueD) : Int := if q.most < 1 ∨ 30 < q.most then 4 else if q.most < q.wait.length then 7 else asksRight q.wait
def queueZ : QueueD := ⟨0, []⟩
def queuePutE (q : QueueD) (a : AskD) : Int := if queueCheck q ≠ 0 then queueCheck q else if queueRight a ≠ 0 then queueRight a else if (q.wait.length : Int) = q.most then 7 else 0
def queuePut (q : QueueD) (a : AskD) : QueueD × Int × Int := if queuePutE q a ≠ 0 then (queueZ, 0, queuePutE q a) else (⟨q.most, q.wait ++ [a]⟩, q.wait.length, 0)
def minLen (n : Int) (l : List AskD) : Nat := if (l.length : Int) < n then l.length else n.toNat
def queueTake (q : QueueD) (n : Int) : QueueD × List AskD × Int := if queueCheck q ≠ 0 then (queueZ, [], queueCheck q) else if n < 0 then (queueZ, [], 4) else (⟨q.most, q.wait.drop (minLen n q.wait)⟩, q.wait.take (minLen n q.wait), 0)
def queueWait (ahead batch every : Int) : Int × Int := if ahead < 0 ∨ 30 < ahead ∨ batch < 1 ∨ 30 < batch ∨ every < 1 ∨ 1000 < every then (0, 4) else ((ahead.tdiv batch + 1) * every, 0)
theorem asksRight_take {l : List AskD} {i : Nat} {x : AskD} (h : l[i]? = some x) (h0 : queueRight x = 0) : asksRight (l.drop i) = asksRight (l.drop (i + 1)) := by
  obtain ⟨hi, rfl⟩ := List.getElem?_eq_some_iff.1 h
  rw [List.drop_eq_getElem_cons hi]
  show (if queueRight l[i] = 0 then _ else _) = _
  rw [if_pos h0]
theorem asksRight_at {l : List AskD} {i : Nat} {x : AskD} (h : l[i]? = some x) (h0 : ¬ queueRight x = 0) : asksRight (l.drop i) = queueRight x := by
  obtain ⟨hi, rfl⟩ := List.getElem?_eq_some_iff.1 h
  rw [List.drop_eq_getElem_cons hi]
  show (if queueRight l[i] = 0 then _ else _) = _
  rw [if_neg h0]
theorem asksRight_iff : ∀ {l : List AskD}, asksRight l = 0 ↔ ∀ a ∈ l, queueRight a = 0
  | [] => by simp [asksRight]
  | a :: l => by
    unfold asksRight
    split
    · rename_i h; simp [asksRight_iff (l := l), h]
    · rename_i h; simp [h]
theorem queueCheck_iff {q : QueueD} : queueCheck q = 0 ↔ 1 ≤ q.most ∧ q.most ≤ 30 ∧ (q.wait.length : Int) ≤ q.most ∧ ∀ a ∈ q.wait, queueRight a = 0 := by
  unfold queueCheck
  rw [← asksRight_iff]
  (repeat' split) <;> omega
theorem queuePut_ok {q : QueueD} {a : AskD} (h : (queuePut q a).2.2 = 0) : queueCheck q = 0 ∧ queueRight a = 0 ∧ (q.wait.length : Int) < q.most ∧ queuePut q a = ((⟨q.most, q.wait ++ [a]⟩ : QueueD), (q.wait.length : Int), (0 : Int)) := by
  unfold queuePut at h ⊢
  split at h
  · contradiction
  · rename_i h1
    rw [if_neg h1]
    unfold queuePutE at h1
    have := @queueCheck_iff q
    by_cases e1 : queueCheck q = 0
    · rw [if_neg (by omega)] at h1
      by_cases e2 : queueRight a = 0
      · rw [if_neg (by omega)] at h1
        by_cases e3 : (q.wait.length : Int) = q.most
        · rw [if_pos e3] at h1; omega
        · exact ⟨e1, e2, by have := this.1 e1; omega, rfl⟩
      · rw [if_pos e2] at h1; omega
    · rw [if_pos e1] at h1; omega
theorem queuePut_check {q : QueueD} {a : AskD} (h : (queuePut q a).2.2 = 0) : queueCheck (queuePut q a).1 = 0 := by
  obtain ⟨h1, h2, h3, h4⟩ := queuePut_ok h
  rw [h4]
  rw [queueCheck_iff] at h1 ⊢
  refine ⟨h1.1, h1.2.1, by simp; omega, fun b hb => ?_⟩
  rcases List.mem_append.1 hb with hb | hb
  · exact h1.2.2.2 b hb
  · rw [List.mem_singleton.1 hb]; exact h2
theorem queueTake_ok {q : QueueD} {n : Int} (h : (queueTake q n).2.2 = 0) : queueCheck q = 0 ∧ 0 ≤ n ∧ queueTake q n = ((⟨q.most, q.wait.drop (minLen n q.wait)⟩ : QueueD), q.wait.take (minLen n q.wait), (0 : Int)) := by
  unfold queueTake at h ⊢
  split at h
  · contradiction
  split at h
  · cases h
  · rename_i h1 h2
    rw [if_neg h1, if_neg h2]
    exact ⟨by omega, by omega, rfl⟩
theorem queueTake_check {q : QueueD} {n : Int} (h : (queueTake q n).2.2 = 0) : queueCheck (queueTake q n).1 = 0 := by
  obtain ⟨h1, h2, h3⟩ := queueTake_ok h
  rw [h3]
  rw [queueCheck_iff] at h1 ⊢
  exact ⟨h1.1, h1.2.1, by simp; omega, fun b hb => h1.2.2.2 b (List.mem_of_mem_drop hb)⟩
theorem minLen_eq {n : Int} {l : List AskD} (h : 0 ≤ n) : (if (((l.length : Nat) : Int)) < n then (((l.length : Nat) : Int)) else n) = ((minLen n l : Nat) : Int) := by unfold minLen; split <;> omega
theorem minLen_le {n : Int} {l : List AskD} : minLen n l ≤ l.length := by unfold minLen; split <;> omega
theorem queueRight_con (G : Mem) (vs_a : List Value) (a : AskD) (h_a : EAsk.R G vs_a a)  : ConV 52 #[.agg vs_a.toArray] G (I (queueRight a)) := by
 obtain ⟨rfl, w1, w2, w3, w4⟩ := h_a
 refine con_of Tryz.func52 13 [(0, .agg #[Sr a.name, Sr a.value, U a.n, U a.tag])] rfl (fun w0 G0 => ?_)
 refine tc_seq (tc_region ?_)
 refine runL_box 1 #[Sr a.name, Sr a.value, U a.n, U a.tag] 47 (fun b1 => ?_)
 refine runL_bn [0] [] (runL_nil (tq_then (tc_seq (tc_block (tc_seq (tc_region ?_))))))
 refine runL_bn [0,2] [(5, Sr a.name)] ?_
 refine runL_callV 6 (Bo (pathName a.name)) (pathName_con G a.name) ?_
 refine runL_bn [0,0] [(3, Bo (!(pathName a.name)))] (runL_nil (tq_then ?_))
 refine tc_condP (!(pathName a.name)) (fun h1 => ?_) (fun h1 => ?_)
 ·
  refine tc_rbn [0] [(2, I 3)] (tc_ret (tq_block_ret (tq_then_ret ?_)))
  refine tq_ret [0] [I 3] (bp_ret (Mem.le_refl _) (congrArg I (?_ : (queueRight a) = 3).symm))
  unfold queueRight askRight; simp_all; try omega
 ·
  refine tc_rbn [0,2,0,0,0] [(8, Bo (decide (((a.value).length : Int) > 20)))] ?_
  refine tc_condP (decide (((a.value).length : Int) > 20)) (fun h2 => ?_) (fun h2 => ?_)
  ·
   refine tc_rbn [0] [(2, I 2)] (tc_ret (tq_block_ret (tq_then_ret ?_)))
   refine tq_ret [0] [I 2] (bp_ret (Mem.le_refl _) (congrArg I (?_ : (queueRight a) = 2).symm))
   unfold queueRight askRight; simp_all; try omega
  ·
   refine tc_skip (tq_block (tq_then ?_))
   refine tc_rbn [0] [(2, I 0)] (tc_ret ?_)
   refine tq_ret [0] [I 0] (bp_ret (Mem.le_refl _) (congrArg I (?_ : (queueRight a) = 0).symm))
   unfold queueRight askRight; simp_all; try omega
theorem queueCheck_con (G : Mem) (vs_q : List Value) (q : QueueD) (h_q : EQueue.R G vs_q q)  : ConV 49 #[.agg vs_q.toArray] G (I (queueCheck q)) := by
 obtain ⟨a1, c1, rfl, w1, hs1⟩ := h_q
 refine con_of Tryz.func49 35 [(0, .agg #[I q.most, Sl a1 q.wait.length c1])] rfl (fun w0 G0 => ?_)
 refine tc_seq (tc_region ?_)
 refine runL_box 1 #[I q.most, Sl a1 q.wait.length c1] 41 (fun b1 => ?_)
 refine runL_bn [0] [] (runL_nil (tq_then (tc_seq (tc_block (tc_seq (tc_region ?_))))))
 refine runL_bn [0,2,0,0] [(10, Bo (decide (q.most < 1)))] ?_
 refine runL_b2n (decide (q.most < 1)) [10] [1,1,1,0] [0,2,0,0] (fun bb => [(14, Bo (bb || (decide (q.most > 30))))]) ?_
 refine runL_bn [0] [(6, Bo ((decide (q.most < 1)) || (decide (q.most > 30))))] (runL_nil (tq_then ?_))
 refine tc_condP ((decide (q.most < 1)) || (decide (q.most > 30))) (fun h1 => ?_) (fun h1 => ?_)
 ·
  refine tc_rbn [0] [(2, I 4)] (tc_ret (tq_block_ret (tq_then_ret ?_)))
  refine tq_ret [0] [I 4] (bp_ret (Mem.le_refl _) (congrArg I (?_ : (queueCheck q) = 4).symm))
  unfold queueCheck; first | (rw [if_pos (by omega)]; done) | (rw [if_neg (by omega), if_pos (by omega)]; done) | (rw [if_neg (by omega), if_neg (by omega), hn]; first | exact asksRight_at hx1 h4 | (rw [List.drop_eq_nil_of_le (by omega)]; rfl))
 ·
  refine tc_rbn [0,2,0,0,2,0,0] [(15, Bo (decide ((q.wait.length : Int) > q.most)))] ?_
  refine tc_condP (decide ((q.wait.length : Int) > q.most)) (fun h2 => ?_) (fun h2 => ?_)
  ·
   refine tc_rbn [0] [(2, I 7)] (tc_ret (tq_block_ret (tq_then_ret ?_)))
   refine tq_ret [0] [I 7] (bp_ret (Mem.le_refl _) (congrArg I (?_ : (queueCheck q) = 7).symm))
   unfold queueCheck; first | (rw [if_pos (by omega)]; done) | (rw [if_neg (by omega), if_pos (by omega)]; done) | (rw [if_neg (by omega), if_neg (by omega), hn]; first | exact asksRight_at hx1 h4 | (rw [List.drop_eq_nil_of_le (by omega)]; rfl))
  ·
   refine tc_skip (tq_block (tq_then (tc_seq ?_)))
   refine tc_rbn [0,2,0,0] [(23, Sl a1 q.wait.length c1), (24, I (q.wait.length : Int)), (25, I 0)] (tc_block ?_)
   have hlm_hs1 : q.wait.length ≤ 9223372036854775807 := Nat.le_trans (hs1).le (hs1).max
   refine tc_loop (σ := Nat) (fun q_ => (q_ ≤ q.wait.length) ∧ (asksRight q.wait = asksRight (q.wait.drop q_))) (fun q_ => [(23, Sl a1 q.wait.length c1), (24, I (q.wait.length : Int)), (25, I (q_ : Int))]) (fun q_ => G) (fun q_ => [[Sg b1 0 [I q.most, Sl a1 q.wait.length c1]]]) (fun q_ => q.wait.length - q_) 0 ⟨(by (try dsimp only); first | exact Nat.zero_le _ | omega | simp), rfl⟩ (fun q_ hs => ?_)
   revert hs; revert q_; intro i hs
   obtain ⟨hi, hn⟩ := hs
   refine tc_eq (fr' := [(23, Sl a1 q.wait.length c1), (24, I (q.wait.length : Int)), (25, I (i : Int))]) (L' := [[Sg b1 0 [I q.most, Sl a1 q.wait.length c1]]]) rfl rfl ?_
   refine tc_rbn [0] [(26, Bo (decide ((i : Int) < (q.wait.length : Int))))] (tc_seq ?_)
   refine tc_condP (decide ((i : Int) < (q.wait.length : Int))) (fun h3 => ?_) (fun h3 => ?_)
   ·
    refine tc_skip (tq_then (tc_seq (tc_block (tc_seq (tc_region ?_)))))
    obtain ⟨b2, o1, rfl⟩ := RS.addr hs1 (k := i) (by omega)
    obtain ⟨x1, hx1⟩ := getX (l := q.wait) (k := i) (by omega)
    obtain ⟨_, ⟨rfl, w2, w3, w4, w5⟩, hc1⟩ := RS.get hs1 hx1
    refine runL_idx (b := b2) (off := o1) (len := q.wait.length) (cap := c1) (ik := .i64) 27 47 4 i (by omega) ?_
    refine runL_ldG 28 47 (cs := [Sr x1.name, Sr x1.value, U x1.n, U x1.tag]) 0 (.agg #[Sr x1.name, Sr x1.value, U x1.n, U x1.tag]) hc1 ?_
    refine runL_box 4 #[Sr ([]), Sr ([]), U 0, U 0] 47 (fun b3 => ?_)
    refine runL_bsn [3] [] [[Sg b3 0 [Sr x1.name, Sr x1.value, U x1.n, U x1.tag]], [Sg b1 0 [I q.most, Sl (At b2 o1) q.wait.length c1]]] (runL_nil (tq_then (tc_seq (tc_region ?_))))
    refine runL_bn [2] [(29, .agg #[Sr x1.name, Sr x1.value, U x1.n, U x1.tag])] ?_
    refine runL_callV 30 (I (queueRight x1)) (queueRight_con G [Sr x1.name, Sr x1.value, U x1.n, U x1.tag] x1 (⟨rfl, w2, w3, w4, w5⟩)) ?_
    refine runL_bn [0] [(5, I (queueRight x1))] (runL_nil (tq_then ?_))
    refine tc_rbn [0,0] [(32, Bo (!decide (queueRight x1 = 0)))] ?_
    refine tc_condP (!decide (queueRight x1 = 0)) (fun h4 => ?_) (fun h4 => ?_)
    ·
     refine tc_rbn [0,0] [(2, I (queueRight x1))] (tc_ret (tq_block_ret (tq_then_ret (tq_rnd_ret (tq_block_ret (tq_then_ret ?_))))))
     refine tq_ret [0] [I (queueRight x1)] (bp_ret (Mem.le_refl _) (congrArg I (?_ : (queueCheck q) = (queueRight x1)).symm))
     unfold queueCheck; first | (rw [if_pos (by omega)]; done) | (rw [if_neg (by omega), if_pos (by omega)]; done) | (rw [if_neg (by omega), if_neg (by omega), hn]; first | exact asksRight_at hx1 h4 | (rw [List.drop_eq_nil_of_le (by omega)]; rfl))
    ·
     refine tc_skip (tq_block (tq_then (tc_region ?_)))
     refine runL_bn [0,0] [(25, I (IntKind.i64.wrap ((i : Int) + 1)))] ?_
     refine runL_wi64 25 ((i : Int) + 1) (by omega) ?_
     refine runL_nil ?_
     refine tq_ownsA [[Sg b1 0 [I q.most, Sl (At b2 o1) q.wait.length c1]]] ?_
     exact tq_rnd (i + 1) ⟨(by omega), (by rw [hn]; exact asksRight_take hx1 h4)⟩ (by (try dsimp only); omega)
   ·
    refine tc_exit (tq_then_exit (tq_rnd_exit (tq_block_here (tq_then ?_))))
    refine tc_rbn [0] [(2, I 0)] (tc_ret ?_)
    refine tq_ret [0] [I 0] (bp_ret (Mem.le_refl _) (congrArg I (?_ : (queueCheck q) = 0).symm))
    unfold queueCheck; first | (rw [if_pos (by omega)]; done) | (rw [if_neg (by omega), if_pos (by omega)]; done) | (rw [if_neg (by omega), if_neg (by omega), hn]; first | exact asksRight_at hx1 h4 | (rw [List.drop_eq_nil_of_le (by omega)]; rfl))
theorem queueWait_con (G : Mem) (a : Int) (b : Int) (e : Int)  : ConV 26 #[I a, I b, I e] G (.tuple #[I ((queueWait a b e).1), I ((queueWait a b e).2)]) := by
 refine con_of Tryz.func26 36 [(0, I a), (1, I b), (2, I e)] rfl (fun w0 G0 => ?_)
 refine tc_rbn [0,0] [] (tc_seq (tc_seq (tc_region ?_)))
 refine runL_bn [0,0,0] [(10, Bo (decide (a < 0)))] ?_
 refine runL_b2n (decide (a < 0)) [10] [1,1,0] [0,0,0] (fun bb => [(13, Bo (bb || (decide (a > 30))))]) ?_
 refine runL_bn [0] [(14, Bo ((decide (a < 0)) || (decide (a > 30))))] ?_
 refine runL_b2n ((decide (a < 0)) || (decide (a > 30))) [14] [1,1,0] [0,0,0] (fun bb => [(17, Bo (bb || (decide (b < 1))))]) ?_
 refine runL_bn [0] [(18, Bo (((decide (a < 0)) || (decide (a > 30))) || (decide (b < 1))))] ?_
 refine runL_b2n (((decide (a < 0)) || (decide (a > 30))) || (decide (b < 1))) [18] [1,1,0] [0,0,0] (fun bb => [(21, Bo (bb || (decide (b > 30))))]) ?_
 refine runL_bn [0] [(22, Bo ((((decide (a < 0)) || (decide (a > 30))) || (decide (b < 1))) || (decide (b > 30))))] ?_
 refine runL_b2n ((((decide (a < 0)) || (decide (a > 30))) || (decide (b < 1))) || (decide (b > 30))) [22] [1,1,0] [0,0,0] (fun bb => [(25, Bo (bb || (decide (e < 1))))]) ?_
 refine runL_bn [0] [(26, Bo (((((decide (a < 0)) || (decide (a > 30))) || (decide (b < 1))) || (decide (b > 30))) || (decide (e < 1))))] ?_
 refine runL_b2n (((((decide (a < 0)) || (decide (a > 30))) || (decide (b < 1))) || (decide (b > 30))) || (decide (e < 1))) [26] [1,1,0] [0,0,0] (fun bb => [(29, Bo (bb || (decide (e > 1000))))]) ?_
 refine runL_nil (tq_then ?_)
 refine tc_condP ((((((decide (a < 0)) || (decide (a > 30))) || (decide (b < 1))) || (decide (b > 30))) || (decide (e < 1))) || (decide (e > 1000))) (fun h1 => ?_) (fun h1 => ?_)
 ·
  refine tc_rbn [0,0] [(6, I 0), (7, I 4)] (tc_ret (tq_then_ret ?_))
  refine tq_ret [0, 0] [I 0, I 4] (bp_ret (Mem.le_refl _) ?_)
  have hf_ : (queueWait a b e) = (0, 4) := by
   unfold queueWait; first | (rw [if_pos (by omega)]; done) | (rw [if_neg (by omega)]; done)
  (try rw [hf_]); first | with_reducible rfl | (simp only [packR]; done) | rfl
 ·
  refine tc_skip (tq_then (tc_seq (tc_region ?_)))
  refine runL_bn [0,0] [(30, I a), (31, I b)] ?_
  refine runL_div (k := .i64) (x := a) (y := b) 32 true ((a).tdiv b) (by first | omega | (have := qdiv_bd (a := a) (b := b) (by omega) (by omega); first | omega | (have := qmul_bd (a := a.tdiv b + 1) (b := e) (by omega) (by omega); omega))) (by simp only [cond_true]; exact IntWalk.i64_in _ (by first | omega | (have := qdiv_bd (a := a) (b := b) (by omega) (by omega); first | omega | (have := qmul_bd (a := a.tdiv b + 1) (b := e) (by omega) (by omega); omega)))) ?_
  refine runL_bn [0,0,0,0,0] [(6, I (IntKind.i64.wrap ((IntKind.i64.wrap (((a).tdiv b) + 1)) * e))), (7, I 0)] ?_
  have e1 : IntKind.i64.wrap (((a).tdiv b) + 1) = ((a).tdiv b) + 1 := IntWalk.i64_in _ (by first | omega | (have := qdiv_bd (a := a) (b := b) (by omega) (by omega); first | omega | (have := qmul_bd (a := a.tdiv b + 1) (b := e) (by omega) (by omega); omega)))
  have e2 : IntKind.i64.wrap ((((a).tdiv b) + 1) * e) = (((a).tdiv b) + 1) * e := IntWalk.i64_in _ (by first | omega | (have := qdiv_bd (a := a) (b := b) (by omega) (by omega); first | omega | (have := qmul_bd (a := a.tdiv b + 1) (b := e) (by omega) (by omega); omega)))
  refine runL_put 6 (I ((((a).tdiv b) + 1) * e)) (show (I (IntKind.i64.wrap ((IntKind.i64.wrap (((a).tdiv b) + 1)) * e)) : Value) = I ((((a).tdiv b) + 1) * e) by simp only [e1, e2]) ?_
  clear e2 e1
  refine runL_nil (tq_then (tc_ret ?_))
  refine tq_ret [0, 0] [I ((((a).tdiv b) + 1) * e), I 0] (bp_ret (Mem.le_refl _) ?_)
  have hf_ : (queueWait a b e) = (((((a).tdiv b) + 1) * e), 0) := by
   unfold queueWait; first | (rw [if_pos (by omega)]; done) | (rw [if_neg (by omega)]; done)
  (try rw [hf_]); first | with_reducible rfl | (simp only [packR]; done) | rfl
end Go.Proofs.YtpofnmobbbcpgaaGreatDoor
