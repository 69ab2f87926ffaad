import Derived.Test.YtpofnmobbbcpgaaGreatDoorStr
import Derived.Test.YtpofnmobbbcpgaaGreatDoorSl
namespace Go.Proofs.YtpofnmobbbcpgaaGreatDoor
open Go.Tx
set_option linter.unusedVariables false
set_option linter.unusedSimpArgs false

def askRight (name value : List UInt8) : Int := if pathName name = false then 3 else if 20 < value.length then 2 else 0
def queueRight (a : AskD) : Int := askRight a.name a.value
theorem qdiv_bd {a b : Int} (h : 0 ≤ a ∧ a ≤ 30) (hb : 1 ≤ b ∧ b ≤ 30) : 0 ≤ a.tdiv b ∧ a.tdiv b ≤ 30 := by
  rw [Int.tdiv_eq_ediv_of_nonneg h.1]
  exact ⟨Int.ediv_nonneg h.1 (by omega), Int.le_trans (Int.ediv_le_self _ h.1) h.2⟩
theorem qmul_bd {a b : Int} (h : 0 ≤ a ∧ a ≤ 31) (hb : 1 ≤ b ∧ b ≤ 1000) : 0 ≤ a * b ∧ a * b ≤ 31000 := by
  refine ⟨Int.mul_nonneg h.1 (by omega), ?_⟩
  have h1 : a * b ≤ 31 * b := Int.mul_le_mul_of_nonneg_right h.2 (by omega)
  omega
def asksRight : List AskD → Int
  | [] => 0
  | a :: l => if queueRight a = 0 then asksRight l else queueRight a
def queueCheck (q : QueueD) : Int := if q.most < 1 ∨ 30 < q.most then 4 else if q.most < q.wait.length then 7 else asksRight q.wait
def queueZ : QueueD := ⟨0, []⟩
def queuePutE (q : QueueD) (a : AskD) : Int := if queueCheck q ≠ 0 then queueCheck q else if queueRight a ≠ 0 then queueRight a else if (q.wait.length : Int) = q.most then 7 else 0
def queuePut (q : QueueD) (a : AskD) : QueueD × Int × Int := if queuePutE q a ≠ 0 then (queueZ, 0, queuePutE q a) else (⟨q.most, q.wait ++ [a]⟩, q.wait.length, 0)
def minLen (n : Int) (l : List AskD) : Nat := if (l.length : Int) < n then l.length else n.toNat
def queueTake (q : QueueD) (n : Int) : QueueD × List AskD × Int := if queueCheck q ≠ 0 then (queueZ, [], queueCheck q) else if n < 0 then (queueZ, [], 4) else (⟨q.most, q.wait.drop (minLen n q.wait)⟩, q.wait.take (minLen n q.wait), 0)
def queueWait (ahead batch every : Int) : Int × Int := if ahead < 0 ∨ 30 < ahead ∨ batch < 1 ∨ 30 < batch ∨ every < 1 ∨ 1000 < every then (0, 4) else ((ahead.tdiv batch + 1) * every, 0)
theorem asksRight_take {l : List AskD} {i : Nat} {x : AskD} (h : l[i]? = some x) (h0 : queueRight x = 0) : asksRight (l.drop i) = asksRight (l.drop (i + 1)) := by
  obtain ⟨hi, rfl⟩ := List.getElem?_eq_some_iff.1 h
  rw [List.drop_eq_getElem_cons hi]
  show (if queueRight l[i] = 0 then _ else _) = _
  rw [if_pos h0]
theorem asksRight_at {l : List AskD} {i : Nat} {x : AskD} (h : l[i]? = some x) (h0 : ¬ queueRight x = 0) : asksRight (l.drop i) = queueRight x := by
  obtain ⟨hi, rfl⟩ := List.getElem?_eq_some_iff.1 h
  rw [List.drop_eq_getElem_cons hi]
  show (if queueRight l[i] = 0 then _ else _) = _
  rw [if_neg h0]
theorem asksRight_iff : ∀ {l : List AskD}, asksRight l = 0 ↔ ∀ a ∈ l, queueRight a = 0
  | [] => by simp [asksRight]
  | a :: l => by
    unfold asksRight
    split
    · rename_i h; simp [asksRight_iff (l := l), h]
    · rename_i h; simp [h]
theorem queueCheck_iff {q : QueueD} : queueCheck q = 0 ↔ 1 ≤ q.most ∧ q.most ≤ 30 ∧ (q.wait.length : Int) ≤ q.most ∧ ∀ a ∈ q.wait, queueRight a = 0 := by
  unfold queueCheck
  rw [← asksRight_iff]
  (repeat' split) <;> omega
theorem queuePut_ok {q : QueueD} {a : AskD} (h : (queuePut q a).2.2 = 0) : queueCheck q = 0 ∧ queueRight a = 0 ∧ (q.wait.length : Int) < q.most ∧ queuePut q a = ((⟨q.most, q.wait ++ [a]⟩ : QueueD), (q.wait.length : Int), (0 : Int)) := by
  unfold queuePut at h ⊢
  split at h
  · contradiction
  · rename_i h1
    rw [if_neg h1]
    unfold queuePutE at h1
    have := @queueCheck_iff q
    by_cases e1 : queueCheck q = 0
    · rw [if_neg (by omega)] at h1
      by_cases e2 : queueRight a = 0
      · rw [if_neg (by omega)] at h1
        by_cases e3 : (q.wait.length : Int) = q.most
        · rw [if_pos e3] at h1; omega
        · exact ⟨e1, e2, by have := this.1 e1; omega, rfl⟩
      · rw [if_pos e2] at h1; omega
    · rw [if_pos e1] at h1; omega
theorem queuePut_check {q : QueueD} {a : AskD} (h : (queuePut q a).2.2 = 0) : queueCheck (queuePut q a).1 = 0 := by
  obtain ⟨h1, h2, h3, h4⟩ := queuePut_ok h
  rw [h4]
  rw [queueCheck_iff] at h1 ⊢
  refine ⟨h1.1, h1.2.1, by simp; omega, fun b hb => ?_⟩
  rcases List.mem_append.1 hb with hb | hb
  · exact h1.2.2.2 b hb
  · rw [List.mem_singleton.1 hb]; exact h2
theorem queueTake_ok {q : QueueD} {n : Int} (h : (queueTake q n).2.2 = 0) : queueCheck q = 0 ∧ 0 ≤ n ∧ queueTake q n = ((⟨q.most, q.wait.drop (minLen n q.wait)⟩ : QueueD), q.wait.take (minLen n q.wait), (0 : Int)) := by
  unfold queueTake at h ⊢
  split at h
  · contradiction
  split at h
  · cases h
  · rename_i h1 h2
    rw [if_neg h1, if_neg h2]
    exact ⟨by omega, by omega, rfl⟩
theorem queueTake_check {q : QueueD} {n : Int} (h : (queueTake q n).2.2 = 0) : queueCheck (queueTake q n).1 = 0 := by
  obtain ⟨h1, h2, h3⟩ := queueTake_ok h
  rw [h3]
  rw [queueCheck_iff] at h1 ⊢
  exact ⟨h1.1, h1.2.1, by simp; omega, fun b hb => h1.2.2.2 b (List.mem_of_mem_drop hb)⟩
theorem minLen_eq {n : Int} {l : List AskD} (h : 0 ≤ n) : (if (((l.length : Nat) : Int)) < n then (((l.length : Nat) : Int)) else n) = ((minLen n l : Nat) : Int) := by unfold minLen; split <;> omega
theorem minLen_le {n : Int} {l : List AskD} : minLen n l ≤ l.length := by unfold minLen; split <;> omega
theorem queueWait_ok {a b e : Int} (h : (queueWait a b e).2 = 0) : 0 ≤ a ∧ a ≤ 30 ∧ 1 ≤ b ∧ b ≤ 30 ∧ 1 ≤ e ∧ e ≤ 1000 ∧ queueWait a b e = ((a / b + 1) * e, 0) := by
  unfold queueWait at h ⊢
  split at h
  · cases h
  · rename_i h1
    rw [if_neg h1, Int.tdiv_eq_ediv_of_nonneg (by omega)]
    exact ⟨by omega, by omega, by omega, by omega, by omega, by omega, rfl⟩
theorem queueWait_err {a b e : Int} (h : ¬ (queueWait a b e).2 = 0) : (queueWait a b e).1 = 0 := by
  revert h; unfold queueWait; split <;> simp
theorem qw_mono {a m b g e : Int} (h1 : (queueWait a b e).2 = 0) (h2 : (queueWait m b e).2 = 0) (h3 : (queueWait a g e).2 = 0) (ham : a ≤ m) (hbg : b ≤ g) :
    e ≤ (queueWait a b e).1 ∧ (queueWait a b e).1 ≤ (queueWait m b e).1 ∧ (queueWait a g e).1 ≤ (queueWait a b e).1 := by
  obtain ⟨a0, _, b0, _, e0, _, q1⟩ := queueWait_ok h1
  obtain ⟨m0, _, _, _, _, _, q2⟩ := queueWait_ok h2
  obtain ⟨_, _, g0, _, _, _, q3⟩ := queueWait_ok h3
  rw [q1, q2, q3]
  simp only
  have d0 : 0 ≤ a / b := Int.ediv_nonneg a0 (by omega)
  have d1 : a / b ≤ m / b := Int.ediv_le_ediv (by omega) ham
  have d2 : a / g ≤ a / b := by
    rw [Int.le_ediv_iff_mul_le (by omega)]
    have h0 : 0 ≤ a / g := Int.ediv_nonneg a0 (by omega)
    have h4 : a / g * b ≤ a / g * g := Int.mul_le_mul_of_nonneg_left hbg h0
    have h5 : a / g * g ≤ a := Int.ediv_mul_le a (by omega)
    omega
  have d3 : 0 ≤ a / g := Int.ediv_nonneg a0 (by omega)
  have m1 : 1 * e ≤ (a / b + 1) * e := Int.mul_le_mul_of_nonneg_right (by omega) (by omega)
  have m2 : (a / b + 1) * e ≤ (m / b + 1) * e := Int.mul_le_mul_of_nonneg_right (by omega) (by omega)
  have m3 : (a / g + 1) * e ≤ (a / b + 1) * e := Int.mul_le_mul_of_nonneg_right (by omega) (by omega)
  omega
structure OrdInv (most : Int) (k : Nat) (q : QueueD) (xi xo : List AskD) : Prop where
  k100 : k ≤ 100
  ok : queueCheck q = 0
  mo : q.most = most
  eq : xi = xo ++ q.wait
  li : xi.length ≤ k
theorem OrdInv.olen {most : Int} {k : Nat} {q : QueueD} {xi xo : List AskD} (h : OrdInv most k q xi xo) : xo.length + q.wait.length = xi.length ∧ xi.length ≤ 100 ∧ xi.length ≤ k := by
  have := congrArg List.length h.eq
  have := h.li; have := h.k100
  simp at *; omega
theorem ord_start {most : Int} (h : queueCheck ⟨most, []⟩ = 0) : OrdInv most 0 ⟨most, []⟩ [] [] := ⟨by omega, h, rfl, rfl, by simp⟩
theorem ord_0 {most : Int} {k : Nat} {q : QueueD} {xi xo : List AskD} (h : OrdInv most k q xi xo) (hk : k < 100) : OrdInv most (k + 1) q xi xo := ⟨by omega, h.ok, h.mo, h.eq, by have := h.li; omega⟩
theorem ord_p {most : Int} {k : Nat} {q : QueueD} {xi xo : List AskD} (h : OrdInv most k q xi xo) (hk : k < 100) {a : AskD} (hp : (queuePut q a).2.2 = 0) : OrdInv most (k + 1) (queuePut q a).1 (xi ++ [a]) xo := by
  obtain ⟨h1, h2, h3, h4⟩ := queuePut_ok hp
  have := queuePut_check hp
  rw [h4] at this ⊢
  exact ⟨by omega, this, h.mo, by rw [h.eq]; simp, by have := h.li; simp; omega⟩
theorem ord_t {most : Int} {k : Nat} {q : QueueD} {xi xo : List AskD} (h : OrdInv most k q xi xo) {n : Int} (hp : (queueTake q n).2.2 = 0) : OrdInv most k (queueTake q n).1 xi (xo ++ (queueTake q n).2.1) := by
  obtain ⟨h1, h2, h3⟩ := queueTake_ok hp
  have := queueTake_check hp
  rw [h3] at this ⊢
  exact ⟨h.k100, this, h.mo, by rw [h.eq]; simp, h.li⟩
theorem ord_end {most : Int} {k : Nat} {q : QueueD} {xi xo : List AskD} (h : OrdInv most k q xi xo) : xi = lconcat [xo, q.wait] ∧ (q.wait.length : Int) ≤ most ∧ queueCheck q = 0 := by
  have := (queueCheck_iff.1 h.ok).2.2.1
  refine ⟨by rw [h.eq]; simp [lconcat], by rw [← h.mo]; exact this, h.ok⟩

theorem queueRight_con (G : Mem) (vs_a : List Value) (a : AskD) (h_a : EAsk.R G vs_a a)  : ConV 52 #[.agg vs_a.toArray] G (I (queueRight a)) := by
  obtain ⟨rfl, w1, w2, w3, w4⟩ := h_a
  refine con_of Tryz.func52 13 [(0, .agg #[Sr a.name, Sr a.value, U a.n, U a.tag])] rfl (fun w0 G0 => ?_)
  refine tc_seq ?_
  refine tc_region ?_
  refine runL_box 1 #[Sr a.name, Sr a.value, U a.n, U a.tag] 47 (fun b1 => ?_)
  refine runL_bn [0] [] ?_
  refine runL_nil ?_
  refine tq_then ?_
  refine tc_seq ?_
  refine tc_block ?_
  refine tc_seq ?_
  refine tc_region ?_
  refine runL_bn [0,2] [(5, Sr a.name)] ?_
  refine runL_callV 6 (Bo (pathName a.name)) (pathName_con G a.name) ?_
  refine runL_bn [0,0] [(3, Bo (!(pathName a.name)))] ?_
  refine runL_nil ?_
  refine tq_then ?_
  refine tc_condP (!(pathName a.name)) (fun h1 => ?_) (fun h1 => ?_)
  ·
    refine tc_rbn [0] [(2, I 3)] ?_
    refine tc_ret ?_
    refine tq_block_ret ?_
    refine tq_then_ret ?_
    refine tq_ret [0] [I 3] (bp_ret (Mem.le_refl _) (congrArg I (?_ : (queueRight a) = 3).symm))
    unfold queueRight askRight; simp_all; try omega
  ·
    refine tc_rbn [0,2,0,0,0] [(8, Bo (decide (((a.value).length : Int) > 20)))] ?_
    refine tc_condP (decide (((a.value).length : Int) > 20)) (fun h2 => ?_) (fun h2 => ?_)
    ·
      refine tc_rbn [0] [(2, I 2)] ?_
      refine tc_ret ?_
      refine tq_block_ret ?_
      refine tq_then_ret ?_
      refine tq_ret [0] [I 2] (bp_ret (Mem.le_refl _) (congrArg I (?_ : (queueRight a) = 2).symm))
      unfold queueRight askRight; simp_all; try omega
    ·
      refine tc_skip ?_
      refine tq_block ?_
      refine tq_then ?_
      refine tc_rbn [0] [(2, I 0)] ?_
      refine tc_ret ?_
      refine tq_ret [0] [I 0] (bp_ret (Mem.le_refl _) (congrArg I (?_ : (queueRight a) = 0).symm))
      unfold queueRight askRight; simp_all; try omega

theorem queueCheck_con (G : Mem) (vs_q : List Value) (q : QueueD) (h_q : EQueue.R G vs_q q)  : ConV 49 #[.agg vs_q.toArray] G (I (queueCheck q)) := by
  obtain ⟨a1, c1, rfl, w1, hs1⟩ := h_q
  refine con_of Tryz.func49 35 [(0, .agg #[I q.most, Sl a1 q.wait.length c1])] rfl (fun w0 G0 => ?_)
  refine tc_seq ?_
  refine tc_region ?_
  refine runL_box 1 #[I q.most, Sl a1 q.wait.length c1] 41 (fun b1 => ?_)
  refine runL_bn [0] [] ?_
  refine runL_nil ?_
  refine tq_then ?_
  refine tc_seq ?_
  refine tc_block ?_
  refine tc_seq ?_
  refine tc_region ?_
  refine runL_bn [0,2,0,0] [(10, Bo (decide (q.most < 1)))] ?_
  refine runL_b2n (decide (q.most < 1)) [10] [1,1,1,0] [0,2,0,0] (fun bb => [(14, Bo (bb || (decide (q.most > 30))))]) ?_
  refine runL_bn [0] [(6, Bo ((decide (q.most < 1)) || (decide (q.most > 30))))] ?_
  refine runL_nil ?_
  refine tq_then ?_
  refine tc_condP ((decide (q.most < 1)) || (decide (q.most > 30))) (fun h1 => ?_) (fun h1 => ?_)
  ·
    refine tc_rbn [0] [(2, I 4)] ?_
    refine tc_ret ?_
    refine tq_block_ret ?_
    refine tq_then_ret ?_
    refine tq_ret [0] [I 4] (bp_ret (Mem.le_refl _) (congrArg I (?_ : (queueCheck q) = 4).symm))
    unfold queueCheck; first | (rw [if_pos (by omega)]; done) | (rw [if_neg (by omega), if_pos (by omega)]; done) | (rw [if_neg (by omega), if_neg (by omega), hn]; first | exact asksRight_at hx1 h4 | (rw [List.drop_eq_nil_of_le (by omega)]; rfl))
  ·
    refine tc_rbn [0,2,0,0,2,0,0] [(15, Bo (decide (((q.wait.length : Nat) : Int) > q.most)))] ?_
    refine tc_condP (decide (((q.wait.length : Nat) : Int) > q.most)) (fun h2 => ?_) (fun h2 => ?_)
    ·
      refine tc_rbn [0] [(2, I 7)] ?_
      refine tc_ret ?_
      refine tq_block_ret ?_
      refine tq_then_ret ?_
      refine tq_ret [0] [I 7] (bp_ret (Mem.le_refl _) (congrArg I (?_ : (queueCheck q) = 7).symm))
      unfold queueCheck; first | (rw [if_pos (by omega)]; done) | (rw [if_neg (by omega), if_pos (by omega)]; done) | (rw [if_neg (by omega), if_neg (by omega), hn]; first | exact asksRight_at hx1 h4 | (rw [List.drop_eq_nil_of_le (by omega)]; rfl))
    ·
      refine tc_skip ?_
      refine tq_block ?_
      refine tq_then ?_
      refine tc_seq ?_
      refine tc_rbn [0,2,0,0] [(23, Sl a1 q.wait.length c1), (24, I (((q.wait.length : Nat) : Int))), (25, I 0)] ?_
      refine tc_block ?_
      have hlm_hs1 : q.wait.length ≤ 9223372036854775807 := Nat.le_trans (hs1).le (hs1).max
      refine tc_loop (σ := Nat) (fun q_ => (q_ ≤ q.wait.length) ∧ (asksRight q.wait = asksRight (q.wait.drop q_))) (fun q_ => [(23, Sl a1 q.wait.length c1), (24, I (((q.wait.length : Nat) : Int))), (25, I ((q_ : Int)))]) (fun q_ => G) (fun q_ => [[Sg b1 0 [I q.most, Sl a1 q.wait.length c1]]]) (fun q_ => q.wait.length - q_) 0 ⟨(by (try dsimp only); first | exact Nat.zero_le _ | omega | simp), rfl⟩ (fun q_ hs => ?_)
      revert hs; revert q_; intro i hs
      obtain ⟨hi, hn⟩ := hs
      refine tc_eq (fr' := [(23, Sl a1 q.wait.length c1), (24, I (((q.wait.length : Nat) : Int))), (25, I ((i : Int)))]) (L' := [[Sg b1 0 [I q.most, Sl a1 q.wait.length c1]]]) rfl rfl ?_
      refine tc_rbn [0] [(26, Bo (decide ((i : Int) < ((q.wait.length : Nat) : Int))))] ?_
      refine tc_seq ?_
      refine tc_condP (decide ((i : Int) < ((q.wait.length : Nat) : Int))) (fun h3 => ?_) (fun h3 => ?_)
      ·
        refine tc_skip ?_
        refine tq_then ?_
        refine tc_seq ?_
        refine tc_block ?_
        refine tc_seq ?_
        refine tc_region ?_
        obtain ⟨b2, o1, rfl⟩ := RS.addr hs1 (k := i) (by omega)
        obtain ⟨x1, hx1⟩ := getX (l := q.wait) (k := i) (by omega)
        obtain ⟨_, ⟨rfl, w2, w3, w4, w5⟩, hc1⟩ := RS.get hs1 hx1
        refine runL_idx (b := b2) (off := o1) (len := q.wait.length) (cap := c1) (ik := .i64) 27 47 4 i (by omega) ?_
        refine runL_ldG 28 47 (cs := [Sr x1.name, Sr x1.value, U x1.n, U x1.tag]) 0 (.agg #[Sr x1.name, Sr x1.value, U x1.n, U x1.tag]) hc1 ?_
        refine runL_box 4 #[Sr ([]), Sr ([]), U 0, U 0] 47 (fun b3 => ?_)
        refine runL_bsn [3] [] [[Sg b3 0 [Sr x1.name, Sr x1.value, U x1.n, U x1.tag]], [Sg b1 0 [I q.most, Sl (At b2 o1) q.wait.length c1]]] ?_
        refine runL_nil ?_
        refine tq_then ?_
        refine tc_seq ?_
        refine tc_region ?_
        refine runL_bn [2] [(29, .agg #[Sr x1.name, Sr x1.value, U x1.n, U x1.tag])] ?_
        refine runL_callV 30 (I (queueRight x1)) (queueRight_con G [Sr x1.name, Sr x1.value, U x1.n, U x1.tag] x1 (⟨rfl, w2, w3, w4, w5⟩)) ?_
        refine runL_bn [0] [(5, I (queueRight x1))] ?_
        refine runL_nil ?_
        refine tq_then ?_
        refine tc_rbn [0,0] [(32, Bo (!decide (queueRight x1 = 0)))] ?_
        refine tc_condP (!decide (queueRight x1 = 0)) (fun h4 => ?_) (fun h4 => ?_)
        ·
          refine tc_rbn [0,0] [(2, I (queueRight x1))] ?_
          refine tc_ret ?_
          refine tq_block_ret ?_
          refine tq_then_ret ?_
          refine tq_rnd_ret ?_
          refine tq_block_ret ?_
          refine tq_then_ret ?_
          refine tq_ret [0] [I (queueRight x1)] (bp_ret (Mem.le_refl _) (congrArg I (?_ : (queueCheck q) = (queueRight x1)).symm))
          unfold queueCheck; first | (rw [if_pos (by omega)]; done) | (rw [if_neg (by omega), if_pos (by omega)]; done) | (rw [if_neg (by omega), if_neg (by omega), hn]; first | exact asksRight_at hx1 h4 | (rw [List.drop_eq_nil_of_le (by omega)]; rfl))
        ·
          refine tc_skip ?_
          refine tq_block ?_
          refine tq_then ?_
          refine tc_region ?_
          refine runL_bn [0,0] [(25, I (IntKind.i64.wrap (((i : Int)) + 1)))] ?_
          refine runL_wi64 25 (((i : Int)) + 1) (by omega) ?_
          refine runL_nil ?_
          refine tq_ownsA [[Sg b1 0 [I q.most, Sl (At b2 o1) q.wait.length c1]]] ?_
          exact tq_rnd (i + 1) ⟨(by omega), (by rw [hn]; exact asksRight_take hx1 h4)⟩ (by (try dsimp only); omega)
      ·
        refine tc_exit ?_
        refine tq_then_exit ?_
        refine tq_rnd_exit ?_
        refine tq_block_here ?_
        refine tq_then ?_
        refine tc_rbn [0] [(2, I 0)] ?_
        refine tc_ret ?_
        refine tq_ret [0] [I 0] (bp_ret (Mem.le_refl _) (congrArg I (?_ : (queueCheck q) = 0).symm))
        unfold queueCheck; first | (rw [if_pos (by omega)]; done) | (rw [if_neg (by omega), if_pos (by omega)]; done) | (rw [if_neg (by omega), if_neg (by omega), hn]; first | exact asksRight_at hx1 h4 | (rw [List.drop_eq_nil_of_le (by omega)]; rfl))

theorem queuePut_con (G : Mem) (vs_q : List Value) (q : QueueD) (h_q : EQueue.R G vs_q q) (vs_a : List Value) (a : AskD) (h_a : EAsk.R G vs_a a)  : ConP 22 #[.agg vs_q.toArray, .agg vs_a.toArray] G [] (fun u G' L' => ∃ (a1 : Option Addr) (c2 : Nat), u = .tuple #[.agg #[I (((queuePut q a).1).most), Sl a1 ((((queuePut q a).1).wait).length) c2], I ((queuePut q a).2.1), I ((queuePut q a).2.2)] ∧ (-9223372036854775808 ≤ (((queuePut q a).1).most) ∧ (((queuePut q a).1).most) < 9223372036854775808) ∧ (RS EAsk G' a1 c2 (((queuePut q a).1).wait)) ∧ L' = []) := by
  obtain ⟨a1, c1, rfl, w1, hs1⟩ := h_q
  obtain ⟨rfl, w2, w3, w4, w5⟩ := h_a
  refine con_of Tryz.func22 42 [(0, .agg #[I q.most, Sl a1 q.wait.length c1]), (1, .agg #[Sr a.name, Sr a.value, U a.n, U a.tag])] rfl (fun w0 G0 => ?_)
  refine tc_seq ?_
  refine tc_region ?_
  refine runL_box 2 #[I q.most, Sl a1 q.wait.length c1] 41 (fun b1 => ?_)
  refine runL_box 3 #[Sr a.name, Sr a.value, U a.n, U a.tag] 47 (fun b2 => ?_)
  refine runL_box 4 #[I 0, Sl none 0 0] 41 (fun b3 => ?_)
  refine runL_bn [0,0] [] ?_
  refine runL_nil ?_
  refine tq_then ?_
  refine tc_seq ?_
  refine tc_region ?_
  refine runL_bn [6] [(9, .agg #[I q.most, Sl a1 q.wait.length c1])] ?_
  refine runL_callV 10 (I (queueCheck q)) (queueCheck_con G [I q.most, Sl a1 q.wait.length c1] q (⟨a1, c1, rfl, w1, hs1⟩)) ?_
  refine runL_bn [0] [(7, I (queueCheck q))] ?_
  refine runL_nil ?_
  refine tq_then ?_
  refine tc_seq ?_
  refine tc_rbn [0,0] [(12, Bo (decide (queueCheck q = 0)))] ?_
  refine tc_condP (decide (queueCheck q = 0)) (fun h1 => ?_) (fun h1 => ?_)
  ·
    refine tc_region ?_
    refine runL_bn [4] [(13, .agg #[Sr a.name, Sr a.value, U a.n, U a.tag])] ?_
    refine runL_callV 14 (I (queueRight a)) (queueRight_con G [Sr a.name, Sr a.value, U a.n, U a.tag] a (⟨rfl, w2, w3, w4, w5⟩)) ?_
    refine runL_bn [0] [(7, I (queueRight a))] ?_
    refine runL_nil ?_
    refine tq_then ?_
    refine tc_seq ?_
    refine tc_seq ?_
    refine tc_region ?_
    refine runL_bn [0,0,0] [(17, Bo (decide (queueRight a = 0)))] ?_
    refine runL_b2n (decide (queueRight a = 0)) [17] [0,6,0,0,6,0,0] [1,1,1,1,1,1,0] (fun bb => [(24, Bo (bb && (decide (((q.wait.length : Nat) : Int) = q.most))))]) ?_
    refine runL_nil ?_
    refine tq_then ?_
    refine tc_condP ((decide (queueRight a = 0)) && (decide (((q.wait.length : Nat) : Int) = q.most))) (fun h2 => ?_) (fun h2 => ?_)
    ·
      refine tc_region ?_
      refine runL_bn [0] [(7, I 7)] ?_
      refine runL_nil ?_
      refine tq_then ?_
      refine tc_seq ?_
      refine tc_rbn [0,0] [(26, Bo true)] ?_
      refine tc_cond_true ?_
      refine tc_rbn [0,0,3,0,0] [(5, I 0), (6, I 7)] ?_
      refine tc_ret ?_
      refine tq_then_ret ?_
      have hf1 : queuePut q a = ((⟨0, []⟩ : QueueD), 0, 7) := by
        unfold queuePut queuePutE queueZ; simp_all; try omega
      refine tq_ret [0, 0, 0] [.agg #[I 0, Sl none 0 0], I 0, I 7] (bp_rowsA [] (Mem.le_refl _) ?_)
      rw [hf1]
      try dsimp only
      exact ⟨none, 0, rfl, (by first | assumption | omega | (simp; done) | (simp; omega)), (RS.nil' EAsk G), rfl⟩
    ·
      refine tc_skip ?_
      refine tq_then ?_
      refine tc_seq ?_
      refine tc_rbn [0,0] [(26, Bo (!decide (queueRight a = 0)))] ?_
      refine tc_condP (!decide (queueRight a = 0)) (fun h3 => ?_) (fun h3 => ?_)
      ·
        refine tc_rbn [0,0,3,0,0] [(5, I 0), (6, I (queueRight a))] ?_
        refine tc_ret ?_
        refine tq_then_ret ?_
        have hf2 : queuePut q a = ((⟨0, []⟩ : QueueD), 0, queueRight a) := by
          unfold queuePut queuePutE queueZ; simp_all; try omega
        refine tq_ret [0, 0, 0] [.agg #[I 0, Sl none 0 0], I 0, I (queueRight a)] (bp_rowsA [] (Mem.le_refl _) ?_)
        rw [hf2]
        try dsimp only
        exact ⟨none, 0, rfl, (by first | assumption | omega | (simp; done) | (simp; omega)), (RS.nil' EAsk G), rfl⟩
      ·
        refine tc_skip ?_
        refine tq_then ?_
        refine tc_rbn [0,6,0,0] [(8, I (((q.wait.length : Nat) : Int)))] ?_
        refine tc_seq ?_
        refine tc_draw [4, 6, 7, 10] ?_
        refine dr_V [(0, Pt b1 0), (1, I q.most), (2, Pt b1 1), (3, Sl a1 q.wait.length c1), (5, .agg #[Sr a.name, Sr a.value, U a.n, U a.tag]), (9, I (((q.wait.length : Nat) : Int)))] ?_
        refine dr_mid [] [(0,0), (1,6), (2,0), (3,6), (5,4), (9,0)] [] [4, 6] (List.forall_mem_nil _) (fmc ?_ (fmc ?_ fm0))
        ·
          refine act_of 4 [(35, Sl a1 q.wait.length c1)] (fun X => ?_)
          refine runL_callR 36 (sclone_EAsk G a1 c1 q.wait hs1) (fun v G1 L1 hl1 hp => ?_)
          obtain ⟨a2, c2, r1, rfl, hr1, rfl⟩ := hp
          refine act_endN [(4, Sl a2 q.wait.length c2)] ?_
          refine dr_mid [2, 3] [(0,0), (1,8), (5,6), (9,0)] [] [6] (List.forall_mem_nil _) (fmc ?_ fm0)
          refine act_of 6 [(37, .agg #[Sr a.name, Sr a.value, U a.n, U a.tag])] (fun X => ?_)
          refine runL_bsl 38 1 #[Sr a.name, Sr a.value, U a.n, U a.tag] 47 (fun b4 => ?_)
          refine act_endN [(6, Sl (At b4 0) 1 1)] ?_
          refine dr_mid [2, 3, 5] [(0,0), (1,10), (9,0)] [] [7] (List.forall_mem_nil _) (fmc ?_ fm0)
          refine act_of 7 [(36, Sl a2 q.wait.length c2), (38, Sl (At b4 0) 1 1)] (fun X => ?_)
          refine runL_app1' (b := b4) (cs := [Sr a.name, Sr a.value, U a.n, U a.tag]) 39 47 1 0 (E := EAsk) a hr1 ⟨rfl, w2, w3, w4, w5⟩ (by have hq_ := queueCheck_iff.1 (by assumption); (try simp only [EAsk, List.length_append, List.length_cons, List.length_nil]); omega) (by have hq_ := queueCheck_iff.1 (by assumption); (try simp only [EAsk, List.length_append, List.length_cons, List.length_nil]); omega) (fun a3 c3 r2 hr2 => ?_)
          refine act_endN [(7, Sl a3 ((q.wait ++ [a]).length) c3), (8, .agg #[I q.most, Sl a3 ((q.wait ++ [a]).length) c3])] ?_
          refine dr_mid [2, 3, 5] [(0,0), (1,10), (8,0), (9,0)] [] [10] (List.forall_mem_nil _) (fmc ?_ fm0)
          refine act_of 10 [(4, Pt b3 0), (40, .agg #[I q.most, Sl a3 ((q.wait ++ [a]).length) c3])] (fun X => ?_)
          refine runL_st 2 [[Sg b4 0 [Sr a.name, Sr a.value, U a.n, U a.tag]], r2, [Sg b3 0 [I q.most, Sl a3 ((q.wait ++ [a]).length) c3]], [Sg b2 0 [Sr a.name, Sr a.value, U a.n, U a.tag]], [Sg b1 0 [I q.most, Sl a1 q.wait.length c1]]] ?_
          refine act_endN0 [(11, I (((q.wait.length : Nat) : Int))), (12, I 0)] ?_
          refine dr_end [0, 1, 2, 3, 5, 8] [(9,0), (11,0), (12,0)] [] [(4, Pt b3 0), (5, I (((q.wait.length : Nat) : Int))), (6, I 0)] (List.forall_mem_nil _) ?_
          refine tq_then ?_
          refine tc_ret ?_
          refine tq_frzR (E := EAsk) 1 hr2 (by have hq_ := queueCheck_iff.1 (by assumption); (try simp only [EAsk, List.length_append, List.length_cons, List.length_nil]); omega) (fun G2 hl2 hs2 => ?_)
          have hf3 : queuePut q a = ((⟨q.most, q.wait ++ [a]⟩ : QueueD), ((q.wait.length : Nat) : Int), 0) := by
            unfold queuePut queuePutE queueZ; simp_all; try omega
          refine tq_ret [2, 0, 0] [.agg #[I q.most, Sl a3 ((q.wait ++ [a]).length) c3], I (((q.wait.length : Nat) : Int)), I 0] (bp_rowsA [] (Mem.le_trans hl1 hl2) ?_)
          rw [hf3]
          try dsimp only
          exact ⟨a3, c3, rfl, w1, hs2, rfl⟩
        refine act_of 6 [(37, .agg #[Sr a.name, Sr a.value, U a.n, U a.tag])] (fun X => ?_)
        refine runL_bsl 38 1 #[Sr a.name, Sr a.value, U a.n, U a.tag] 47 (fun b5 => ?_)
        refine act_endN [(6, Sl (At b5 0) 1 1)] ?_
        refine dr_mid [5] [(0,0), (1,8), (2,0), (3,8), (9,0)] [] [4] (List.forall_mem_nil _) (fmc ?_ fm0)
        refine act_of 4 [(35, Sl a1 q.wait.length c1)] (fun X => ?_)
        refine runL_callR 36 (sclone_EAsk G a1 c1 q.wait hs1) (fun v G3 L1 hl3 hp => ?_)
        obtain ⟨a4, c4, r3, rfl, hr3, rfl⟩ := hp
        refine act_endN [(4, Sl a4 q.wait.length c4)] ?_
        refine dr_mid [2, 3, 5] [(0,0), (1,10), (9,0)] [] [7] (List.forall_mem_nil _) (fmc ?_ fm0)
        refine act_of 7 [(36, Sl a4 q.wait.length c4), (38, Sl (At b5 0) 1 1)] (fun X => ?_)
        refine runL_app1' (b := b5) (cs := [Sr a.name, Sr a.value, U a.n, U a.tag]) 39 47 0 1 (E := EAsk) a hr3 ⟨rfl, w2, w3, w4, w5⟩ (by have hq_ := queueCheck_iff.1 (by assumption); (try simp only [EAsk, List.length_append, List.length_cons, List.length_nil]); omega) (by have hq_ := queueCheck_iff.1 (by assumption); (try simp only [EAsk, List.length_append, List.length_cons, List.length_nil]); omega) (fun a5 c5 r4 hr4 => ?_)
        refine act_endN [(7, Sl a5 ((q.wait ++ [a]).length) c5), (8, .agg #[I q.most, Sl a5 ((q.wait ++ [a]).length) c5])] ?_
        refine dr_mid [2, 3, 5] [(0,0), (1,10), (8,0), (9,0)] [] [10] (List.forall_mem_nil _) (fmc ?_ fm0)
        refine act_of 10 [(4, Pt b3 0), (40, .agg #[I q.most, Sl a5 ((q.wait ++ [a]).length) c5])] (fun X => ?_)
        refine runL_st 2 [r4, [Sg b5 0 [Sr a.name, Sr a.value, U a.n, U a.tag]], [Sg b3 0 [I q.most, Sl a5 ((q.wait ++ [a]).length) c5]], [Sg b2 0 [Sr a.name, Sr a.value, U a.n, U a.tag]], [Sg b1 0 [I q.most, Sl a1 q.wait.length c1]]] ?_
        refine act_endN0 [(11, I (((q.wait.length : Nat) : Int))), (12, I 0)] ?_
        refine dr_end [0, 1, 2, 3, 5, 8] [(9,0), (11,0), (12,0)] [] [(4, Pt b3 0), (5, I (((q.wait.length : Nat) : Int))), (6, I 0)] (List.forall_mem_nil _) ?_
        refine tq_then ?_
        refine tc_ret ?_
        refine tq_frzR (E := EAsk) 0 hr4 (by have hq_ := queueCheck_iff.1 (by assumption); (try simp only [EAsk, List.length_append, List.length_cons, List.length_nil]); omega) (fun G4 hl4 hs3 => ?_)
        have hf4 : queuePut q a = ((⟨q.most, q.wait ++ [a]⟩ : QueueD), ((q.wait.length : Nat) : Int), 0) := by
          unfold queuePut queuePutE queueZ; simp_all; try omega
        refine tq_ret [2, 0, 0] [.agg #[I q.most, Sl a5 ((q.wait ++ [a]).length) c5], I (((q.wait.length : Nat) : Int)), I 0] (bp_rowsA [] (Mem.le_trans hl3 hl4) ?_)
        rw [hf4]
        try dsimp only
        exact ⟨a5, c5, rfl, w1, hs3, rfl⟩
  ·
    refine tc_skip ?_
    refine tq_then ?_
    refine tc_seq ?_
    refine tc_seq ?_
    refine tc_region ?_
    refine runL_bn [0,0,0] [(17, Bo (decide (queueCheck q = 0)))] ?_
    refine runL_b2n (decide (queueCheck q = 0)) [17] [0,6,0,0,6,0,0] [1,1,1,1,1,1,0] (fun bb => [(24, Bo (bb && (decide (((q.wait.length : Nat) : Int) = q.most))))]) ?_
    refine runL_nil ?_
    refine tq_then ?_
    refine tc_condP ((decide (queueCheck q = 0)) && (decide (((q.wait.length : Nat) : Int) = q.most))) (fun h4 => ?_) (fun h4 => ?_)
    ·
      refine tc_region ?_
      refine runL_bn [0] [(7, I 7)] ?_
      refine runL_nil ?_
      refine tq_then ?_
      refine tc_seq ?_
      refine tc_rbn [0,0] [(26, Bo true)] ?_
      refine tc_cond_true ?_
      refine tc_rbn [0,0,3,0,0] [(5, I 0), (6, I 7)] ?_
      refine tc_ret ?_
      refine tq_then_ret ?_
      have hf5 : queuePut q a = ((⟨0, []⟩ : QueueD), 0, 7) := by
        unfold queuePut queuePutE queueZ; simp_all; try omega
      refine tq_ret [0, 0, 0] [.agg #[I 0, Sl none 0 0], I 0, I 7] (bp_rowsA [] (Mem.le_refl _) ?_)
      rw [hf5]
      try dsimp only
      exact ⟨none, 0, rfl, (by first | assumption | omega | (simp; done) | (simp; omega)), (RS.nil' EAsk G), rfl⟩
    ·
      refine tc_skip ?_
      refine tq_then ?_
      refine tc_seq ?_
      refine tc_rbn [0,0] [(26, Bo (!decide (queueCheck q = 0)))] ?_
      refine tc_condP (!decide (queueCheck q = 0)) (fun h5 => ?_) (fun h5 => ?_)
      ·
        refine tc_rbn [0,0,3,0,0] [(5, I 0), (6, I (queueCheck q))] ?_
        refine tc_ret ?_
        refine tq_then_ret ?_
        have hf6 : queuePut q a = ((⟨0, []⟩ : QueueD), 0, queueCheck q) := by
          unfold queuePut queuePutE queueZ; simp_all; try omega
        refine tq_ret [0, 0, 0] [.agg #[I 0, Sl none 0 0], I 0, I (queueCheck q)] (bp_rowsA [] (Mem.le_refl _) ?_)
        rw [hf6]
        try dsimp only
        exact ⟨none, 0, rfl, (by first | assumption | omega | (simp; done) | (simp; omega)), (RS.nil' EAsk G), rfl⟩
      ·
        refine tc_skip ?_
        refine tq_then ?_
        refine tc_rbn [0,6,0,0] [(8, I (((q.wait.length : Nat) : Int)))] ?_
        refine tc_seq ?_
        refine tc_draw [4, 6, 7, 10] ?_
        refine dr_V [(0, Pt b1 0), (1, I q.most), (2, Pt b1 1), (3, Sl a1 q.wait.length c1), (5, .agg #[Sr a.name, Sr a.value, U a.n, U a.tag]), (9, I (((q.wait.length : Nat) : Int)))] ?_
        refine dr_mid [] [(0,0), (1,6), (2,0), (3,6), (5,4), (9,0)] [] [4, 6] (List.forall_mem_nil _) (fmc ?_ (fmc ?_ fm0))
        ·
          refine act_of 4 [(35, Sl a1 q.wait.length c1)] (fun X => ?_)
          refine runL_callR 36 (sclone_EAsk G a1 c1 q.wait hs1) (fun v G5 L1 hl5 hp => ?_)
          obtain ⟨a6, c6, r5, rfl, hr5, rfl⟩ := hp
          refine act_endN [(4, Sl a6 q.wait.length c6)] ?_
          refine dr_mid [2, 3] [(0,0), (1,8), (5,6), (9,0)] [] [6] (List.forall_mem_nil _) (fmc ?_ fm0)
          refine act_of 6 [(37, .agg #[Sr a.name, Sr a.value, U a.n, U a.tag])] (fun X => ?_)
          refine runL_bsl 38 1 #[Sr a.name, Sr a.value, U a.n, U a.tag] 47 (fun b6 => ?_)
          refine act_endN [(6, Sl (At b6 0) 1 1)] ?_
          refine dr_mid [2, 3, 5] [(0,0), (1,10), (9,0)] [] [7] (List.forall_mem_nil _) (fmc ?_ fm0)
          refine act_of 7 [(36, Sl a6 q.wait.length c6), (38, Sl (At b6 0) 1 1)] (fun X => ?_)
          refine runL_app1' (b := b6) (cs := [Sr a.name, Sr a.value, U a.n, U a.tag]) 39 47 1 0 (E := EAsk) a hr5 ⟨rfl, w2, w3, w4, w5⟩ (by have hq_ := queueCheck_iff.1 (by assumption); (try simp only [EAsk, List.length_append, List.length_cons, List.length_nil]); omega) (by have hq_ := queueCheck_iff.1 (by assumption); (try simp only [EAsk, List.length_append, List.length_cons, List.length_nil]); omega) (fun a7 c7 r6 hr6 => ?_)
          refine act_endN [(7, Sl a7 ((q.wait ++ [a]).length) c7), (8, .agg #[I q.most, Sl a7 ((q.wait ++ [a]).length) c7])] ?_
          refine dr_mid [2, 3, 5] [(0,0), (1,10), (8,0), (9,0)] [] [10] (List.forall_mem_nil _) (fmc ?_ fm0)
          refine act_of 10 [(4, Pt b3 0), (40, .agg #[I q.most, Sl a7 ((q.wait ++ [a]).length) c7])] (fun X => ?_)
          refine runL_st 2 [[Sg b6 0 [Sr a.name, Sr a.value, U a.n, U a.tag]], r6, [Sg b3 0 [I q.most, Sl a7 ((q.wait ++ [a]).length) c7]], [Sg b2 0 [Sr a.name, Sr a.value, U a.n, U a.tag]], [Sg b1 0 [I q.most, Sl a1 q.wait.length c1]]] ?_
          refine act_endN0 [(11, I (((q.wait.length : Nat) : Int))), (12, I 0)] ?_
          refine dr_end [0, 1, 2, 3, 5, 8] [(9,0), (11,0), (12,0)] [] [(4, Pt b3 0), (5, I (((q.wait.length : Nat) : Int))), (6, I 0)] (List.forall_mem_nil _) ?_
          refine tq_then ?_
          refine tc_ret ?_
          refine tq_frzR (E := EAsk) 1 hr6 (by have hq_ := queueCheck_iff.1 (by assumption); (try simp only [EAsk, List.length_append, List.length_cons, List.length_nil]); omega) (fun G6 hl6 hs4 => ?_)
          have hf7 : queuePut q a = ((⟨q.most, q.wait ++ [a]⟩ : QueueD), ((q.wait.length : Nat) : Int), 0) := by
            unfold queuePut queuePutE queueZ; simp_all; try omega
          refine tq_ret [2, 0, 0] [.agg #[I q.most, Sl a7 ((q.wait ++ [a]).length) c7], I (((q.wait.length : Nat) : Int)), I 0] (bp_rowsA [] (Mem.le_trans hl5 hl6) ?_)
          rw [hf7]
          try dsimp only
          exact ⟨a7, c7, rfl, w1, hs4, rfl⟩
        refine act_of 6 [(37, .agg #[Sr a.name, Sr a.value, U a.n, U a.tag])] (fun X => ?_)
        refine runL_bsl 38 1 #[Sr a.name, Sr a.value, U a.n, U a.tag] 47 (fun b7 => ?_)
        refine act_endN [(6, Sl (At b7 0) 1 1)] ?_
        refine dr_mid [5] [(0,0), (1,8), (2,0), (3,8), (9,0)] [] [4] (List.forall_mem_nil _) (fmc ?_ fm0)
        refine act_of 4 [(35, Sl a1 q.wait.length c1)] (fun X => ?_)
        refine runL_callR 36 (sclone_EAsk G a1 c1 q.wait hs1) (fun v G7 L1 hl7 hp => ?_)
        obtain ⟨a8, c8, r7, rfl, hr7, rfl⟩ := hp
        refine act_endN [(4, Sl a8 q.wait.length c8)] ?_
        refine dr_mid [2, 3, 5] [(0,0), (1,10), (9,0)] [] [7] (List.forall_mem_nil _) (fmc ?_ fm0)
        refine act_of 7 [(36, Sl a8 q.wait.length c8), (38, Sl (At b7 0) 1 1)] (fun X => ?_)
        refine runL_app1' (b := b7) (cs := [Sr a.name, Sr a.value, U a.n, U a.tag]) 39 47 0 1 (E := EAsk) a hr7 ⟨rfl, w2, w3, w4, w5⟩ (by have hq_ := queueCheck_iff.1 (by assumption); (try simp only [EAsk, List.length_append, List.length_cons, List.length_nil]); omega) (by have hq_ := queueCheck_iff.1 (by assumption); (try simp only [EAsk, List.length_append, List.length_cons, List.length_nil]); omega) (fun a9 c9 r8 hr8 => ?_)
        refine act_endN [(7, Sl a9 ((q.wait ++ [a]).length) c9), (8, .agg #[I q.most, Sl a9 ((q.wait ++ [a]).length) c9])] ?_
        refine dr_mid [2, 3, 5] [(0,0), (1,10), (8,0), (9,0)] [] [10] (List.forall_mem_nil _) (fmc ?_ fm0)
        refine act_of 10 [(4, Pt b3 0), (40, .agg #[I q.most, Sl a9 ((q.wait ++ [a]).length) c9])] (fun X => ?_)
        refine runL_st 2 [r8, [Sg b7 0 [Sr a.name, Sr a.value, U a.n, U a.tag]], [Sg b3 0 [I q.most, Sl a9 ((q.wait ++ [a]).length) c9]], [Sg b2 0 [Sr a.name, Sr a.value, U a.n, U a.tag]], [Sg b1 0 [I q.most, Sl a1 q.wait.length c1]]] ?_
        refine act_endN0 [(11, I (((q.wait.length : Nat) : Int))), (12, I 0)] ?_
        refine dr_end [0, 1, 2, 3, 5, 8] [(9,0), (11,0), (12,0)] [] [(4, Pt b3 0), (5, I (((q.wait.length : Nat) : Int))), (6, I 0)] (List.forall_mem_nil _) ?_
        refine tq_then ?_
        refine tc_ret ?_
        refine tq_frzR (E := EAsk) 0 hr8 (by have hq_ := queueCheck_iff.1 (by assumption); (try simp only [EAsk, List.length_append, List.length_cons, List.length_nil]); omega) (fun G8 hl8 hs5 => ?_)
        have hf8 : queuePut q a = ((⟨q.most, q.wait ++ [a]⟩ : QueueD), ((q.wait.length : Nat) : Int), 0) := by
          unfold queuePut queuePutE queueZ; simp_all; try omega
        refine tq_ret [2, 0, 0] [.agg #[I q.most, Sl a9 ((q.wait ++ [a]).length) c9], I (((q.wait.length : Nat) : Int)), I 0] (bp_rowsA [] (Mem.le_trans hl7 hl8) ?_)
        rw [hf8]
        try dsimp only
        exact ⟨a9, c9, rfl, w1, hs5, rfl⟩

theorem queueTake_con (G : Mem) (vs_q : List Value) (q : QueueD) (h_q : EQueue.R G vs_q q) (n : Int)  : ConP 27 #[.agg vs_q.toArray, I n] G [] (fun u G' L' => ∃ (a1 : Option Addr) (c2 : Nat) (a3 : Option Addr) (c4 : Nat), u = .tuple #[.agg #[I (((queueTake q n).1).most), Sl a1 ((((queueTake q n).1).wait).length) c2], Sl a3 (((queueTake q n).2.1).length) c4, I ((queueTake q n).2.2)] ∧ (-9223372036854775808 ≤ (((queueTake q n).1).most) ∧ (((queueTake q n).1).most) < 9223372036854775808) ∧ (RS EAsk G' a1 c2 (((queueTake q n).1).wait)) ∧ (RS EAsk G' a3 c4 ((queueTake q n).2.1)) ∧ L' = []) := by
  obtain ⟨a1, c1, rfl, w1, hs1⟩ := h_q
  refine con_of Tryz.func27 35 [(0, .agg #[I q.most, Sl a1 q.wait.length c1]), (1, I n)] rfl (fun w0 G0 => ?_)
  refine tc_seq ?_
  refine tc_region ?_
  refine runL_box 2 #[I q.most, Sl a1 q.wait.length c1] 41 (fun b1 => ?_)
  refine runL_box 4 #[I 0, Sl none 0 0] 41 (fun b2 => ?_)
  refine runL_bn [0,0] [] ?_
  refine runL_nil ?_
  refine tq_then ?_
  refine tc_seq ?_
  refine tc_seq ?_
  refine tc_region ?_
  refine runL_bn [4] [(8, .agg #[I q.most, Sl a1 q.wait.length c1])] ?_
  refine runL_callV 9 (I (queueCheck q)) (queueCheck_con G [I q.most, Sl a1 q.wait.length c1] q (⟨a1, c1, rfl, w1, hs1⟩)) ?_
  refine runL_bn [0] [(7, I (queueCheck q))] ?_
  refine runL_nil ?_
  refine tq_then ?_
  refine tc_rbn [0,0] [(11, Bo (!decide (queueCheck q = 0)))] ?_
  refine tc_condP (!decide (queueCheck q = 0)) (fun h1 => ?_) (fun h1 => ?_)
  ·
    refine tc_rbn [0,0,3,0,0] [(5, Sl none 0 0), (6, I (queueCheck q))] ?_
    refine tc_ret ?_
    refine tq_then_ret ?_
    have hf1 : queueTake q n = ((⟨0, []⟩ : QueueD), [], queueCheck q) := by
      unfold queueTake queueZ; simp_all; try omega
    refine tq_ret [0, 0, 0] [.agg #[I 0, Sl none 0 0], Sl none 0 0, I (queueCheck q)] (bp_rowsA [] (Mem.le_refl _) ?_)
    rw [hf1]
    try dsimp only
    exact ⟨none, 0, none, 0, rfl, (by first | assumption | omega | (simp; done) | (simp; omega)), (RS.nil' EAsk G), (RS.nil' EAsk G), rfl⟩
  ·
    refine tc_skip ?_
    refine tq_then ?_
    refine tc_seq ?_
    refine tc_rbn [0,0] [(15, Bo (decide (n < 0)))] ?_
    refine tc_condP (decide (n < 0)) (fun h2 => ?_) (fun h2 => ?_)
    ·
      refine tc_rbn [0,3,0,0] [(5, Sl none 0 0), (6, I 4)] ?_
      refine tc_ret ?_
      refine tq_then_ret ?_
      have hf2 : queueTake q n = ((⟨0, []⟩ : QueueD), [], 4) := by
        unfold queueTake queueZ; simp_all; try omega
      refine tq_ret [0, 0, 0] [.agg #[I 0, Sl none 0 0], Sl none 0 0, I 4] (bp_rowsA [] (Mem.le_refl _) ?_)
      rw [hf2]
      try dsimp only
      exact ⟨none, 0, none, 0, rfl, (by first | assumption | omega | (simp; done) | (simp; omega)), (RS.nil' EAsk G), (RS.nil' EAsk G), rfl⟩
    ·
      refine tc_skip ?_
      refine tq_then ?_
      refine tc_rbn [0,0,4,0,0,0] [(1, I (if (((q.wait.length : Nat) : Int)) < n then (((q.wait.length : Nat) : Int)) else n))] ?_
      have e1 : (if (((q.wait.length : Nat) : Int)) < n then (((q.wait.length : Nat) : Int)) else n) = ((minLen n q.wait : Nat) : Int) := minLen_eq (by omega)
      refine tc_put 1 (I (((minLen n q.wait : Nat) : Int))) (congrArg I e1) ?_
      clear e1
      refine tc_seq ?_
      obtain ⟨a2, c2, ea1, ec1, en1, eh1, hs2⟩ := RS.reslXD hs1 (minLen n q.wait) (by have := @minLen_le n q.wait; omega)
      obtain ⟨a3, c3, ea2, ec2, en2, eh2, hs3⟩ := RS.reslXT hs1 (minLen n q.wait) (by have := @minLen_le n q.wait; omega)
      refine tc_draw [6, 12, 13] ?_
      refine dr_V [(0, Pt b1 0), (1, I q.most), (2, Pt b1 1), (3, Sl a1 q.wait.length c1), (4, I (((minLen n q.wait : Nat) : Int))), (5, Sl a2 ((q.wait.drop (minLen n q.wait)).length) c2), (8, Pt b1 1), (9, Sl a1 q.wait.length c1), (10, I (((minLen n q.wait : Nat) : Int))), (11, Sl a3 ((q.wait.take (minLen n q.wait)).length) c3)] ?_
      refine dr_mid [] [(0,0), (1,4), (2,0), (3,4), (4,0), (8,0), (9,4), (10,0)] [5, 11] [6] (fmc ?_ (fmc ?_ fm0)) (fmc ?_ fm0)
      · refine stab_of 5 27 (Sl a2 ((q.wait.drop (minLen n q.wait)).length) c2) [(25, Sl a1 q.wait.length c1), (26, I (((minLen n q.wait : Nat) : Int)))] (fun X => ?_)
        exact runL_reslE (a := a1) (len := q.wait.length) (cap := c1) 27 4 (some (I (((minLen n q.wait : Nat) : Int)))) none (minLen n q.wait) q.wait.length (.inr ⟨_, rfl⟩) (.inl ⟨rfl, rfl⟩) (by have := @minLen_le n q.wait; omega) ea1 ec1 en1 eh1 stab_end
      · refine stab_of 11 33 (Sl a3 ((q.wait.take (minLen n q.wait)).length) c3) [(31, Sl a1 q.wait.length c1), (32, I (((minLen n q.wait : Nat) : Int)))] (fun X => ?_)
        exact runL_reslE (a := a1) (len := q.wait.length) (cap := c1) 33 4 none (some (I (((minLen n q.wait : Nat) : Int)))) 0 (minLen n q.wait) (.inl ⟨rfl, rfl⟩) (.inr ⟨_, rfl⟩) (by exact Nat.zero_le _) ea2 ec2 en2 eh2 stab_end
      refine act_of 6 [(27, Sl a2 ((q.wait.drop (minLen n q.wait)).length) c2)] (fun X => ?_)
      refine runL_callR 28 (sclone_EAsk G a2 c2 (q.wait.drop (minLen n q.wait)) hs2) (fun v G1 L1 hl1 hp => ?_)
      obtain ⟨a4, c4, r1, rfl, hr1, rfl⟩ := hp
      refine act_endN [(6, Sl a4 ((q.wait.drop (minLen n q.wait)).length) c4), (7, .agg #[I q.most, Sl a4 ((q.wait.drop (minLen n q.wait)).length) c4])] ?_
      refine dr_mid [2, 3, 4, 5] [(0,0), (1,6), (7,0), (8,0), (9,6), (10,0)] [11] [12] (fmc ?_ fm0) (fmc ?_ fm0)
      · refine stab_of 11 33 (Sl a3 ((q.wait.take (minLen n q.wait)).length) c3) [(31, Sl a1 q.wait.length c1), (32, I (((minLen n q.wait : Nat) : Int)))] (fun X => ?_)
        exact runL_reslE (a := a1) (len := q.wait.length) (cap := c1) 33 4 none (some (I (((minLen n q.wait : Nat) : Int)))) 0 (minLen n q.wait) (.inl ⟨rfl, rfl⟩) (.inr ⟨_, rfl⟩) (by exact Nat.zero_le _) ea2 ec2 en2 eh2 stab_end
      refine act_of 12 [(33, Sl a3 ((q.wait.take (minLen n q.wait)).length) c3)] (fun X => ?_)
      refine runL_callR 34 (sclone_EAsk G1 a3 c3 (q.wait.take (minLen n q.wait)) (hs3.mono hl1)) (fun v G2 L1 hl2 hp => ?_)
      obtain ⟨a6, c6, r2, rfl, hr2, rfl⟩ := hp
      refine act_endN [(12, Sl a6 ((q.wait.take (minLen n q.wait)).length) c6)] ?_
      refine dr_mid [2, 3, 4, 5, 8, 9, 10, 11] [(0,0), (1,8), (7,0)] [] [13] (List.forall_mem_nil _) (fmc ?_ fm0)
      refine act_of 13 [(4, Pt b2 0), (29, .agg #[I q.most, Sl a4 ((q.wait.drop (minLen n q.wait)).length) c4])] (fun X => ?_)
      refine runL_st 2 [r2, r1, [Sg b2 0 [I q.most, Sl a4 ((q.wait.drop (minLen n q.wait)).length) c4]], [Sg b1 0 [I q.most, Sl a1 q.wait.length c1]]] ?_
      refine act_endN0 [(14, Sl a6 ((q.wait.take (minLen n q.wait)).length) c6), (15, I 0)] ?_
      refine dr_end [0, 1, 2, 3, 4, 5, 7, 8, 9, 10, 11] [(14,0), (15,0)] [] [(4, Pt b2 0), (5, Sl a6 ((q.wait.take (minLen n q.wait)).length) c6), (6, I 0)] (List.forall_mem_nil _) ?_
      refine tq_then ?_
      refine tc_ret ?_
      refine tq_frzR (E := EAsk) 1 (hr1.mono hl2) (by exact (hs2).fit) (fun G3 hl3 hs5 => ?_)
      refine tq_frzR (E := EAsk) 0 (hr2.mono hl3) (by exact ((hs3.mono hl1)).fit) (fun G4 hl4 hs6 => ?_)
      have hf3 : queueTake q n = ((⟨q.most, q.wait.drop (minLen n q.wait)⟩ : QueueD), q.wait.take (minLen n q.wait), 0) := by
        unfold queueTake queueZ; simp_all; try omega
      refine tq_ret [2, 0, 0] [.agg #[I q.most, Sl a4 ((q.wait.drop (minLen n q.wait)).length) c4], Sl a6 ((q.wait.take (minLen n q.wait)).length) c6, I 0] (bp_rowsA [] (Mem.le_trans (Mem.le_trans (Mem.le_trans hl1 hl2) hl3) hl4) ?_)
      rw [hf3]
      try dsimp only
      exact ⟨a4, c4, a6, c6, rfl, (by first | assumption | omega | (simp; done) | (simp; omega)), (hs5.mono hl4), hs6, rfl⟩

theorem queueWait_con (G : Mem) (a : Int) (b : Int) (e : Int)  : ConV 26 #[I a, I b, I e] G (.tuple #[I ((queueWait a b e).1), I ((queueWait a b e).2)]) := by
  refine con_of Tryz.func26 36 [(0, I a), (1, I b), (2, I e)] rfl (fun w0 G0 => ?_)
  refine tc_rbn [0,0] [] ?_
  refine tc_seq ?_
  refine tc_seq ?_
  refine tc_region ?_
  refine runL_bn [0,0,0] [(10, Bo (decide (a < 0)))] ?_
  refine runL_b2n (decide (a < 0)) [10] [1,1,0] [0,0,0] (fun bb => [(13, Bo (bb || (decide (a > 30))))]) ?_
  refine runL_bn [0] [(14, Bo ((decide (a < 0)) || (decide (a > 30))))] ?_
  refine runL_b2n ((decide (a < 0)) || (decide (a > 30))) [14] [1,1,0] [0,0,0] (fun bb => [(17, Bo (bb || (decide (b < 1))))]) ?_
  refine runL_bn [0] [(18, Bo (((decide (a < 0)) || (decide (a > 30))) || (decide (b < 1))))] ?_
  refine runL_b2n (((decide (a < 0)) || (decide (a > 30))) || (decide (b < 1))) [18] [1,1,0] [0,0,0] (fun bb => [(21, Bo (bb || (decide (b > 30))))]) ?_
  refine runL_bn [0] [(22, Bo ((((decide (a < 0)) || (decide (a > 30))) || (decide (b < 1))) || (decide (b > 30))))] ?_
  refine runL_b2n ((((decide (a < 0)) || (decide (a > 30))) || (decide (b < 1))) || (decide (b > 30))) [22] [1,1,0] [0,0,0] (fun bb => [(25, Bo (bb || (decide (e < 1))))]) ?_
  refine runL_bn [0] [(26, Bo (((((decide (a < 0)) || (decide (a > 30))) || (decide (b < 1))) || (decide (b > 30))) || (decide (e < 1))))] ?_
  refine runL_b2n (((((decide (a < 0)) || (decide (a > 30))) || (decide (b < 1))) || (decide (b > 30))) || (decide (e < 1))) [26] [1,1,0] [0,0,0] (fun bb => [(29, Bo (bb || (decide (e > 1000))))]) ?_
  refine runL_nil ?_
  refine tq_then ?_
  refine tc_condP ((((((decide (a < 0)) || (decide (a > 30))) || (decide (b < 1))) || (decide (b > 30))) || (decide (e < 1))) || (decide (e > 1000))) (fun h1 => ?_) (fun h1 => ?_)
  ·
    refine tc_rbn [0,0] [(6, I 0), (7, I 4)] ?_
    refine tc_ret ?_
    refine tq_then_ret ?_
    refine tq_ret [0, 0] [I 0, I 4] (bp_ret (Mem.le_refl _) ?_)
    have hf_ : (queueWait a b e) = (0, 4) := by
      unfold queueWait; first | (rw [if_pos (by omega)]; done) | (rw [if_neg (by omega)]; done)
    (try rw [hf_]); first | with_reducible rfl | (simp only [packR]; done) | rfl
  ·
    refine tc_skip ?_
    refine tq_then ?_
    refine tc_seq ?_
    refine tc_region ?_
    refine runL_bn [0,0] [(30, I a), (31, I b)] ?_
    refine runL_div (k := .i64) (x := a) (y := b) 32 true ((a).tdiv b) (by first | omega | (have := qdiv_bd (a := a) (b := b) (by omega) (by omega); first | omega | (have := qmul_bd (a := a.tdiv b + 1) (b := e) (by omega) (by omega); omega))) (by simp only [cond_true]; exact IntWalk.i64_in _ (by first | omega | (have := qdiv_bd (a := a) (b := b) (by omega) (by omega); first | omega | (have := qmul_bd (a := a.tdiv b + 1) (b := e) (by omega) (by omega); omega)))) ?_
    refine runL_bn [0,0,0,0,0] [(6, I (IntKind.i64.wrap ((IntKind.i64.wrap (((a).tdiv b) + 1)) * e))), (7, I 0)] ?_
    have e1 : IntKind.i64.wrap (((a).tdiv b) + 1) = ((a).tdiv b) + 1 := IntWalk.i64_in _ (by first | omega | (have := qdiv_bd (a := a) (b := b) (by omega) (by omega); first | omega | (have := qmul_bd (a := a.tdiv b + 1) (b := e) (by omega) (by omega); omega)))
    have e2 : IntKind.i64.wrap ((((a).tdiv b) + 1) * e) = (((a).tdiv b) + 1) * e := IntWalk.i64_in _ (by first | omega | (have := qdiv_bd (a := a) (b := b) (by omega) (by omega); first | omega | (have := qmul_bd (a := a.tdiv b + 1) (b := e) (by omega) (by omega); omega)))
    refine runL_put 6 (I ((((a).tdiv b) + 1) * e)) ((show (I (IntKind.i64.wrap ((IntKind.i64.wrap (((a).tdiv b) + 1)) * e)) : Value) = I ((((a).tdiv b) + 1) * e) by simp only [e1, e2])) ?_
    clear e2 e1
    refine runL_nil ?_
    refine tq_then ?_
    refine tc_ret ?_
    refine tq_ret [0, 0] [I ((((a).tdiv b) + 1) * e), I 0] (bp_ret (Mem.le_refl _) ?_)
    have hf_ : (queueWait a b e) = (((((a).tdiv b) + 1) * e), 0) := by
      unfold queueWait; first | (rw [if_pos (by omega)]; done) | (rw [if_neg (by omega)]; done)
    (try rw [hf_]); first | with_reducible rfl | (simp only [packR]; done) | rfl
end Go.Proofs.YtpofnmobbbcpgaaGreatDoor
