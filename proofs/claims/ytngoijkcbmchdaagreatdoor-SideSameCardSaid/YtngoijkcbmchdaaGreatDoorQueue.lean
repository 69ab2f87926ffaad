import Derived.Test.YtngoijkcbmchdaaGreatDoorStr
import Derived.Test.YtngoijkcbmchdaaGreatDoorSl
namespace Go.Proofs.YtngoijkcbmchdaaGreatDoor
open Go.Tx
set_option linter.unusedVariables false
set_option linter.unusedSimpArgs false

def askRight (name value : List UInt8) : Int := if pathName name = false then 3 else if 20 < value.length then 2 else 0
def queueRight (a : AskD) : Int := askRight a.name a.value
theorem qdiv_bd {a b : Int} (h : 0 ≤ a ∧ a ≤ 30) (hb : 1 ≤ b ∧ b ≤ 30) : 0 ≤ a.tdiv b ∧ a.tdiv b ≤ 30 := by
  rw [Int.tdiv_eq_ediv_of_nonneg h.1]
  exact ⟨Int.ediv_nonneg h.1 (by omega), Int.le_trans (Int.ediv_le_self _ h.1) h.2⟩
theorem qmul_bd {a b : Int} (h : 0 ≤ a ∧ a ≤ 31) (hb : 1 ≤ b ∧ b ≤ 1000) : 0 ≤ a * b ∧ a * b ≤ 31000 := by
  refine ⟨Int.mul_nonneg h.1 (by omega), ?_⟩
  have h1 : a * b ≤ 31 * b := Int.mul_le_mul_of_nonneg_right h.2 (by omega)
  omega
def asksRight : List AskD → Int
  | [] => 0
  | a :: l => if queueRight a = 0 then asksRight l else queueRight a
def queueCheck (q : QueueD) : Int := if q.most < 1 ∨ 30 < q.most then 4 else if q.most < q.wait.length then 7 else asksRight q.wait
def queueZ : QueueD := ⟨0, []⟩
def queuePutE (q : QueueD) (a : AskD) : Int := if queueCheck q ≠ 0 then queueCheck q else if queueRight a ≠ 0 then queueRight a else if (q.wait.length : Int) = q.most then 7 else 0
def queuePut (q : QueueD) (a : AskD) : QueueD × Int × Int := if queuePutE q a ≠ 0 then (queueZ, 0, queuePutE q a) else (⟨q.most, q.wait ++ [a]⟩, q.wait.length, 0)
def minLen (n : Int) (l : List AskD) : Nat := if (l.length : Int) < n then l.length else n.toNat
def queueTake (q : QueueD) (n : Int) : QueueD × List AskD × Int := if queueCheck q ≠ 0 then (queueZ, [], queueCheck q) else if n < 0 then (queueZ, [], 4) else (⟨q.most, q.wait.drop (minLen n q.wait)⟩, q.wait.take (minLen n q.wait), 0)
def queueWait (ahead batch every : Int) : Int × Int := if ahead < 0 ∨ 30 < ahead ∨ batch < 1 ∨ 30 < batch ∨ every < 1 ∨ 1000 < every then (0, 4) else ((ahead.tdiv batch + 1) * every, 0)
theorem asksRight_take {l : List AskD} {i : Nat} {x : AskD} (h : l[i]? = some x) (h0 : queueRight x = 0) : asksRight (l.drop i) = asksRight (l.drop (i + 1)) := by
  obtain ⟨hi, rfl⟩ := List.getElem?_eq_some_iff.1 h
  rw [List.drop_eq_getElem_cons hi]
  show (if queueRight l[i] = 0 then _ else _) = _
  rw [if_pos h0]
theorem asksRight_at {l : List AskD} {i : Nat} {x : AskD} (h : l[i]? = some x) (h0 : ¬ queueRight x = 0) : asksRight (l.drop i) = queueRight x := by
  obtain ⟨hi, rfl⟩ := List.getElem?_eq_some_iff.1 h
  rw [List.drop_eq_getElem_cons hi]
  show (if queueRight l[i] = 0 then _ else _) = _
  rw [if_neg h0]
theorem asksRight_iff : ∀ {l : List AskD}, asksRight l = 0 ↔ ∀ a ∈ l, queueRight a = 0
  | [] => by simp [asksRight]
  | a :: l => by
    unfold asksRight
    split
    · rename_i h; simp [asksRight_iff (l := l), h]
    · rename_i h; simp [h]
theorem queueCheck_iff {q : QueueD} : queueCheck q = 0 ↔ 1 ≤ q.most ∧ q.most ≤ 30 ∧ (q.wait.length : Int) ≤ q.most ∧ ∀ a ∈ q.wait, queueRight a = 0 := by
  unfold queueCheck
  rw [← asksRight_iff]
  (repeat' split) <;> omega
theorem queuePut_ok {q : QueueD} {a : AskD} (h : (queuePut q a).2.2 = 0) : queueCheck q = 0 ∧ queueRight a = 0 ∧ (q.wait.length : Int) < q.most ∧ queuePut q a = ((⟨q.most, q.wait ++ [a]⟩ : QueueD), (q.wait.length : Int), (0 : Int)) := by
  unfold queuePut at h ⊢
  split at h
  · contradiction
  · rename_i h1
    rw [if_neg h1]
    unfold queuePutE at h1
    have := @queueCheck_iff q
    by_cases e1 : queueCheck q = 0
    · rw [if_neg (by omega)] at h1
      by_cases e2 : queueRight a = 0
      · rw [if_neg (by omega)] at h1
        by_cases e3 : (q.wait.length : Int) = q.most
        · rw [if_pos e3] at h1; omega
        · exact ⟨e1, e2, by have := this.1 e1; omega, rfl⟩
      · rw [if_pos e2] at h1; omega
    · rw [if_pos e1] at h1; omega
theorem queuePut_check {q : QueueD} {a : AskD} (h : (queuePut q a).2.2 = 0) : queueCheck (queuePut q a).1 = 0 := by
  obtain ⟨h1, h2, h3, h4⟩ := queuePut_ok h
  rw [h4]
  rw [queueCheck_iff] at h1 ⊢
  refine ⟨h1.1, h1.2.1, by simp; omega, fun b hb => ?_⟩
  rcases List.mem_append.1 hb with hb | hb
  · exact h1.2.2.2 b hb
  · rw [List.mem_singleton.1 hb]; exact h2
theorem queueTake_ok {q : QueueD} {n : Int} (h : (queueTake q n).2.2 = 0) : queueCheck q = 0 ∧ 0 ≤ n ∧ queueTake q n = ((⟨q.most, q.wait.drop (minLen n q.wait)⟩ : QueueD), q.wait.take (minLen n q.wait), (0 : Int)) := by
  unfold queueTake at h ⊢
  split at h
  · contradiction
  split at h
  · cases h
  · rename_i h1 h2
    rw [if_neg h1, if_neg h2]
    exact ⟨by omega, by omega, rfl⟩
theorem queueTake_check {q : QueueD} {n : Int} (h : (queueTake q n).2.2 = 0) : queueCheck (queueTake q n).1 = 0 := by
  obtain ⟨h1, h2, h3⟩ := queueTake_ok h
  rw [h3]
  rw [queueCheck_iff] at h1 ⊢
  exact ⟨h1.1, h1.2.1, by simp; omega, fun b hb => h1.2.2.2 b (List.mem_of_mem_drop hb)⟩
theorem minLen_eq {n : Int} {l : List AskD} (h : 0 ≤ n) : (if (((l.length : Nat) : Int)) < n then (((l.length : Nat) : Int)) else n) = ((minLen n l : Nat) : Int) := by unfold minLen; split <;> omega
theorem minLen_le {n : Int} {l : List AskD} : minLen n l ≤ l.length := by unfold minLen; split <;> omega
theorem queueWait_ok {a b e : Int} (h : (queueWait a b e).2 = 0) : 0 ≤ a ∧ a ≤ 30 ∧ 1 ≤ b ∧ b ≤ 30 ∧ 1 ≤ e ∧ e ≤ 1000 ∧ queueWait a b e = ((a / b + 1) * e, 0) := by
  unfold queueWait at h ⊢
  split at h
  · cases h
  · rename_i h1
    rw [if_neg h1, Int.tdiv_eq_ediv_of_nonneg (by omega)]
    exact ⟨by omega, by omega, by omega, by omega, by omega, by omega, rfl⟩
theorem queueWait_err {a b e : Int} (h : ¬ (queueWait a b e).2 = 0) : (queueWait a b e).1 = 0 := by
  revert h; unfold queueWait; split <;> simp
theorem qw_mono {a m b g e : Int} (h1 : (queueWait a b e).2 = 0) (h2 : (queueWait m b e).2 = 0) (h3 : (queueWait a g e).2 = 0) (ham : a ≤ m) (hbg : b ≤ g) :
    e ≤ (queueWait a b e).1 ∧ (queueWait a b e).1 ≤ (queueWait m b e).1 ∧ (queueWait a g e).1 ≤ (queueWait a b e).1 := by
  obtain ⟨a0, _, b0, _, e0, _, q1⟩ := queueWait_ok h1
  obtain ⟨m0, _, _, _, _, _, q2⟩ := queueWait_ok h2
  obtain ⟨_, _, g0, _, _, _, q3⟩ := queueWait_ok h3
  rw [q1, q2, q3]
  simp only
  have d0 : 0 ≤ a / b := Int.ediv_nonneg a0 (by omega)
  have d1 : a / b ≤ m / b := Int.ediv_le_ediv (by omega) ham
  have d2 : a / g ≤ a / b := by
    rw [Int.le_ediv_iff_mul_le (by omega)]
    have h0 : 0 ≤ a / g := Int.ediv_nonneg a0 (by omega)
    have h4 : a / g * b ≤ a / g * g := Int.mul_le_mul_of_nonneg_left hbg h0
    have h5 : a / g * g ≤ a := Int.ediv_mul_le a (by omega)
    omega
  have d3 : 0 ≤ a / g := Int.ediv_nonneg a0 (by omega)
  have m1 : 1 * e ≤ (a / b + 1) * e := Int.mul_le_mul_of_nonneg_right (by omega) (by omega)
  have m2 : (a / b + 1) * e ≤ (m / b + 1) * e := Int.mul_le_mul_of_nonneg_right (by omega) (by omega)
  have m3 : (a / g + 1) * e ≤ (a / b + 1) * e := Int.mul_le_mul_of_nonneg_right (by omega) (by omega)
  omega
structure OrdInv (most : Int) (k : Nat) (q : QueueD) (xi xo : List AskD) : Prop where
  k100 : k ≤ 100
  ok : queueCheck q = 0
  mo : q.most = most
  eq : xi = xo ++ q.wait
  li : xi.length ≤ k
theorem OrdInv.olen {most : Int} {k : Nat} {q : QueueD} {xi xo : List AskD} (h : OrdInv most k q xi xo) : xo.length + q.wait.length = xi.length ∧ xi.length ≤ 100 ∧ xi.length ≤ k := by
  have := congrArg List.length h.eq
  have := h.li; have := h.k100
  simp at *; omega
theorem ord_start {most : Int} (h : queueCheck ⟨most, []⟩ = 0) : OrdInv most 0 ⟨most, []⟩ [] [] := ⟨by omega, h, rfl, rfl, by simp⟩
theorem ord_0 {most : Int} {k : Nat} {q : QueueD} {xi xo : List AskD} (h : OrdInv most k q xi xo) (hk : k < 100) : OrdInv most (k + 1) q xi xo := ⟨by omega, h.ok, h.mo, h.eq, by have := h.li; omega⟩
theorem ord_p {most : Int} {k : Nat} {q : QueueD} {xi xo : List AskD} (h : OrdInv most k q xi xo) (hk : k < 100) {a : AskD} (hp : (queuePut q a).2.2 = 0) : OrdInv most (k + 1) (queuePut q a).1 (xi ++ [a]) xo := by
  obtain ⟨h1, h2, h3, h4⟩ := queuePut_ok hp
  have := queuePut_check hp
  rw [h4] at this ⊢
  exact ⟨by omega, this, h.mo, by rw [h.eq]; simp, by have := h.li; simp; omega⟩
theorem ord_t {most : Int} {k : Nat} {q : QueueD} {xi xo : List AskD} (h : OrdInv most k q xi xo) {n : Int} (hp : (queueTake q n).2.2 = 0) : OrdInv most k (queueTake q n).1 xi (xo ++ (queueTake q n).2.1) := by
  obtain ⟨h1, h2, h3⟩ := queueTake_ok hp
  have := queueTake_check hp
  rw [h3] at this ⊢
  exact ⟨h.k100, this, h.mo, by rw [h.eq]; simp, h.li⟩
theorem ord_end {most : Int} {k : Nat} {q : QueueD} {xi xo : List AskD} (h : OrdInv most k q xi xo) : xi = lconcat [xo, q.wait] ∧ (q.wait.length : Int) ≤ most ∧ queueCheck q = 0 := by
  have := (queueCheck_iff.1 h.ok).2.2.1
  refine ⟨by rw [h.eq]; simp [lconcat], by rw [← h.mo]; exact this, h.ok⟩


end Go.Proofs.YtngoijkcbmchdaaGreatDoor
