import Derived.Test.YtgcnkcajfjpbcaaSlices
namespace Go.Proofs.Ytgcnkcajfjpbcaa
open Go.Tx
set_option linter.unusedVariables false
set_option linter.unusedSimpArgs false

structure PollD where
  least : Int
  most : Int
  lost : Int
  gap : Int
  next : Int
  asked : Int
def PollOk (p : PollD) : Prop := 1 ≤ p.least ∧ p.least ≤ p.most ∧ p.most ≤ 1000 ∧ 1 ≤ p.lost ∧ p.lost ≤ 100 ∧ p.least ≤ p.gap ∧ p.gap ≤ p.most ∧ 0 ≤ p.next ∧ p.next ≤ 1000000000 ∧ 0 ≤ p.asked ∧ p.asked ≤ 1000000
instance (p : PollD) : Decidable (PollOk p) := inferInstanceAs (Decidable (_ ∧ _))
def pollCheck (p : PollD) : Int := if PollOk p then 0 else 4
theorem pollCheck_iff (p : PollD) : pollCheck p = 0 ↔ PollOk p := by unfold pollCheck; split <;> simp_all
theorem pollCheck_or (p : PollD) : pollCheck p = 0 ∨ pollCheck p = 4 := by unfold pollCheck; split <;> simp
theorem pollCheck_of {p : PollD} (h : PollOk p) : pollCheck p = 0 := if_pos h
theorem pollCheck_off {p : PollD} (h : ¬ PollOk p) : pollCheck p = 4 := if_neg h
def pollCheckAt (p : PollD) (now : Int) : Int := if pollCheck p = 0 ∧ (now < 0 ∨ 1000000000 < now) then 4 else pollCheck p
theorem pollAt_iff (p : PollD) (now : Int) : pollCheckAt p now = 0 ↔ (PollOk p ∧ 0 ≤ now ∧ now ≤ 1000000000) := by
  rw [← pollCheck_iff]; unfold pollCheckAt; have := pollCheck_or p; split <;> omega
theorem pollAt_b {p : PollD} {now : Int} (h : pollCheckAt p now = 0) : 1 ≤ p.least ∧ p.least ≤ p.most ∧ p.most ≤ 1000 ∧ 1 ≤ p.lost ∧ p.lost ≤ 100 ∧ p.least ≤ p.gap ∧ p.gap ≤ p.most ∧ 0 ≤ p.next ∧ p.next ≤ 1000000000 ∧ 0 ≤ p.asked ∧ p.asked ≤ 1000000 ∧ 0 ≤ now ∧ now ≤ 1000000000 := by
  have := (pollAt_iff p now).1 h; unfold PollOk at this; omega
def pollLater (now n : Int) : Int := if 1000000000 < now + n then 1000000000 else now + n
abbrev pollV (p : PollD) : Value := .agg #[I p.least, I p.most, I p.lost, I p.gap, I p.next, I p.asked]
def pollZ : PollD := ⟨0, 0, 0, 0, 0, 0⟩
def pollSent (p : PollD) (now : Int) : PollD × Int :=
  if pollCheckAt p now ≠ 0 then (pollZ, pollCheckAt p now) else if now < p.next then (pollZ, 9) else if p.asked = 1000000 then (pollZ, 7) else
  (⟨p.least, p.most, p.lost, if p.most < 2 * p.gap then p.most else 2 * p.gap, pollLater now p.gap, p.asked + 1⟩, 0)
def pollNew (least top lost : Int) : PollD × Int := if PollOk ⟨least, top, lost, least, 0, 0⟩ then (⟨least, top, lost, least, 0, 0⟩, 0) else (pollZ, 4)
def pollHeard (p : PollD) (now : Int) : PollD × Int :=
  if pollCheckAt p now ≠ 0 then (pollZ, pollCheckAt p now) else
  (⟨p.least, p.most, p.lost, p.least, if pollLater now p.least < p.next then pollLater now p.least else p.next, 0⟩, 0)
theorem pollSent_ok {p : PollD} {now : Int} (h : (pollSent p now).2 = 0) :
    1 ≤ p.least ∧ p.least ≤ p.most ∧ p.most ≤ 1000 ∧ 1 ≤ p.lost ∧ p.lost ≤ 100 ∧ p.least ≤ p.gap ∧ p.gap ≤ p.most ∧ 0 ≤ p.next ∧ p.next ≤ 1000000000 ∧ 0 ≤ p.asked ∧ p.asked < 1000000 ∧ 0 ≤ now ∧ now ≤ 1000000000 ∧ p.next ≤ now ∧
    pollCheck (pollSent p now).1 = 0 ∧ (pollSent p now).1.least = p.least ∧ (pollSent p now).1.most = p.most ∧ (pollSent p now).1.lost = p.lost ∧ (pollSent p now).1.asked = p.asked + 1 ∧
    (p.most < 2 * p.gap ∧ (pollSent p now).1.gap = p.most ∨ 2 * p.gap ≤ p.most ∧ (pollSent p now).1.gap = 2 * p.gap) ∧
    (1000000000 < now + p.gap ∧ (pollSent p now).1.next = 1000000000 ∨ now + p.gap ≤ 1000000000 ∧ (pollSent p now).1.next = now + p.gap) := by
  unfold pollSent at h ⊢
  split at h
  · contradiction
  split at h
  · cases h
  split at h
  · cases h
  rename_i h1 h2 h3
  have hb := pollAt_b (p := p) (now := now) (by omega)
  rw [if_neg h1, if_neg h2, if_neg h3]
  dsimp only
  refine ⟨by omega, by omega, by omega, by omega, by omega, by omega, by omega, by omega, by omega, by omega, by omega, by omega, by omega, by omega, pollCheck_of ?_, rfl, rfl, rfl, rfl, ?_, ?_⟩
  · unfold PollOk pollLater; simp only; (repeat' split) <;> omega
  · split <;> omega
  · unfold pollLater; split <;> omega
theorem pollSent_err {p : PollD} {now : Int} (h : (pollSent p now).2 ≠ 0) : (pollSent p now).1 = pollZ := by
  revert h; unfold pollSent; (repeat' split) <;> simp
theorem pollHeard_ok {p : PollD} {now : Int} (h : (pollHeard p now).2 = 0) : pollCheckAt p now = 0 ∧ pollHeard p now = (⟨p.least, p.most, p.lost, p.least, if pollLater now p.least < p.next then pollLater now p.least else p.next, 0⟩, 0) := by
  revert h; unfold pollHeard; split
  · intro h; exact absurd h ‹_›
  · intro _; exact ⟨by omega, rfl⟩
theorem pollNew_ok {a b c : Int} (h : (pollNew a b c).2 = 0) : PollOk ⟨a, b, c, a, 0, 0⟩ ∧ pollNew a b c = (⟨a, b, c, a, 0, 0⟩, 0) := by
  revert h; unfold pollNew; split
  · rename_i h1; intro _; exact ⟨h1, rfl⟩
  · simp
theorem pollNew_err {a b c : Int} (h : (pollNew a b c).2 ≠ 0) : (pollNew a b c).1 = pollZ := by
  revert h; unfold pollNew; split <;> simp
def pollGone (p : PollD) : Bool := decide (pollCheck p = 0) && decide (p.asked ≥ p.lost)
theorem pollGone_iff (p : PollD) : pollGone p = true ↔ pollCheck p = 0 ∧ p.lost ≤ p.asked := by simp [pollGone]
theorem pollGone_iff' (p : PollD) : pollGone p = false ↔ ¬ (pollCheck p = 0 ∧ p.lost ≤ p.asked) := by rw [← pollGone_iff]; simp
theorem pollSent_go {p : PollD} {t : Int} (h : pollCheck p = 0) (h1 : p.asked < 1000000) (h2 : p.next ≤ t) (h3 : t ≤ 1000000000) : (pollSent p t).2 = 0 := by
  have ho := (pollCheck_iff p).1 h
  have hc : pollCheckAt p t = 0 := (pollAt_iff p t).2 ⟨ho, by unfold PollOk at ho; omega, h3⟩
  unfold pollSent
  rw [if_neg (by simp [hc]), if_neg (by omega), if_neg (by omega)]
structure GoneInv (least lost now : Int) (k : Nat) (p : PollD) : Prop where
  hk : (k : Int) ≤ lost
  ok : pollCheck p = 0
  hleast : p.least = least
  hlost : p.lost = lost
  hasked : p.asked = k
  hnext : p.next ≤ 1000000 + 1000 * k
theorem gone_start {a b c now : Int} (h : (pollNew a b c).2 = 0) (h0 : 0 ≤ now) (h1 : now ≤ 1000000) : GoneInv a c now 0 (pollHeard (pollNew a b c).1 now).1 := by
  obtain ⟨ho, e⟩ := pollNew_ok h
  have hc : pollCheckAt (pollNew a b c).1 now = 0 := (pollAt_iff _ _).2 (by rw [e]; exact ⟨ho, h0, by omega⟩)
  unfold PollOk at ho; dsimp only at ho
  unfold pollHeard
  rw [if_neg (by simp [hc]), e]
  have hl : (0 : Int) ≤ pollLater now a := by unfold pollLater; split <;> omega
  refine ⟨by simp; omega, pollCheck_of ?_, rfl, rfl, rfl, ?_⟩
  · unfold PollOk; dsimp only; rw [if_neg (by omega)]; omega
  · dsimp only; rw [if_neg (by omega)]; simp
theorem gone_next {least lost now t : Int} {k : Nat} {p : PollD} (h : GoneInv least lost now k p) (hk : (k : Int) < lost) (ht : p.next ≤ t) (ht1 : now ≤ 1000000) (ht2 : t = now ∨ t = p.next) :
    (pollSent p t).2 = 0 ∧ GoneInv least lost now (k + 1) (pollSent p t).1 := by
  obtain ⟨h1, h2, h3, h4, h5, h6⟩ := h
  have ho := (pollCheck_iff p).1 h2
  unfold PollOk at ho
  have hz := pollSent_go h2 (by omega) ht (by omega)
  have := pollSent_ok hz
  exact ⟨hz, ⟨by omega, by omega, by omega, by omega, by omega, by omega⟩⟩
theorem gone_end {least lost now : Int} {k : Nat} {p : PollD} (h : GoneInv least lost now k p) (hk : lost ≤ (k : Int)) :
    pollGone p = true ∧ (pollHeard p p.next).2 = 0 ∧ pollCheck (pollHeard p p.next).1 = 0 ∧ pollGone (pollHeard p p.next).1 = false ∧ (pollHeard p p.next).1.gap = least := by
  obtain ⟨h1, h2, h3, h4, h5, h6⟩ := h
  have ho := (pollCheck_iff p).1 h2
  have hc : pollCheckAt p p.next = 0 := (pollAt_iff p _).2 ⟨ho, by unfold PollOk at ho; omega, by unfold PollOk at ho; omega⟩
  have e : pollHeard p p.next = (⟨p.least, p.most, p.lost, p.least, if pollLater p.next p.least < p.next then pollLater p.next p.least else p.next, 0⟩, 0) := by
    unfold pollHeard; rw [if_neg (by simp [hc])]
  have hq : pollCheck (pollHeard p p.next).1 = 0 := by
    rw [e]; refine pollCheck_of ?_
    unfold PollOk at ho ⊢; dsimp only
    have : (if pollLater p.next p.least < p.next then pollLater p.next p.least else p.next) = p.next := by
      rw [if_neg]; unfold pollLater; split <;> omega
    rw [this]; omega
  refine ⟨(pollGone_iff p).2 ⟨h2, by omega⟩, by rw [e], hq, ?_, by rw [e]; exact h3⟩
  rw [pollGone_iff']
  unfold PollOk at ho
  rw [e]; dsimp only; omega

theorem pollCheck_con (p : PollD) (G : Mem) : Con Try.prog 19 #[.agg #[I p.least, I p.most, I p.lost, I p.gap, I p.next, I p.asked]] G [] (fun u G' L' => u = I (pollCheck p)) := by
  refine con_of Try.func19 62 [(0, .agg #[I p.least, I p.most, I p.lost, I p.gap, I p.next, I p.asked])] rfl (fun w0 G0 => ?_)
  refine tc_seq ?_
  refine tc_region ?_
  refine runL_box 1 #[I p.least, I p.most, I p.lost, I p.gap, I p.next, I p.asked] 23 (fun b1 => ?_)
  refine runL_b [0] [(1, Pt b1 0), (2, I 0)] ?_
  refine runL_nil ?_
  refine tq_then ?_
  refine tc_seq ?_
  refine tc_seq ?_
  refine tc_region ?_
  refine runL_b [0,2,0,0] [(1, Pt b1 0), (2, I 0), (6, Bo (decide (p.least < 1)))] ?_
  refine runL_b2 (decide (p.least < 1)) (fun bb => [(1, Pt b1 0), (2, I 0), (6, Bo bb)]) [1,1,1,1,1,0] [0,2,0,2,0,0] (fun bb => [(1, Pt b1 0), (2, I 0), (12, Bo (bb || (decide (p.least > p.most))))]) ?_
  refine runL_b [0] [(1, Pt b1 0), (2, I 0), (13, Bo ((decide (p.least < 1)) || (decide (p.least > p.most))))] ?_
  refine runL_b2 ((decide (p.least < 1)) || (decide (p.least > p.most))) (fun bb => [(1, Pt b1 0), (2, I 0), (13, Bo bb)]) [1,1,1,0] [0,2,0,0] (fun bb => [(1, Pt b1 0), (2, I 0), (17, Bo (bb || (decide (p.most > 1000))))]) ?_
  refine runL_b [0] [(1, Pt b1 0), (2, I 0), (18, Bo (((decide (p.least < 1)) || (decide (p.least > p.most))) || (decide (p.most > 1000))))] ?_
  refine runL_b2 (((decide (p.least < 1)) || (decide (p.least > p.most))) || (decide (p.most > 1000))) (fun bb => [(1, Pt b1 0), (2, I 0), (18, Bo bb)]) [1,1,1,0] [0,2,0,0] (fun bb => [(1, Pt b1 0), (2, I 0), (22, Bo (bb || (decide (p.lost < 1))))]) ?_
  refine runL_b [0] [(1, Pt b1 0), (2, I 0), (23, Bo ((((decide (p.least < 1)) || (decide (p.least > p.most))) || (decide (p.most > 1000))) || (decide (p.lost < 1))))] ?_
  refine runL_b2 ((((decide (p.least < 1)) || (decide (p.least > p.most))) || (decide (p.most > 1000))) || (decide (p.lost < 1))) (fun bb => [(1, Pt b1 0), (2, I 0), (23, Bo bb)]) [1,1,1,0] [0,2,0,0] (fun bb => [(1, Pt b1 0), (2, I 0), (27, Bo (bb || (decide (p.lost > 100))))]) ?_
  refine runL_b [0] [(1, Pt b1 0), (2, I 0), (28, Bo (((((decide (p.least < 1)) || (decide (p.least > p.most))) || (decide (p.most > 1000))) || (decide (p.lost < 1))) || (decide (p.lost > 100))))] ?_
  refine runL_b2 (((((decide (p.least < 1)) || (decide (p.least > p.most))) || (decide (p.most > 1000))) || (decide (p.lost < 1))) || (decide (p.lost > 100))) (fun bb => [(1, Pt b1 0), (2, I 0), (28, Bo bb)]) [1,1,1,1,1,0] [0,2,0,2,0,0] (fun bb => [(1, Pt b1 0), (2, I 0), (34, Bo (bb || (decide (p.gap < p.least))))]) ?_
  refine runL_b [0] [(1, Pt b1 0), (2, I 0), (35, Bo ((((((decide (p.least < 1)) || (decide (p.least > p.most))) || (decide (p.most > 1000))) || (decide (p.lost < 1))) || (decide (p.lost > 100))) || (decide (p.gap < p.least))))] ?_
  refine runL_b2 ((((((decide (p.least < 1)) || (decide (p.least > p.most))) || (decide (p.most > 1000))) || (decide (p.lost < 1))) || (decide (p.lost > 100))) || (decide (p.gap < p.least))) (fun bb => [(1, Pt b1 0), (2, I 0), (35, Bo bb)]) [1,1,1,1,1,0] [0,2,0,2,0,0] (fun bb => [(1, Pt b1 0), (2, I 0), (41, Bo (bb || (decide (p.gap > p.most))))]) ?_
  refine runL_b [0] [(1, Pt b1 0), (2, I 0), (42, Bo (((((((decide (p.least < 1)) || (decide (p.least > p.most))) || (decide (p.most > 1000))) || (decide (p.lost < 1))) || (decide (p.lost > 100))) || (decide (p.gap < p.least))) || (decide (p.gap > p.most))))] ?_
  refine runL_b2 (((((((decide (p.least < 1)) || (decide (p.least > p.most))) || (decide (p.most > 1000))) || (decide (p.lost < 1))) || (decide (p.lost > 100))) || (decide (p.gap < p.least))) || (decide (p.gap > p.most))) (fun bb => [(1, Pt b1 0), (2, I 0), (42, Bo bb)]) [1,1,1,0] [0,2,0,0] (fun bb => [(1, Pt b1 0), (2, I 0), (46, Bo (bb || (decide (p.next < 0))))]) ?_
  refine runL_b [0] [(1, Pt b1 0), (2, I 0), (47, Bo ((((((((decide (p.least < 1)) || (decide (p.least > p.most))) || (decide (p.most > 1000))) || (decide (p.lost < 1))) || (decide (p.lost > 100))) || (decide (p.gap < p.least))) || (decide (p.gap > p.most))) || (decide (p.next < 0))))] ?_
  refine runL_b2 ((((((((decide (p.least < 1)) || (decide (p.least > p.most))) || (decide (p.most > 1000))) || (decide (p.lost < 1))) || (decide (p.lost > 100))) || (decide (p.gap < p.least))) || (decide (p.gap > p.most))) || (decide (p.next < 0))) (fun bb => [(1, Pt b1 0), (2, I 0), (47, Bo bb)]) [1,1,1,0] [0,2,0,0] (fun bb => [(1, Pt b1 0), (2, I 0), (51, Bo (bb || (decide (p.next > 1000000000))))]) ?_
  refine runL_b [0] [(1, Pt b1 0), (2, I 0), (52, Bo (((((((((decide (p.least < 1)) || (decide (p.least > p.most))) || (decide (p.most > 1000))) || (decide (p.lost < 1))) || (decide (p.lost > 100))) || (decide (p.gap < p.least))) || (decide (p.gap > p.most))) || (decide (p.next < 0))) || (decide (p.next > 1000000000))))] ?_
  refine runL_b2 (((((((((decide (p.least < 1)) || (decide (p.least > p.most))) || (decide (p.most > 1000))) || (decide (p.lost < 1))) || (decide (p.lost > 100))) || (decide (p.gap < p.least))) || (decide (p.gap > p.most))) || (decide (p.next < 0))) || (decide (p.next > 1000000000))) (fun bb => [(1, Pt b1 0), (2, I 0), (52, Bo bb)]) [1,1,1,0] [0,2,0,0] (fun bb => [(1, Pt b1 0), (2, I 0), (56, Bo (bb || (decide (p.asked < 0))))]) ?_
  refine runL_b [0] [(1, Pt b1 0), (2, I 0), (57, Bo ((((((((((decide (p.least < 1)) || (decide (p.least > p.most))) || (decide (p.most > 1000))) || (decide (p.lost < 1))) || (decide (p.lost > 100))) || (decide (p.gap < p.least))) || (decide (p.gap > p.most))) || (decide (p.next < 0))) || (decide (p.next > 1000000000))) || (decide (p.asked < 0))))] ?_
  refine runL_b2 ((((((((((decide (p.least < 1)) || (decide (p.least > p.most))) || (decide (p.most > 1000))) || (decide (p.lost < 1))) || (decide (p.lost > 100))) || (decide (p.gap < p.least))) || (decide (p.gap > p.most))) || (decide (p.next < 0))) || (decide (p.next > 1000000000))) || (decide (p.asked < 0))) (fun bb => [(1, Pt b1 0), (2, I 0), (57, Bo bb)]) [1,1,1,0] [0,2,0,0] (fun bb => [(2, I 0), (61, Bo (bb || (decide (p.asked > 1000000))))]) ?_
  refine runL_nil ?_
  refine tq_then ?_
  refine tc_cond (((((((((((decide (p.least < 1)) || (decide (p.least > p.most))) || (decide (p.most > 1000))) || (decide (p.lost < 1))) || (decide (p.lost > 100))) || (decide (p.gap < p.least))) || (decide (p.gap > p.most))) || (decide (p.next < 0))) || (decide (p.next > 1000000000))) || (decide (p.asked < 0))) || (decide (p.asked > 1000000))) (fun h1 => ?_) (fun h1 => ?_)
  ·
    try simp only [decide_eq_true_eq, decide_eq_false_iff_not, Bool.and_eq_true, Bool.or_eq_true, Bool.and_eq_false_imp, Bool.or_eq_false_iff, Bool.not_eq_true', Bool.not_eq_false', Bool.not_eq_true, Bool.not_eq_false, beq_iff_eq, beq_eq_false_iff_ne, bne_iff_ne, ne_eq, Decidable.not_not, Int.not_lt, Int.not_le] at h1
    refine tc_rb [0] [(2, I 4), (61, Bo (((((((((((decide (p.least < 1)) || (decide (p.least > p.most))) || (decide (p.most > 1000))) || (decide (p.lost < 1))) || (decide (p.lost > 100))) || (decide (p.gap < p.least))) || (decide (p.gap > p.most))) || (decide (p.next < 0))) || (decide (p.next > 1000000000))) || (decide (p.asked < 0))) || (decide (p.asked > 1000000))))] ?_
    refine tc_ret ?_
    refine tq_then_ret ?_
    refine tq_ret [0] [I 4] (bp_ret (Mem.le_refl _) ?_)
    first | exact congrArg I (pollCheck_of (by unfold PollOk; omega)).symm | exact congrArg I (pollCheck_off (by unfold PollOk; omega)).symm
  ·
    try simp only [decide_eq_true_eq, decide_eq_false_iff_not, Bool.and_eq_true, Bool.or_eq_true, Bool.and_eq_false_imp, Bool.or_eq_false_iff, Bool.not_eq_true', Bool.not_eq_false', Bool.not_eq_true, Bool.not_eq_false, beq_iff_eq, beq_eq_false_iff_ne, bne_iff_ne, ne_eq, Decidable.not_not, Int.not_lt, Int.not_le] at h1
    refine tc_skip ?_
    refine tq_then ?_
    refine tc_rb [0] [(2, I 0), (61, Bo (((((((((((decide (p.least < 1)) || (decide (p.least > p.most))) || (decide (p.most > 1000))) || (decide (p.lost < 1))) || (decide (p.lost > 100))) || (decide (p.gap < p.least))) || (decide (p.gap > p.most))) || (decide (p.next < 0))) || (decide (p.next > 1000000000))) || (decide (p.asked < 0))) || (decide (p.asked > 1000000))))] ?_
    refine tc_ret ?_
    refine tq_ret [0] [I 0] (bp_ret (Mem.le_refl _) ?_)
    first | exact congrArg I (pollCheck_of (by unfold PollOk; omega)).symm | exact congrArg I (pollCheck_off (by unfold PollOk; omega)).symm

theorem pollCheckAt_con (p : PollD) (now : Int) (G : Mem) : Con Try.prog 63 #[.agg #[I p.least, I p.most, I p.lost, I p.gap, I p.next, I p.asked], I now] G [] (fun u G' L' => u = I (pollCheckAt p now)) := by
  refine con_of Try.func63 19 [(0, .agg #[I p.least, I p.most, I p.lost, I p.gap, I p.next, I p.asked]), (1, I now)] rfl (fun w0 G0 => ?_)
  refine tc_seq ?_
  refine tc_region ?_
  refine runL_box 2 #[I p.least, I p.most, I p.lost, I p.gap, I p.next, I p.asked] 23 (fun b1 => ?_)
  refine runL_b [0] [(1, I now), (2, Pt b1 0), (4, I 0)] ?_
  refine runL_nil ?_
  refine tq_then ?_
  refine tc_seq ?_
  refine tc_region ?_
  refine runL_b [2] [(1, I now), (4, I 0), (6, .agg #[I p.least, I p.most, I p.lost, I p.gap, I p.next, I p.asked])] ?_
  refine runL_callV 7 (I (pollCheck p)) (pollCheck_con p G) ?_
  refine runL_b [0] [(1, I now), (4, I 0), (5, I (pollCheck p))] ?_
  refine runL_nil ?_
  refine tq_then ?_
  refine tc_seq ?_
  refine tc_seq ?_
  refine tc_region ?_
  refine runL_b [0,0,0] [(1, I now), (4, I 0), (5, I (pollCheck p)), (10, Bo (decide (pollCheck p = 0)))] ?_
  refine runL_cases (fun bb => [(1, I now), (4, I 0), (5, I (pollCheck p)), (10, Bo bb)]) (decide (pollCheck p = 0)) (fun h1 => ?_) (fun h1 => ?_)
  ·
    try simp only [decide_eq_true_eq, decide_eq_false_iff_not, Bool.and_eq_true, Bool.or_eq_true, Bool.and_eq_false_imp, Bool.or_eq_false_iff, Bool.not_eq_true', Bool.not_eq_false', Bool.not_eq_true, Bool.not_eq_false, beq_iff_eq, beq_eq_false_iff_ne, bne_iff_ne, ne_eq, Decidable.not_not, Int.not_lt, Int.not_le] at h1
    refine runL_b [0,0,0] [(1, I now), (4, I 0), (5, I (pollCheck p)), (10, Bo true), (13, Bo (decide (now < 0)))] ?_
    refine runL_b2 (decide (now < 0)) (fun bb => [(1, I now), (4, I 0), (5, I (pollCheck p)), (10, Bo true), (13, Bo bb)]) [1,1,0] [0,0,0] (fun bb => [(4, I 0), (5, I (pollCheck p)), (10, Bo true), (16, Bo (bb || (decide (now > 1000000000))))]) ?_
    refine runL_b [0] [(4, I 0), (5, I (pollCheck p)), (17, Bo ((decide (now < 0)) || (decide (now > 1000000000))))] ?_
    refine runL_nil ?_
    refine tq_then ?_
    refine tc_cond ((decide (now < 0)) || (decide (now > 1000000000))) (fun h2 => ?_) (fun h2 => ?_)
    ·
      try simp only [decide_eq_true_eq, decide_eq_false_iff_not, Bool.and_eq_true, Bool.or_eq_true, Bool.and_eq_false_imp, Bool.or_eq_false_iff, Bool.not_eq_true', Bool.not_eq_false', Bool.not_eq_true, Bool.not_eq_false, beq_iff_eq, beq_eq_false_iff_ne, bne_iff_ne, ne_eq, Decidable.not_not, Int.not_lt, Int.not_le] at h2
      refine tc_region ?_
      refine runL_b [0] [(4, I 0), (5, I 4), (17, Bo ((decide (now < 0)) || (decide (now > 1000000000))))] ?_
      refine runL_nil ?_
      refine tq_then ?_
      refine tc_rb [0,0] [(4, I 4), (5, I 4), (17, Bo ((decide (now < 0)) || (decide (now > 1000000000))))] ?_
      refine tc_ret ?_
      refine tq_ret [0] [I 4] (bp_ret (Mem.le_refl _) ?_)
      refine congrArg I ?_; unfold pollCheckAt; split <;> omega
    ·
      try simp only [decide_eq_true_eq, decide_eq_false_iff_not, Bool.and_eq_true, Bool.or_eq_true, Bool.and_eq_false_imp, Bool.or_eq_false_iff, Bool.not_eq_true', Bool.not_eq_false', Bool.not_eq_true, Bool.not_eq_false, beq_iff_eq, beq_eq_false_iff_ne, bne_iff_ne, ne_eq, Decidable.not_not, Int.not_lt, Int.not_le] at h2
      refine tc_skip ?_
      refine tq_then ?_
      refine tc_rb [0,0] [(4, I (pollCheck p)), (5, I (pollCheck p)), (17, Bo ((decide (now < 0)) || (decide (now > 1000000000))))] ?_
      refine tc_ret ?_
      refine tq_ret [0] [I (pollCheck p)] (bp_ret (Mem.le_refl _) ?_)
      refine congrArg I ?_; unfold pollCheckAt; split <;> omega
  ·
    try simp only [decide_eq_true_eq, decide_eq_false_iff_not, Bool.and_eq_true, Bool.or_eq_true, Bool.and_eq_false_imp, Bool.or_eq_false_iff, Bool.not_eq_true', Bool.not_eq_false', Bool.not_eq_true, Bool.not_eq_false, beq_iff_eq, beq_eq_false_iff_ne, bne_iff_ne, ne_eq, Decidable.not_not, Int.not_lt, Int.not_le] at h1
    refine runL_b [1,1,1,1,1,1,0] [(4, I 0), (5, I (pollCheck p)), (17, Bo false)] ?_
    refine runL_nil ?_
    refine tq_then ?_
    refine tc_cond_false ?_
    refine tc_skip ?_
    refine tq_then ?_
    refine tc_rb [0,0] [(4, I (pollCheck p)), (5, I (pollCheck p)), (17, Bo false)] ?_
    refine tc_ret ?_
    refine tq_ret [0] [I (pollCheck p)] (bp_ret (Mem.le_refl _) ?_)
    refine congrArg I ?_; unfold pollCheckAt; split <;> omega

theorem pollDue_con (p : PollD) (now : Int) (G : Mem) : Con Try.prog 61 #[.agg #[I p.least, I p.most, I p.lost, I p.gap, I p.next, I p.asked], I now] G [] (fun u G' L' => u = .tuple #[Bo (decide (pollCheckAt p now = 0) && decide (now ≥ p.next)), I (pollCheckAt p now)]) := by
  refine con_of Try.func61 19 [(0, .agg #[I p.least, I p.most, I p.lost, I p.gap, I p.next, I p.asked]), (1, I now)] rfl (fun w0 G0 => ?_)
  refine tc_seq ?_
  refine tc_region ?_
  refine runL_box 2 #[I p.least, I p.most, I p.lost, I p.gap, I p.next, I p.asked] 23 (fun b1 => ?_)
  refine runL_b [0,0] [(1, I now), (2, Pt b1 0), (4, Bo false), (5, I 0)] ?_
  refine runL_nil ?_
  refine tq_then ?_
  refine tc_seq ?_
  refine tc_region ?_
  refine runL_b [2,0] [(1, I now), (2, Pt b1 0), (4, Bo false), (5, I 0), (7, .agg #[I p.least, I p.most, I p.lost, I p.gap, I p.next, I p.asked]), (8, I now)] ?_
  refine runL_callV 9 (I (pollCheckAt p now)) (pollCheckAt_con p now G) ?_
  refine runL_b [0] [(1, I now), (2, Pt b1 0), (4, Bo false), (5, I 0), (6, I (pollCheckAt p now))] ?_
  refine runL_nil ?_
  refine tq_then ?_
  refine tc_seq ?_
  refine tc_region ?_
  refine runL_b [0,0,0] [(1, I now), (2, Pt b1 0), (4, Bo false), (5, I 0), (6, I (pollCheckAt p now)), (12, Bo (decide (pollCheckAt p now = 0)))] ?_
  refine runL_b2 (decide (pollCheckAt p now = 0)) (fun bb => [(1, I now), (2, Pt b1 0), (4, Bo false), (5, I 0), (6, I (pollCheckAt p now)), (12, Bo bb)]) [0,0,2,0,0] [1,1,1,1,0] (fun bb => [(1, I now), (2, Pt b1 0), (4, Bo false), (5, I 0), (6, I (pollCheckAt p now)), (17, Bo (bb && (decide (now ≥ p.next))))]) ?_
  refine runL_b [0,0,0] [(1, I now), (2, Pt b1 0), (4, Bo ((decide (pollCheckAt p now = 0)) && (decide (now ≥ p.next)))), (5, I (pollCheckAt p now))] ?_
  refine runL_nil ?_
  refine tq_then ?_
  refine tc_ret ?_
  refine tq_ret [0, 0] [Bo ((decide (pollCheckAt p now = 0)) && (decide (now ≥ p.next))), I (pollCheckAt p now)] (bp_ret (Mem.le_refl _) ?_)
  rfl

theorem pollLater_con (now n : Int) (hn : -9000000000000000000 ≤ now + n ∧ now + n ≤ 9000000000000000000) (G : Mem) : Con Try.prog 62 #[I now, I n] G [] (fun u G' L' => u = I (pollLater now n)) := by
  refine con_of Try.func62 9 [(0, I now), (1, I n)] rfl (fun w0 G0 => ?_)
  refine tc_rb [0] [(0, I now), (1, I n), (4, I 0)] ?_
  refine tc_rb [0,0,0,0,0] [(4, I (if 1000000000 < (IntKind.i64.wrap (now + n)) then 1000000000 else (IntKind.i64.wrap (now + n))))] ?_
  have e1 : IntKind.i64.wrap (now + n) = now + n := IntWalk.i64_in _ (by omega)
  refine tc_eq (fr' := [(4, I (if 1000000000 < (now + n) then 1000000000 else (now + n)))]) (L' := []) (by simp only [e1]) (by rfl) ?_
  clear e1
  refine tc_ret ?_
  refine tq_ret [0] [I (if 1000000000 < (now + n) then 1000000000 else (now + n))] (bp_ret (Mem.le_refl _) ?_)
  rfl

theorem pollSent_con (p : PollD) (now : Int) (G : Mem) : Con Try.prog 18 #[.agg #[I p.least, I p.most, I p.lost, I p.gap, I p.next, I p.asked], I now] G [] (fun u G' L' => u = .tuple #[.agg #[I (((pollSent p now).1).least), I (((pollSent p now).1).most), I (((pollSent p now).1).lost), I (((pollSent p now).1).gap), I (((pollSent p now).1).next), I (((pollSent p now).1).asked)], I ((pollSent p now).2)]) := by
  refine con_of Try.func18 45 [(0, .agg #[I p.least, I p.most, I p.lost, I p.gap, I p.next, I p.asked]), (1, I now)] rfl (fun w0 G0 => ?_)
  refine tc_seq ?_
  refine tc_region ?_
  refine runL_box 2 #[I p.least, I p.most, I p.lost, I p.gap, I p.next, I p.asked] 23 (fun b1 => ?_)
  refine runL_box 4 #[I 0, I 0, I 0, I 0, I 0, I 0] 23 (fun b2 => ?_)
  refine runL_b [0] [(1, I now), (2, Pt b1 0), (4, Pt b2 0), (5, I 0)] ?_
  refine runL_nil ?_
  refine tq_then ?_
  refine tc_seq ?_
  refine tc_region ?_
  refine runL_b [4,0] [(1, I now), (2, Pt b1 0), (4, Pt b2 0), (5, I 0), (9, .agg #[I p.least, I p.most, I p.lost, I p.gap, I p.next, I p.asked]), (10, I now)] ?_
  refine runL_callV 11 (.tuple #[Bo (decide (pollCheckAt p now = 0) && decide (now ≥ p.next)), I (pollCheckAt p now)]) (pollDue_con p now G) ?_
  refine runL_b [0,0,0,0,0] [(1, I now), (2, Pt b1 0), (4, Pt b2 0), (5, I 0), (6, Bo (decide (pollCheckAt p now = 0) && decide (now ≥ p.next))), (7, I (pollCheckAt p now))] ?_
  refine runL_nil ?_
  refine tq_then ?_
  refine tc_seq ?_
  refine tc_block ?_
  refine tc_rb [0,0,0] [(1, I now), (2, Pt b1 0), (4, Pt b2 0), (5, I 0), (6, Bo (decide (pollCheckAt p now = 0) && decide (now ≥ p.next))), (7, I (pollCheckAt p now)), (14, Bo (!decide (pollCheckAt p now = 0)))] ?_
  refine tc_cond (!decide (pollCheckAt p now = 0)) (fun h1 => ?_) (fun h1 => ?_)
  ·
    try simp only [decide_eq_true_eq, decide_eq_false_iff_not, Bool.and_eq_true, Bool.or_eq_true, Bool.and_eq_false_imp, Bool.or_eq_false_iff, Bool.not_eq_true', Bool.not_eq_false', Bool.not_eq_true, Bool.not_eq_false, beq_iff_eq, beq_eq_false_iff_ne, bne_iff_ne, ne_eq, Decidable.not_not, Int.not_lt, Int.not_le] at h1
    refine tc_rb [0,0,3,0] [(1, I now), (2, Pt b1 0), (4, Pt b2 0), (5, I (pollCheckAt p now)), (6, Bo (decide (pollCheckAt p now = 0) && decide (now ≥ p.next))), (7, I (pollCheckAt p now)), (14, Bo (!decide (pollCheckAt p now = 0)))] ?_
    refine tc_ret ?_
    refine tq_block_ret ?_
    refine tq_then_ret ?_
    refine tq_ret [0, 0] [.agg #[I 0, I 0, I 0, I 0, I 0, I 0], I (pollCheckAt p now)] (bp_ret (Mem.le_refl _) ?_)
    unfold pollSent; (repeat' split) <;> first | rfl | (exfalso; omega) | (exfalso; simp_all; omega)
  ·
    try simp only [decide_eq_true_eq, decide_eq_false_iff_not, Bool.and_eq_true, Bool.or_eq_true, Bool.and_eq_false_imp, Bool.or_eq_false_iff, Bool.not_eq_true', Bool.not_eq_false', Bool.not_eq_true, Bool.not_eq_false, beq_iff_eq, beq_eq_false_iff_ne, bne_iff_ne, ne_eq, Decidable.not_not, Int.not_lt, Int.not_le] at h1
    refine tc_rb [0,0,0] [(1, I now), (2, Pt b1 0), (4, Pt b2 0), (5, I 0), (7, I (pollCheckAt p now)), (14, Bo (!decide (pollCheckAt p now = 0))), (19, Bo (!(decide (pollCheckAt p now = 0) && decide (now ≥ p.next))))] ?_
    refine tc_cond (!(decide (pollCheckAt p now = 0) && decide (now ≥ p.next))) (fun h2 => ?_) (fun h2 => ?_)
    ·
      try simp only [decide_eq_true_eq, decide_eq_false_iff_not, Bool.and_eq_true, Bool.or_eq_true, Bool.and_eq_false_imp, Bool.or_eq_false_iff, Bool.not_eq_true', Bool.not_eq_false', Bool.not_eq_true, Bool.not_eq_false, beq_iff_eq, beq_eq_false_iff_ne, bne_iff_ne, ne_eq, Decidable.not_not, Int.not_lt, Int.not_le] at h2
      refine tc_rb [0,3,0] [(1, I now), (2, Pt b1 0), (4, Pt b2 0), (5, I 9), (7, I (pollCheckAt p now)), (14, Bo (!decide (pollCheckAt p now = 0))), (19, Bo (!(decide (pollCheckAt p now = 0) && decide (now ≥ p.next))))] ?_
      refine tc_ret ?_
      refine tq_block_ret ?_
      refine tq_then_ret ?_
      refine tq_ret [0, 0] [.agg #[I 0, I 0, I 0, I 0, I 0, I 0], I 9] (bp_ret (Mem.le_refl _) ?_)
      unfold pollSent; (repeat' split) <;> first | rfl | (exfalso; omega) | (exfalso; simp_all; omega)
    ·
      try simp only [decide_eq_true_eq, decide_eq_false_iff_not, Bool.and_eq_true, Bool.or_eq_true, Bool.and_eq_false_imp, Bool.or_eq_false_iff, Bool.not_eq_true', Bool.not_eq_false', Bool.not_eq_true, Bool.not_eq_false, beq_iff_eq, beq_eq_false_iff_ne, bne_iff_ne, ne_eq, Decidable.not_not, Int.not_lt, Int.not_le] at h2
      refine tc_rb [0,4,0,0] [(1, I now), (2, Pt b1 0), (4, Pt b2 0), (5, I 0), (7, I (pollCheckAt p now)), (14, Bo (!decide (pollCheckAt p now = 0))), (19, Bo (!(decide (pollCheckAt p now = 0) && decide (now ≥ p.next)))), (23, Bo (decide (p.asked = 1000000)))] ?_
      refine tc_cond (decide (p.asked = 1000000)) (fun h3 => ?_) (fun h3 => ?_)
      ·
        try simp only [decide_eq_true_eq, decide_eq_false_iff_not, Bool.and_eq_true, Bool.or_eq_true, Bool.and_eq_false_imp, Bool.or_eq_false_iff, Bool.not_eq_true', Bool.not_eq_false', Bool.not_eq_true, Bool.not_eq_false, beq_iff_eq, beq_eq_false_iff_ne, bne_iff_ne, ne_eq, Decidable.not_not, Int.not_lt, Int.not_le] at h3
        refine tc_rb [0,3,0] [(1, I now), (2, Pt b1 0), (4, Pt b2 0), (5, I 7), (7, I (pollCheckAt p now)), (14, Bo (!decide (pollCheckAt p now = 0))), (19, Bo (!(decide (pollCheckAt p now = 0) && decide (now ≥ p.next)))), (23, Bo (decide (p.asked = 1000000)))] ?_
        refine tc_ret ?_
        refine tq_block_ret ?_
        refine tq_then_ret ?_
        refine tq_ret [0, 0] [.agg #[I 0, I 0, I 0, I 0, I 0, I 0], I 7] (bp_ret (Mem.le_refl _) ?_)
        unfold pollSent; (repeat' split) <;> first | rfl | (exfalso; omega) | (exfalso; simp_all; omega)
      ·
        try simp only [decide_eq_true_eq, decide_eq_false_iff_not, Bool.and_eq_true, Bool.or_eq_true, Bool.and_eq_false_imp, Bool.or_eq_false_iff, Bool.not_eq_true', Bool.not_eq_false', Bool.not_eq_true, Bool.not_eq_false, beq_iff_eq, beq_eq_false_iff_ne, bne_iff_ne, ne_eq, Decidable.not_not, Int.not_lt, Int.not_le] at h3
        refine tc_skip ?_
        refine tq_block ?_
        refine tq_then ?_
        refine tc_rbs [0,4,0,0,5] [(1, I now), (2, Pt b1 0), (4, Pt b2 0), (5, I 0), (7, I (pollCheckAt p now)), (14, Bo (!decide (pollCheckAt p now = 0))), (19, Bo (!(decide (pollCheckAt p now = 0) && decide (now ≥ p.next)))), (23, Bo (decide (p.asked = 1000000)))] [[⟨b2, 0, [I 0, I 0, I 0, I 0, I 0, I 0]⟩], [⟨b1, 0, [I p.least, I p.most, I p.lost, I p.gap, I p.next, I (IntKind.i64.wrap (p.asked + 1))]⟩]] ?_
        have e1 : IntKind.i64.wrap (p.asked + 1) = p.asked + 1 := IntWalk.i64_in _ (by have := pollAt_b (p := p) (now := now) (by omega); omega)
        refine tc_eq (fr' := [(1, I now), (2, Pt b1 0), (4, Pt b2 0), (5, I 0), (7, I (pollCheckAt p now)), (14, Bo (!decide (pollCheckAt p now = 0))), (19, Bo (!(decide (pollCheckAt p now = 0) && decide (now ≥ p.next)))), (23, Bo (decide (p.asked = 1000000)))]) (L' := [[⟨b2, 0, [I 0, I 0, I 0, I 0, I 0, I 0]⟩], [⟨b1, 0, [I p.least, I p.most, I p.lost, I p.gap, I p.next, I (p.asked + 1)]⟩]]) (by rfl) (by simp only [e1]) ?_
        clear e1
        refine tc_seq ?_
        refine tc_region ?_
        refine runL_b [0,0,4] [(1, I now), (2, Pt b1 0), (4, Pt b2 0), (5, I 0), (7, I (pollCheckAt p now)), (14, Bo (!decide (pollCheckAt p now = 0))), (19, Bo (!(decide (pollCheckAt p now = 0) && decide (now ≥ p.next)))), (23, Bo (decide (p.asked = 1000000))), (32, I now), (34, I p.gap)] ?_
        refine runL_callV 35 (I (pollLater now p.gap)) (pollLater_con now p.gap (by have := pollAt_b (p := p) (now := now) (by omega); omega) G) ?_
        refine runL_bs [0,5] [(1, I now), (2, Pt b1 0), (4, Pt b2 0), (5, I 0), (7, I (pollCheckAt p now)), (14, Bo (!decide (pollCheckAt p now = 0))), (19, Bo (!(decide (pollCheckAt p now = 0) && decide (now ≥ p.next)))), (23, Bo (decide (p.asked = 1000000)))] [[⟨b2, 0, [I 0, I 0, I 0, I 0, I 0, I 0]⟩], [⟨b1, 0, [I p.least, I p.most, I p.lost, I p.gap, I (pollLater now p.gap), I (p.asked + 1)]⟩]] ?_
        refine runL_nil ?_
        refine tq_then ?_
        refine tc_rbs [0,4,0,0,4,0,0,5] [(1, I now), (2, Pt b1 0), (4, Pt b2 0), (5, I 0), (7, I (pollCheckAt p now)), (14, Bo (!decide (pollCheckAt p now = 0))), (19, Bo (!(decide (pollCheckAt p now = 0) && decide (now ≥ p.next)))), (23, Bo (decide (p.asked = 1000000)))] [[⟨b2, 0, [I 0, I 0, I 0, I 0, I 0, I 0]⟩], [⟨b1, 0, [I p.least, I p.most, I p.lost, I (if p.most < (IntKind.i64.wrap (2 * p.gap)) then p.most else (IntKind.i64.wrap (2 * p.gap))), I (pollLater now p.gap), I (p.asked + 1)]⟩]] ?_
        have e2 : IntKind.i64.wrap (2 * p.gap) = 2 * p.gap := IntWalk.i64_in _ (by have := pollAt_b (p := p) (now := now) (by omega); omega)
        refine tc_eq (fr' := [(1, I now), (2, Pt b1 0), (4, Pt b2 0), (5, I 0), (7, I (pollCheckAt p now)), (14, Bo (!decide (pollCheckAt p now = 0))), (19, Bo (!(decide (pollCheckAt p now = 0) && decide (now ≥ p.next)))), (23, Bo (decide (p.asked = 1000000)))]) (L' := [[⟨b2, 0, [I 0, I 0, I 0, I 0, I 0, I 0]⟩], [⟨b1, 0, [I p.least, I p.most, I p.lost, I (if p.most < (2 * p.gap) then p.most else (2 * p.gap)), I (pollLater now p.gap), I (p.asked + 1)]⟩]]) (by rfl) (by simp only [e2]) ?_
        clear e2
        refine tc_rbs [4,3,0] [(1, I now), (2, Pt b1 0), (4, Pt b2 0), (5, I 0), (7, I (pollCheckAt p now)), (14, Bo (!decide (pollCheckAt p now = 0))), (19, Bo (!(decide (pollCheckAt p now = 0) && decide (now ≥ p.next)))), (23, Bo (decide (p.asked = 1000000)))] [[⟨b2, 0, [I p.least, I p.most, I p.lost, I (if p.most < (2 * p.gap) then p.most else (2 * p.gap)), I (pollLater now p.gap), I (p.asked + 1)]⟩], [⟨b1, 0, [I p.least, I p.most, I p.lost, I (if p.most < (2 * p.gap) then p.most else (2 * p.gap)), I (pollLater now p.gap), I (p.asked + 1)]⟩]] ?_
        refine tc_ret ?_
        refine tq_ret [0, 0] [.agg #[I p.least, I p.most, I p.lost, I (if p.most < (2 * p.gap) then p.most else (2 * p.gap)), I (pollLater now p.gap), I (p.asked + 1)], I 0] (bp_ret (Mem.le_refl _) ?_)
        unfold pollSent; (repeat' split) <;> first | rfl | (exfalso; omega) | (exfalso; simp_all; omega)

theorem pollNew_con (a b c : Int) (G : Mem) : Con Try.prog 23 #[I a, I b, I c] G [] (fun u G' L' => u = .tuple #[.agg #[I (((pollNew a b c).1).least), I (((pollNew a b c).1).most), I (((pollNew a b c).1).lost), I (((pollNew a b c).1).gap), I (((pollNew a b c).1).next), I (((pollNew a b c).1).asked)], I ((pollNew a b c).2)]) := by
  refine con_of Try.func23 22 [(0, I a), (1, I b), (2, I c)] rfl (fun w0 G0 => ?_)
  refine tc_seq ?_
  refine tc_region ?_
  refine runL_box 6 #[I 0, I 0, I 0, I 0, I 0, I 0] 23 (fun b1 => ?_)
  refine runL_b [0] [(0, I a), (1, I b), (2, I c), (6, Pt b1 0), (7, I 0)] ?_
  refine runL_nil ?_
  refine tq_then ?_
  refine tc_seq ?_
  refine tc_region ?_
  refine runL_b [0,0,0,0,0] [(6, Pt b1 0), (7, I 0), (14, .agg #[I a, I b, I c, I a, I 0, I 0])] ?_
  refine runL_box 8 #[I 0, I 0, I 0, I 0, I 0, I 0] 23 (fun b2 => ?_)
  refine runL_bs [3] [(6, Pt b1 0), (7, I 0), (8, Pt b2 0)] [[⟨b2, 0, [I a, I b, I c, I a, I 0, I 0]⟩], [⟨b1, 0, [I 0, I 0, I 0, I 0, I 0, I 0]⟩]] ?_
  refine runL_nil ?_
  refine tq_then ?_
  refine tc_seq ?_
  refine tc_seq ?_
  refine tc_region ?_
  refine runL_b [2] [(6, Pt b1 0), (7, I 0), (8, Pt b2 0), (15, .agg #[I a, I b, I c, I a, I 0, I 0])] ?_
  refine runL_callV 16 (I (pollCheck (⟨a, b, c, a, 0, 0⟩ : PollD))) (pollCheck_con (⟨a, b, c, a, 0, 0⟩ : PollD) G) ?_
  refine runL_b [0] [(6, Pt b1 0), (7, I 0), (8, Pt b2 0), (9, I (pollCheck (⟨a, b, c, a, 0, 0⟩ : PollD)))] ?_
  refine runL_nil ?_
  refine tq_then ?_
  refine tc_rb [0,0] [(6, Pt b1 0), (7, I 0), (8, Pt b2 0), (9, I (pollCheck (⟨a, b, c, a, 0, 0⟩ : PollD))), (18, Bo (!decide (pollCheck (⟨a, b, c, a, 0, 0⟩ : PollD) = 0)))] ?_
  refine tc_cond (!decide (pollCheck (⟨a, b, c, a, 0, 0⟩ : PollD) = 0)) (fun h1 => ?_) (fun h1 => ?_)
  ·
    try simp only [decide_eq_true_eq, decide_eq_false_iff_not, Bool.and_eq_true, Bool.or_eq_true, Bool.and_eq_false_imp, Bool.or_eq_false_iff, Bool.not_eq_true', Bool.not_eq_false', Bool.not_eq_true, Bool.not_eq_false, beq_iff_eq, beq_eq_false_iff_ne, bne_iff_ne, ne_eq, Decidable.not_not, Int.not_lt, Int.not_le] at h1
    refine tc_rb [0,0,5,0] [(6, Pt b1 0), (7, I (pollCheck (⟨a, b, c, a, 0, 0⟩ : PollD))), (8, Pt b2 0), (9, I (pollCheck (⟨a, b, c, a, 0, 0⟩ : PollD))), (18, Bo (!decide (pollCheck (⟨a, b, c, a, 0, 0⟩ : PollD) = 0)))] ?_
    refine tc_ret ?_
    refine tq_then_ret ?_
    refine tq_ret [1, 0] [.agg #[I 0, I 0, I 0, I 0, I 0, I 0], I (pollCheck (⟨a, b, c, a, 0, 0⟩ : PollD))] (bp_ret (Mem.le_refl _) ?_)
    rw [pollCheck_iff] at *; unfold pollNew; split <;> first | rfl | (rename_i hx; rw [pollCheck_off hx]; rfl) | contradiction
  ·
    try simp only [decide_eq_true_eq, decide_eq_false_iff_not, Bool.and_eq_true, Bool.or_eq_true, Bool.and_eq_false_imp, Bool.or_eq_false_iff, Bool.not_eq_true', Bool.not_eq_false', Bool.not_eq_true, Bool.not_eq_false, beq_iff_eq, beq_eq_false_iff_ne, bne_iff_ne, ne_eq, Decidable.not_not, Int.not_lt, Int.not_le] at h1
    refine tc_skip ?_
    refine tq_then ?_
    refine tc_rbs [2,5,0] [(6, Pt b1 0), (7, I 0), (8, Pt b2 0), (9, I (pollCheck (⟨a, b, c, a, 0, 0⟩ : PollD))), (18, Bo (!decide (pollCheck (⟨a, b, c, a, 0, 0⟩ : PollD) = 0)))] [[⟨b2, 0, [I a, I b, I c, I a, I 0, I 0]⟩], [⟨b1, 0, [I a, I b, I c, I a, I 0, I 0]⟩]] ?_
    refine tc_ret ?_
    refine tq_ret [1, 0] [.agg #[I a, I b, I c, I a, I 0, I 0], I 0] (bp_ret (Mem.le_refl _) ?_)
    rw [pollCheck_iff] at *; unfold pollNew; split <;> first | rfl | (rename_i hx; rw [pollCheck_off hx]; rfl) | contradiction

theorem pollHeard_con (p : PollD) (now : Int) (G : Mem) : Con Try.prog 24 #[.agg #[I p.least, I p.most, I p.lost, I p.gap, I p.next, I p.asked], I now] G [] (fun u G' L' => u = .tuple #[.agg #[I (((pollHeard p now).1).least), I (((pollHeard p now).1).most), I (((pollHeard p now).1).lost), I (((pollHeard p now).1).gap), I (((pollHeard p now).1).next), I (((pollHeard p now).1).asked)], I ((pollHeard p now).2)]) := by
  refine con_of Try.func24 27 [(0, .agg #[I p.least, I p.most, I p.lost, I p.gap, I p.next, I p.asked]), (1, I now)] rfl (fun w0 G0 => ?_)
  refine tc_seq ?_
  refine tc_region ?_
  refine runL_box 2 #[I p.least, I p.most, I p.lost, I p.gap, I p.next, I p.asked] 23 (fun b1 => ?_)
  refine runL_box 4 #[I 0, I 0, I 0, I 0, I 0, I 0] 23 (fun b2 => ?_)
  refine runL_b [0] [(1, I now), (2, Pt b1 0), (4, Pt b2 0), (5, I 0)] ?_
  refine runL_nil ?_
  refine tq_then ?_
  refine tc_seq ?_
  refine tc_seq ?_
  refine tc_region ?_
  refine runL_b [4,0] [(1, I now), (2, Pt b1 0), (4, Pt b2 0), (5, I 0), (7, .agg #[I p.least, I p.most, I p.lost, I p.gap, I p.next, I p.asked]), (8, I now)] ?_
  refine runL_callV 9 (I (pollCheckAt p now)) (pollCheckAt_con p now G) ?_
  refine runL_b [0] [(1, I now), (2, Pt b1 0), (4, Pt b2 0), (5, I 0), (6, I (pollCheckAt p now))] ?_
  refine runL_nil ?_
  refine tq_then ?_
  refine tc_rb [0,0] [(1, I now), (2, Pt b1 0), (4, Pt b2 0), (5, I 0), (6, I (pollCheckAt p now)), (11, Bo (!decide (pollCheckAt p now = 0)))] ?_
  refine tc_cond (!decide (pollCheckAt p now = 0)) (fun h1 => ?_) (fun h1 => ?_)
  ·
    try simp only [decide_eq_true_eq, decide_eq_false_iff_not, Bool.and_eq_true, Bool.or_eq_true, Bool.and_eq_false_imp, Bool.or_eq_false_iff, Bool.not_eq_true', Bool.not_eq_false', Bool.not_eq_true, Bool.not_eq_false, beq_iff_eq, beq_eq_false_iff_ne, bne_iff_ne, ne_eq, Decidable.not_not, Int.not_lt, Int.not_le] at h1
    refine tc_rb [0,0,3,0] [(1, I now), (2, Pt b1 0), (4, Pt b2 0), (5, I (pollCheckAt p now)), (6, I (pollCheckAt p now)), (11, Bo (!decide (pollCheckAt p now = 0)))] ?_
    refine tc_ret ?_
    refine tq_then_ret ?_
    refine tq_ret [0, 0] [.agg #[I 0, I 0, I 0, I 0, I 0, I 0], I (pollCheckAt p now)] (bp_ret (Mem.le_refl _) ?_)
    unfold pollHeard; (repeat' split) <;> first | rfl | (exfalso; omega)
  ·
    try simp only [decide_eq_true_eq, decide_eq_false_iff_not, Bool.and_eq_true, Bool.or_eq_true, Bool.and_eq_false_imp, Bool.or_eq_false_iff, Bool.not_eq_true', Bool.not_eq_false', Bool.not_eq_true, Bool.not_eq_false, beq_iff_eq, beq_eq_false_iff_ne, bne_iff_ne, ne_eq, Decidable.not_not, Int.not_lt, Int.not_le] at h1
    refine tc_skip ?_
    refine tq_then ?_
    refine tc_rbs [0,4,0,5,0,5] [(1, I now), (2, Pt b1 0), (4, Pt b2 0), (5, I 0), (6, I (pollCheckAt p now)), (11, Bo (!decide (pollCheckAt p now = 0)))] [[⟨b2, 0, [I 0, I 0, I 0, I 0, I 0, I 0]⟩], [⟨b1, 0, [I p.least, I p.most, I p.lost, I p.least, I p.next, I 0]⟩]] ?_
    refine tc_seq ?_
    refine tc_draw [8] ?_
    refine dr_V [(0, Pt b1 4), (1, I p.next), (2, I now), (3, Pt b1 0), (4, I p.least), (5, I (pollLater now p.least)), (6, I (if (pollLater now p.least) < p.next then (pollLater now p.least) else p.next)), (7, Pt b1 4)] ?_
    refine dr_mid [] [(0,0), (1,4), (2,0), (3,0), (4,4), (6,0), (7,0)] [5] [8] (List.forall_mem_cons.2 ⟨?_, List.forall_mem_nil _⟩) (List.forall_mem_cons.2 ⟨?_, List.forall_mem_nil _⟩)
    · refine stab_of 5 23 (I (pollLater now p.least)) [(20, I now), (22, I p.least)] (fun X => ?_)
      exact runL_callV 23 (I (pollLater now p.least)) (pollLater_con now p.least (by have := pollAt_b (p := p) (now := now) (by omega); omega) G) stab_end
    refine act_of 8 [(24, I (if (pollLater now p.least) < p.next then (pollLater now p.least) else p.next)), (25, Pt b1 4)] (fun X => ?_)
    refine runL_st 1 [[⟨b2, 0, [I 0, I 0, I 0, I 0, I 0, I 0]⟩], [⟨b1, 0, [I p.least, I p.most, I p.lost, I p.least, I (if (pollLater now p.least) < p.next then (pollLater now p.least) else p.next), I 0]⟩]] ?_
    refine act_end0 (V' := [(0, Pt b1 4), (1, I p.next), (2, I now), (3, Pt b1 0), (4, I p.least), (5, I (pollLater now p.least)), (6, I (if (pollLater now p.least) < p.next then (pollLater now p.least) else p.next)), (7, Pt b1 4)]) ?_
    refine dr_end [0, 1, 2, 3, 4, 5, 6, 7] [] [] [(1, I now), (2, Pt b1 0), (4, Pt b2 0), (5, I 0), (6, I (pollCheckAt p now)), (11, Bo (!decide (pollCheckAt p now = 0)))] (List.forall_mem_nil _) ?_
    refine tq_then ?_
    refine tc_rbs [4,3,0] [(1, I now), (2, Pt b1 0), (4, Pt b2 0), (5, I 0), (6, I (pollCheckAt p now)), (11, Bo (!decide (pollCheckAt p now = 0)))] [[⟨b2, 0, [I p.least, I p.most, I p.lost, I p.least, I (if (pollLater now p.least) < p.next then (pollLater now p.least) else p.next), I 0]⟩], [⟨b1, 0, [I p.least, I p.most, I p.lost, I p.least, I (if (pollLater now p.least) < p.next then (pollLater now p.least) else p.next), I 0]⟩]] ?_
    refine tc_ret ?_
    refine tq_ret [0, 0] [.agg #[I p.least, I p.most, I p.lost, I p.least, I (if (pollLater now p.least) < p.next then (pollLater now p.least) else p.next), I 0], I 0] (bp_ret (Mem.le_refl _) ?_)
    unfold pollHeard; (repeat' split) <;> first | rfl | (exfalso; omega)

theorem pollGone_con (p : PollD) (G : Mem) : Con Try.prog 25 #[.agg #[I p.least, I p.most, I p.lost, I p.gap, I p.next, I p.asked]] G [] (fun u G' L' => u = .tuple #[Bo (pollGone p), I (pollCheck p)]) := by
  refine con_of Try.func25 17 [(0, .agg #[I p.least, I p.most, I p.lost, I p.gap, I p.next, I p.asked])] rfl (fun w0 G0 => ?_)
  refine tc_seq ?_
  refine tc_region ?_
  refine runL_box 1 #[I p.least, I p.most, I p.lost, I p.gap, I p.next, I p.asked] 23 (fun b1 => ?_)
  refine runL_b [0,0] [(1, Pt b1 0), (2, Bo false), (3, I 0)] ?_
  refine runL_nil ?_
  refine tq_then ?_
  refine tc_seq ?_
  refine tc_region ?_
  refine runL_b [2] [(1, Pt b1 0), (2, Bo false), (3, I 0), (5, .agg #[I p.least, I p.most, I p.lost, I p.gap, I p.next, I p.asked])] ?_
  refine runL_callV 6 (I (pollCheck p)) (pollCheck_con p G) ?_
  refine runL_b [0] [(1, Pt b1 0), (2, Bo false), (3, I 0), (4, I (pollCheck p))] ?_
  refine runL_nil ?_
  refine tq_then ?_
  refine tc_seq ?_
  refine tc_region ?_
  refine runL_b [0,0,0] [(1, Pt b1 0), (2, Bo false), (3, I 0), (4, I (pollCheck p)), (9, Bo (decide (pollCheck p = 0)))] ?_
  refine runL_b2 (decide (pollCheck p = 0)) (fun bb => [(1, Pt b1 0), (2, Bo false), (3, I 0), (4, I (pollCheck p)), (9, Bo bb)]) [0,2,0,2,0,0] [1,1,1,1,1,0] (fun bb => [(1, Pt b1 0), (2, Bo false), (3, I 0), (4, I (pollCheck p)), (15, Bo (bb && (decide (p.asked ≥ p.lost))))]) ?_
  refine runL_b [0,0,0] [(1, Pt b1 0), (2, Bo ((decide (pollCheck p = 0)) && (decide (p.asked ≥ p.lost)))), (3, I (pollCheck p))] ?_
  refine runL_nil ?_
  refine tq_then ?_
  refine tc_ret ?_
  refine tq_ret [0, 0] [Bo ((decide (pollCheck p = 0)) && (decide (p.asked ≥ p.lost))), I (pollCheck p)] (bp_ret (Mem.le_refl _) ?_)
  rfl

theorem polls_con  (G : Mem) : Con Try.prog 17 #[] G [] (fun u G' L' => u = Bo true) := by
  refine con_of Try.func17 14 [] rfl (fun w0 G0 => ?_)
  refine tc_rb [0] [(0, Bo false)] ?_
  refine tc_seq ?_
  refine tc_region ?_
  refine runL_callV 4 (.tuple #[.agg #[I (((pollNew 1 2 3).1).least), I (((pollNew 1 2 3).1).most), I (((pollNew 1 2 3).1).lost), I (((pollNew 1 2 3).1).gap), I (((pollNew 1 2 3).1).next), I (((pollNew 1 2 3).1).asked)], I ((pollNew 1 2 3).2)]) (pollNew_con 1 2 3 G) ?_
  refine runL_b [0,0,0] [(0, Bo false), (5, .agg #[I (((pollNew 1 2 3).1).least), I (((pollNew 1 2 3).1).most), I (((pollNew 1 2 3).1).lost), I (((pollNew 1 2 3).1).gap), I (((pollNew 1 2 3).1).next), I (((pollNew 1 2 3).1).asked)]), (6, I ((pollNew 1 2 3).2))] ?_
  refine runL_box 1 #[I 0, I 0, I 0, I 0, I 0, I 0] 23 (fun b1 => ?_)
  refine runL_bs [3,0] [(0, Bo false), (1, Pt b1 0), (2, I ((pollNew 1 2 3).2))] [[⟨b1, 0, [I (((pollNew 1 2 3).1).least), I (((pollNew 1 2 3).1).most), I (((pollNew 1 2 3).1).lost), I (((pollNew 1 2 3).1).gap), I (((pollNew 1 2 3).1).next), I (((pollNew 1 2 3).1).asked)]⟩]] ?_
  refine runL_nil ?_
  refine tq_then ?_
  refine tc_seq ?_
  refine tc_region ?_
  refine runL_b [0,0,0] [(0, Bo false), (1, Pt b1 0), (9, Bo (decide ((pollNew 1 2 3).2 = 0)))] ?_
  refine runL_b2 (decide ((pollNew 1 2 3).2 = 0)) (fun bb => [(0, Bo false), (1, Pt b1 0), (9, Bo bb)]) [0,2,0,0] [1,1,1,0] (fun bb => [(0, Bo false), (13, Bo (bb && (decide (((pollNew 1 2 3).1).gap = 1))))]) ?_
  refine runL_b [0] [(0, Bo ((decide ((pollNew 1 2 3).2 = 0)) && (decide (((pollNew 1 2 3).1).gap = 1))))] ?_
  refine runL_nil ?_
  refine tq_then ?_
  refine tc_ret ?_
  refine tq_ret [0] [Bo ((decide ((pollNew 1 2 3).2 = 0)) && (decide (((pollNew 1 2 3).1).gap = 1)))] (bp_ret (Mem.le_refl _) ?_)
  simp [pollNew, PollOk, packR]

theorem pollWaits_con (p : PollD) (now : Int) (G : Mem) : Con Try.prog 3 #[.agg #[I p.least, I p.most, I p.lost, I p.gap, I p.next, I p.asked], I now] G [] (fun u G' L' => u = Bo true) := by
  refine con_of Try.func3 84 [(0, .agg #[I p.least, I p.most, I p.lost, I p.gap, I p.next, I p.asked]), (1, I now)] rfl (fun w0 G0 => ?_)
  refine tc_seq ?_
  refine tc_region ?_
  refine runL_box 2 #[I p.least, I p.most, I p.lost, I p.gap, I p.next, I p.asked] 23 (fun b1 => ?_)
  refine runL_b [0] [(1, I now), (2, Pt b1 0), (4, Bo false)] ?_
  refine runL_nil ?_
  refine tq_then ?_
  refine tc_seq ?_
  refine tc_seq ?_
  refine tc_region ?_
  refine runL_callV 10 (Bo true) (polls_con  G) ?_
  refine runL_b [0] [(1, I now), (2, Pt b1 0), (4, Bo false), (11, Bo false)] ?_
  refine runL_nil ?_
  refine tq_then ?_
  refine tc_cond_false ?_
  refine tc_skip ?_
  refine tq_then ?_
  refine tc_seq ?_
  refine tc_region ?_
  refine runL_b [2,0] [(1, I now), (2, Pt b1 0), (4, Bo false), (11, Bo false), (13, .agg #[I p.least, I p.most, I p.lost, I p.gap, I p.next, I p.asked]), (14, I now)] ?_
  refine runL_callV 15 (.tuple #[.agg #[I (((pollSent p now).1).least), I (((pollSent p now).1).most), I (((pollSent p now).1).lost), I (((pollSent p now).1).gap), I (((pollSent p now).1).next), I (((pollSent p now).1).asked)], I ((pollSent p now).2)]) (pollSent_con p now G) ?_
  refine runL_b [0,0,0] [(1, I now), (2, Pt b1 0), (4, Bo false), (11, Bo false), (16, .agg #[I (((pollSent p now).1).least), I (((pollSent p now).1).most), I (((pollSent p now).1).lost), I (((pollSent p now).1).gap), I (((pollSent p now).1).next), I (((pollSent p now).1).asked)]), (17, I ((pollSent p now).2))] ?_
  refine runL_box 5 #[I 0, I 0, I 0, I 0, I 0, I 0] 23 (fun b2 => ?_)
  refine runL_bs [3,0] [(1, I now), (2, Pt b1 0), (4, Bo false), (5, Pt b2 0), (6, I ((pollSent p now).2)), (11, Bo false)] [[⟨b2, 0, [I (((pollSent p now).1).least), I (((pollSent p now).1).most), I (((pollSent p now).1).lost), I (((pollSent p now).1).gap), I (((pollSent p now).1).next), I (((pollSent p now).1).asked)]⟩], [⟨b1, 0, [I p.least, I p.most, I p.lost, I p.gap, I p.next, I p.asked]⟩]] ?_
  refine runL_nil ?_
  refine tq_then ?_
  refine tc_seq ?_
  refine tc_rb [0,0] [(1, I now), (2, Pt b1 0), (4, Bo false), (5, Pt b2 0), (11, Bo false), (19, Bo (!decide ((pollSent p now).2 = 0)))] ?_
  refine tc_cond (!decide ((pollSent p now).2 = 0)) (fun h1 => ?_) (fun h1 => ?_)
  ·
    try simp only [decide_eq_true_eq, decide_eq_false_iff_not, Bool.and_eq_true, Bool.or_eq_true, Bool.and_eq_false_imp, Bool.or_eq_false_iff, Bool.not_eq_true', Bool.not_eq_false', Bool.not_eq_true, Bool.not_eq_false, beq_iff_eq, beq_eq_false_iff_ne, bne_iff_ne, ne_eq, Decidable.not_not, Int.not_lt, Int.not_le] at h1
    refine tc_seq ?_
    refine tc_region ?_
    refine runL_b [2,0] [(1, I now), (2, Pt b1 0), (4, Bo false), (5, Pt b2 0), (11, Bo false), (19, Bo (!decide ((pollSent p now).2 = 0))), (20, .agg #[I (((pollSent p now).1).least), I (((pollSent p now).1).most), I (((pollSent p now).1).lost), I (((pollSent p now).1).gap), I (((pollSent p now).1).next), I (((pollSent p now).1).asked)]), (21, .agg #[I 0, I 0, I 0, I 0, I 0, I 0])] ?_
    refine runL_eqv 22 (Bo ((decide (((pollSent p now).1).least = 0) && (decide (((pollSent p now).1).most = 0) && (decide (((pollSent p now).1).lost = 0) && (decide (((pollSent p now).1).gap = 0) && (decide (((pollSent p now).1).next = 0) && (decide (((pollSent p now).1).asked = 0) && true)))))))) (Bo (decide (((pollSent p now).1).least = 0) && decide (((pollSent p now).1).most = 0) && decide (((pollSent p now).1).lost = 0) && decide (((pollSent p now).1).gap = 0) && decide (((pollSent p now).1).next = 0) && decide (((pollSent p now).1).asked = 0))) (by simp [B_toList, Bool.and_assoc]) ?_
    refine runL_b [0] [(1, I now), (2, Pt b1 0), (4, Bo (decide (((pollSent p now).1).least = 0) && decide (((pollSent p now).1).most = 0) && decide (((pollSent p now).1).lost = 0) && decide (((pollSent p now).1).gap = 0) && decide (((pollSent p now).1).next = 0) && decide (((pollSent p now).1).asked = 0))), (5, Pt b2 0), (11, Bo false), (19, Bo (!decide ((pollSent p now).2 = 0)))] ?_
    refine runL_nil ?_
    refine tq_then ?_
    refine tc_ret ?_
    refine tq_then_ret ?_
    refine tq_ret [0] [Bo (decide (((pollSent p now).1).least = 0) && decide (((pollSent p now).1).most = 0) && decide (((pollSent p now).1).lost = 0) && decide (((pollSent p now).1).gap = 0) && decide (((pollSent p now).1).next = 0) && decide (((pollSent p now).1).asked = 0))] (bp_ret (Mem.le_refl _) ?_)
    first | rfl | (exfalso; have hq := pollSent_ok (p := p) (now := now) (by omega); omega) | (refine congrArg Bo ?_; simp only [Bool.or_eq_true, decide_eq_true_eq]; have hq := pollSent_ok (p := p) (now := now) (by omega); have hr := pollSent_ok (p := (pollSent p now).1) (now := (pollSent p now).1.next) (by omega); omega) | (rw [pollSent_err (by omega)]; rfl)
  ·
    try simp only [decide_eq_true_eq, decide_eq_false_iff_not, Bool.and_eq_true, Bool.or_eq_true, Bool.and_eq_false_imp, Bool.or_eq_false_iff, Bool.not_eq_true', Bool.not_eq_false', Bool.not_eq_true, Bool.not_eq_false, beq_iff_eq, beq_eq_false_iff_ne, bne_iff_ne, ne_eq, Decidable.not_not, Int.not_lt, Int.not_le] at h1
    refine tc_skip ?_
    refine tq_then ?_
    refine tc_rb [0,2,0,0,0] [(1, I now), (2, Pt b1 0), (4, Bo false), (5, Pt b2 0), (7, I (IntKind.i64.wrap ((((pollSent p now).1).next) - now))), (11, Bo false), (19, Bo (!decide ((pollSent p now).2 = 0)))] ?_
    have e1 : IntKind.i64.wrap ((((pollSent p now).1).next) - now) = (((pollSent p now).1).next) - now := IntWalk.i64_in _ (by first | (have hq := pollSent_ok (p := p) (now := now) (by omega); have hr := pollSent_ok (p := (pollSent p now).1) (now := (pollSent p now).1.next) (by omega); omega) | (have hq := pollSent_ok (p := p) (now := now) (by omega); omega))
    refine tc_eq (fr' := [(1, I now), (2, Pt b1 0), (4, Bo false), (5, Pt b2 0), (7, I ((((pollSent p now).1).next) - now)), (11, Bo false), (19, Bo (!decide ((pollSent p now).2 = 0)))]) (L' := [[⟨b2, 0, [I (((pollSent p now).1).least), I (((pollSent p now).1).most), I (((pollSent p now).1).lost), I (((pollSent p now).1).gap), I (((pollSent p now).1).next), I (((pollSent p now).1).asked)]⟩], [⟨b1, 0, [I p.least, I p.most, I p.lost, I p.gap, I p.next, I p.asked]⟩]]) (by simp only [e1]) (by rfl) ?_
    clear e1
    refine tc_seq ?_
    refine tc_seq ?_
    refine tc_region ?_
    refine runL_b [0,0,4,0,0] [(1, I now), (2, Pt b1 0), (4, Bo false), (5, Pt b2 0), (7, I ((((pollSent p now).1).next) - now)), (11, Bo false), (19, Bo (!decide ((pollSent p now).2 = 0))), (31, Bo (decide ((((pollSent p now).1).next) - now > p.most)))] ?_
    refine runL_cases (fun bb => [(1, I now), (2, Pt b1 0), (4, Bo false), (5, Pt b2 0), (7, I ((((pollSent p now).1).next) - now)), (11, Bo false), (19, Bo (!decide ((pollSent p now).2 = 0))), (31, Bo bb)]) (decide ((((pollSent p now).1).next) - now > p.most)) (fun h2 => ?_) (fun h2 => ?_)
    ·
      try simp only [decide_eq_true_eq, decide_eq_false_iff_not, Bool.and_eq_true, Bool.or_eq_true, Bool.and_eq_false_imp, Bool.or_eq_false_iff, Bool.not_eq_true', Bool.not_eq_false', Bool.not_eq_true, Bool.not_eq_false, beq_iff_eq, beq_eq_false_iff_ne, bne_iff_ne, ne_eq, Decidable.not_not, Int.not_lt, Int.not_le] at h2
      refine runL_b [1,1,1,1,1,1,1,1,1,0,0,1,1,1,1,1,0,0,1,1,1,1,1,0,0,1,1,1,0] [(1, I now), (2, Pt b1 0), (4, Bo false), (5, Pt b2 0), (7, I ((((pollSent p now).1).next) - now)), (11, Bo false), (19, Bo (!decide ((pollSent p now).2 = 0))), (60, Bo true)] ?_
      refine runL_nil ?_
      refine tq_then ?_
      refine tc_cond_true ?_
      refine tc_rb [0] [(1, I now), (2, Pt b1 0), (4, Bo false), (5, Pt b2 0), (7, I ((((pollSent p now).1).next) - now)), (11, Bo false), (19, Bo (!decide ((pollSent p now).2 = 0))), (60, Bo true)] ?_
      refine tc_ret ?_
      refine tq_then_ret ?_
      refine tq_ret [0] [Bo false] (bp_ret (Mem.le_refl _) ?_)
      first | rfl | (exfalso; have hq := pollSent_ok (p := p) (now := now) (by omega); omega) | (refine congrArg Bo ?_; simp only [Bool.or_eq_true, decide_eq_true_eq]; have hq := pollSent_ok (p := p) (now := now) (by omega); have hr := pollSent_ok (p := (pollSent p now).1) (now := (pollSent p now).1.next) (by omega); omega) | (rw [pollSent_err (by omega)]; rfl)
    ·
      try simp only [decide_eq_true_eq, decide_eq_false_iff_not, Bool.and_eq_true, Bool.or_eq_true, Bool.and_eq_false_imp, Bool.or_eq_false_iff, Bool.not_eq_true', Bool.not_eq_false', Bool.not_eq_true, Bool.not_eq_false, beq_iff_eq, beq_eq_false_iff_ne, bne_iff_ne, ne_eq, Decidable.not_not, Int.not_lt, Int.not_le] at h2
      refine runL_b [0,2,0,0] [(1, I now), (2, Pt b1 0), (4, Bo false), (5, Pt b2 0), (7, I ((((pollSent p now).1).next) - now)), (11, Bo false), (19, Bo (!decide ((pollSent p now).2 = 0))), (31, Bo false), (35, Bo (decide (((pollSent p now).1).next < 1000000000)))] ?_
      refine runL_b2 (decide (((pollSent p now).1).next < 1000000000)) (fun bb => [(1, I now), (2, Pt b1 0), (4, Bo false), (5, Pt b2 0), (7, I ((((pollSent p now).1).next) - now)), (11, Bo false), (19, Bo (!decide ((pollSent p now).2 = 0))), (31, Bo false), (35, Bo bb)]) [0,0,4,0,0] [1,1,1,1,0] (fun bb => [(1, I now), (2, Pt b1 0), (4, Bo false), (5, Pt b2 0), (7, I ((((pollSent p now).1).next) - now)), (11, Bo false), (19, Bo (!decide ((pollSent p now).2 = 0))), (31, Bo false), (40, Bo (bb && (decide ((((pollSent p now).1).next) - now < p.least))))]) ?_
      refine runL_b [0,0] [(1, I now), (2, Pt b1 0), (4, Bo false), (5, Pt b2 0), (7, I ((((pollSent p now).1).next) - now)), (11, Bo false), (19, Bo (!decide ((pollSent p now).2 = 0))), (42, Bo ((decide (((pollSent p now).1).next < 1000000000)) && (decide ((((pollSent p now).1).next) - now < p.least))))] ?_
      refine runL_b2 ((decide (((pollSent p now).1).next < 1000000000)) && (decide ((((pollSent p now).1).next) - now < p.least))) (fun bb => [(1, I now), (2, Pt b1 0), (4, Bo false), (5, Pt b2 0), (7, I ((((pollSent p now).1).next) - now)), (11, Bo false), (19, Bo (!decide ((pollSent p now).2 = 0))), (42, Bo bb)]) [1,1,1,1,1,0] [0,2,0,4,0,0] (fun bb => [(1, I now), (2, Pt b1 0), (4, Bo false), (5, Pt b2 0), (7, I ((((pollSent p now).1).next) - now)), (11, Bo false), (19, Bo (!decide ((pollSent p now).2 = 0))), (48, Bo (bb || (decide (((pollSent p now).1).gap < p.gap))))]) ?_
      refine runL_b [0] [(1, I now), (2, Pt b1 0), (4, Bo false), (5, Pt b2 0), (7, I ((((pollSent p now).1).next) - now)), (11, Bo false), (19, Bo (!decide ((pollSent p now).2 = 0))), (49, Bo (((decide (((pollSent p now).1).next < 1000000000)) && (decide ((((pollSent p now).1).next) - now < p.least))) || (decide (((pollSent p now).1).gap < p.gap))))] ?_
      refine runL_b2 (((decide (((pollSent p now).1).next < 1000000000)) && (decide ((((pollSent p now).1).next) - now < p.least))) || (decide (((pollSent p now).1).gap < p.gap))) (fun bb => [(1, I now), (2, Pt b1 0), (4, Bo false), (5, Pt b2 0), (7, I ((((pollSent p now).1).next) - now)), (11, Bo false), (19, Bo (!decide ((pollSent p now).2 = 0))), (49, Bo bb)]) [1,1,1,1,1,0] [0,2,0,4,0,0] (fun bb => [(1, I now), (2, Pt b1 0), (4, Bo false), (5, Pt b2 0), (7, I ((((pollSent p now).1).next) - now)), (11, Bo false), (19, Bo (!decide ((pollSent p now).2 = 0))), (55, Bo (bb || (decide (((pollSent p now).1).gap > p.most))))]) ?_
      refine runL_b [0] [(1, I now), (2, Pt b1 0), (4, Bo false), (5, Pt b2 0), (7, I ((((pollSent p now).1).next) - now)), (11, Bo false), (19, Bo (!decide ((pollSent p now).2 = 0))), (56, Bo ((((decide (((pollSent p now).1).next < 1000000000)) && (decide ((((pollSent p now).1).next) - now < p.least))) || (decide (((pollSent p now).1).gap < p.gap))) || (decide (((pollSent p now).1).gap > p.most))))] ?_
      refine runL_cases (fun bb => [(1, I now), (2, Pt b1 0), (4, Bo false), (5, Pt b2 0), (7, I ((((pollSent p now).1).next) - now)), (11, Bo false), (19, Bo (!decide ((pollSent p now).2 = 0))), (56, Bo bb)]) ((((decide (((pollSent p now).1).next < 1000000000)) && (decide ((((pollSent p now).1).next) - now < p.least))) || (decide (((pollSent p now).1).gap < p.gap))) || (decide (((pollSent p now).1).gap > p.most))) (fun h3 => ?_) (fun h3 => ?_)
      ·
        try simp only [decide_eq_true_eq, decide_eq_false_iff_not, Bool.and_eq_true, Bool.or_eq_true, Bool.and_eq_false_imp, Bool.or_eq_false_iff, Bool.not_eq_true', Bool.not_eq_false', Bool.not_eq_true, Bool.not_eq_false, beq_iff_eq, beq_eq_false_iff_ne, bne_iff_ne, ne_eq, Decidable.not_not, Int.not_lt, Int.not_le] at h3
        refine runL_b [1,1,1,0] [(1, I now), (2, Pt b1 0), (4, Bo false), (5, Pt b2 0), (7, I ((((pollSent p now).1).next) - now)), (11, Bo false), (19, Bo (!decide ((pollSent p now).2 = 0))), (60, Bo true)] ?_
        refine runL_nil ?_
        refine tq_then ?_
        refine tc_cond_true ?_
        refine tc_rb [0] [(1, I now), (2, Pt b1 0), (4, Bo false), (5, Pt b2 0), (7, I ((((pollSent p now).1).next) - now)), (11, Bo false), (19, Bo (!decide ((pollSent p now).2 = 0))), (60, Bo true)] ?_
        refine tc_ret ?_
        refine tq_then_ret ?_
        refine tq_ret [0] [Bo false] (bp_ret (Mem.le_refl _) ?_)
        first | rfl | (exfalso; have hq := pollSent_ok (p := p) (now := now) (by omega); omega) | (refine congrArg Bo ?_; simp only [Bool.or_eq_true, decide_eq_true_eq]; have hq := pollSent_ok (p := p) (now := now) (by omega); have hr := pollSent_ok (p := (pollSent p now).1) (now := (pollSent p now).1.next) (by omega); omega) | (rw [pollSent_err (by omega)]; rfl)
      ·
        try simp only [decide_eq_true_eq, decide_eq_false_iff_not, Bool.and_eq_true, Bool.or_eq_true, Bool.and_eq_false_imp, Bool.or_eq_false_iff, Bool.not_eq_true', Bool.not_eq_false', Bool.not_eq_true, Bool.not_eq_false, beq_iff_eq, beq_eq_false_iff_ne, bne_iff_ne, ne_eq, Decidable.not_not, Int.not_lt, Int.not_le] at h3
        refine runL_b [2] [(1, I now), (2, Pt b1 0), (4, Bo false), (5, Pt b2 0), (7, I ((((pollSent p now).1).next) - now)), (11, Bo false), (19, Bo (!decide ((pollSent p now).2 = 0))), (56, Bo false), (57, .agg #[I (((pollSent p now).1).least), I (((pollSent p now).1).most), I (((pollSent p now).1).lost), I (((pollSent p now).1).gap), I (((pollSent p now).1).next), I (((pollSent p now).1).asked)])] ?_
        refine runL_callV 58 (I (pollCheck ((pollSent p now).1))) (pollCheck_con ((pollSent p now).1) G) ?_
        refine runL_b [0,0] [(1, I now), (2, Pt b1 0), (4, Bo false), (5, Pt b2 0), (7, I ((((pollSent p now).1).next) - now)), (11, Bo false), (19, Bo (!decide ((pollSent p now).2 = 0))), (60, Bo (!decide (pollCheck ((pollSent p now).1) = 0)))] ?_
        refine runL_nil ?_
        refine tq_then ?_
        refine tc_cond (!decide (pollCheck ((pollSent p now).1) = 0)) (fun h4 => ?_) (fun h4 => ?_)
        ·
          try simp only [decide_eq_true_eq, decide_eq_false_iff_not, Bool.and_eq_true, Bool.or_eq_true, Bool.and_eq_false_imp, Bool.or_eq_false_iff, Bool.not_eq_true', Bool.not_eq_false', Bool.not_eq_true, Bool.not_eq_false, beq_iff_eq, beq_eq_false_iff_ne, bne_iff_ne, ne_eq, Decidable.not_not, Int.not_lt, Int.not_le] at h4
          refine tc_rb [0] [(1, I now), (2, Pt b1 0), (4, Bo false), (5, Pt b2 0), (7, I ((((pollSent p now).1).next) - now)), (11, Bo false), (19, Bo (!decide ((pollSent p now).2 = 0))), (60, Bo (!decide (pollCheck ((pollSent p now).1) = 0)))] ?_
          refine tc_ret ?_
          refine tq_then_ret ?_
          refine tq_ret [0] [Bo false] (bp_ret (Mem.le_refl _) ?_)
          first | rfl | (exfalso; have hq := pollSent_ok (p := p) (now := now) (by omega); omega) | (refine congrArg Bo ?_; simp only [Bool.or_eq_true, decide_eq_true_eq]; have hq := pollSent_ok (p := p) (now := now) (by omega); have hr := pollSent_ok (p := (pollSent p now).1) (now := (pollSent p now).1.next) (by omega); omega) | (rw [pollSent_err (by omega)]; rfl)
        ·
          try simp only [decide_eq_true_eq, decide_eq_false_iff_not, Bool.and_eq_true, Bool.or_eq_true, Bool.and_eq_false_imp, Bool.or_eq_false_iff, Bool.not_eq_true', Bool.not_eq_false', Bool.not_eq_true, Bool.not_eq_false, beq_iff_eq, beq_eq_false_iff_ne, bne_iff_ne, ne_eq, Decidable.not_not, Int.not_lt, Int.not_le] at h4
          refine tc_skip ?_
          refine tq_then ?_
          refine tc_seq ?_
          refine tc_region ?_
          refine runL_b [2,0,2] [(1, I now), (2, Pt b1 0), (4, Bo false), (5, Pt b2 0), (7, I ((((pollSent p now).1).next) - now)), (11, Bo false), (19, Bo (!decide ((pollSent p now).2 = 0))), (60, Bo (!decide (pollCheck ((pollSent p now).1) = 0))), (62, .agg #[I (((pollSent p now).1).least), I (((pollSent p now).1).most), I (((pollSent p now).1).lost), I (((pollSent p now).1).gap), I (((pollSent p now).1).next), I (((pollSent p now).1).asked)]), (64, I (((pollSent p now).1).next))] ?_
          refine runL_callV 65 (.tuple #[.agg #[I (((pollSent ((pollSent p now).1) (((pollSent p now).1).next)).1).least), I (((pollSent ((pollSent p now).1) (((pollSent p now).1).next)).1).most), I (((pollSent ((pollSent p now).1) (((pollSent p now).1).next)).1).lost), I (((pollSent ((pollSent p now).1) (((pollSent p now).1).next)).1).gap), I (((pollSent ((pollSent p now).1) (((pollSent p now).1).next)).1).next), I (((pollSent ((pollSent p now).1) (((pollSent p now).1).next)).1).asked)], I ((pollSent ((pollSent p now).1) (((pollSent p now).1).next)).2)]) (pollSent_con ((pollSent p now).1) (((pollSent p now).1).next) G) ?_
          refine runL_b [0,0,0] [(1, I now), (2, Pt b1 0), (4, Bo false), (5, Pt b2 0), (7, I ((((pollSent p now).1).next) - now)), (11, Bo false), (19, Bo (!decide ((pollSent p now).2 = 0))), (60, Bo (!decide (pollCheck ((pollSent p now).1) = 0))), (66, .agg #[I (((pollSent ((pollSent p now).1) (((pollSent p now).1).next)).1).least), I (((pollSent ((pollSent p now).1) (((pollSent p now).1).next)).1).most), I (((pollSent ((pollSent p now).1) (((pollSent p now).1).next)).1).lost), I (((pollSent ((pollSent p now).1) (((pollSent p now).1).next)).1).gap), I (((pollSent ((pollSent p now).1) (((pollSent p now).1).next)).1).next), I (((pollSent ((pollSent p now).1) (((pollSent p now).1).next)).1).asked)]), (67, I ((pollSent ((pollSent p now).1) (((pollSent p now).1).next)).2))] ?_
          refine runL_box 8 #[I 0, I 0, I 0, I 0, I 0, I 0] 23 (fun b3 => ?_)
          refine runL_bs [3,0] [(1, I now), (2, Pt b1 0), (4, Bo false), (5, Pt b2 0), (7, I ((((pollSent p now).1).next) - now)), (8, Pt b3 0), (9, I ((pollSent ((pollSent p now).1) (((pollSent p now).1).next)).2)), (11, Bo false), (19, Bo (!decide ((pollSent p now).2 = 0))), (60, Bo (!decide (pollCheck ((pollSent p now).1) = 0)))] [[⟨b3, 0, [I (((pollSent ((pollSent p now).1) (((pollSent p now).1).next)).1).least), I (((pollSent ((pollSent p now).1) (((pollSent p now).1).next)).1).most), I (((pollSent ((pollSent p now).1) (((pollSent p now).1).next)).1).lost), I (((pollSent ((pollSent p now).1) (((pollSent p now).1).next)).1).gap), I (((pollSent ((pollSent p now).1) (((pollSent p now).1).next)).1).next), I (((pollSent ((pollSent p now).1) (((pollSent p now).1).next)).1).asked)]⟩], [⟨b2, 0, [I (((pollSent p now).1).least), I (((pollSent p now).1).most), I (((pollSent p now).1).lost), I (((pollSent p now).1).gap), I (((pollSent p now).1).next), I (((pollSent p now).1).asked)]⟩], [⟨b1, 0, [I p.least, I p.most, I p.lost, I p.gap, I p.next, I p.asked]⟩]] ?_
          refine runL_nil ?_
          refine tq_then ?_
          refine tc_seq ?_
          refine tc_region ?_
          refine runL_b [0,0,0] [(1, I now), (2, Pt b1 0), (4, Bo false), (5, Pt b2 0), (7, I ((((pollSent p now).1).next) - now)), (8, Pt b3 0), (11, Bo false), (19, Bo (!decide ((pollSent p now).2 = 0))), (60, Bo (!decide (pollCheck ((pollSent p now).1) = 0))), (70, Bo (!decide ((pollSent ((pollSent p now).1) (((pollSent p now).1).next)).2 = 0)))] ?_
          refine runL_cases (fun bb => [(1, I now), (2, Pt b1 0), (4, Bo false), (5, Pt b2 0), (7, I ((((pollSent p now).1).next) - now)), (8, Pt b3 0), (11, Bo false), (19, Bo (!decide ((pollSent p now).2 = 0))), (60, Bo (!decide (pollCheck ((pollSent p now).1) = 0))), (70, Bo bb)]) (!decide ((pollSent ((pollSent p now).1) (((pollSent p now).1).next)).2 = 0)) (fun h5 => ?_) (fun h5 => ?_)
          ·
            try simp only [decide_eq_true_eq, decide_eq_false_iff_not, Bool.and_eq_true, Bool.or_eq_true, Bool.and_eq_false_imp, Bool.or_eq_false_iff, Bool.not_eq_true', Bool.not_eq_false', Bool.not_eq_true, Bool.not_eq_false, beq_iff_eq, beq_eq_false_iff_ne, bne_iff_ne, ne_eq, Decidable.not_not, Int.not_lt, Int.not_le] at h5
            refine runL_b [1,1,1,1,1,1,1,0,0,1,1,1,0,0] [(1, I now), (2, Pt b1 0), (4, Bo true), (5, Pt b2 0), (7, I ((((pollSent p now).1).next) - now)), (11, Bo false), (19, Bo (!decide ((pollSent p now).2 = 0))), (60, Bo (!decide (pollCheck ((pollSent p now).1) = 0)))] ?_
            refine runL_nil ?_
            refine tq_then ?_
            refine tc_ret ?_
            refine tq_ret [0] [Bo true] (bp_ret (Mem.le_refl _) ?_)
            first | rfl | (exfalso; have hq := pollSent_ok (p := p) (now := now) (by omega); omega) | (refine congrArg Bo ?_; simp only [Bool.or_eq_true, decide_eq_true_eq]; have hq := pollSent_ok (p := p) (now := now) (by omega); have hr := pollSent_ok (p := (pollSent p now).1) (now := (pollSent p now).1.next) (by omega); omega) | (rw [pollSent_err (by omega)]; rfl)
          ·
            try simp only [decide_eq_true_eq, decide_eq_false_iff_not, Bool.and_eq_true, Bool.or_eq_true, Bool.and_eq_false_imp, Bool.or_eq_false_iff, Bool.not_eq_true', Bool.not_eq_false', Bool.not_eq_true, Bool.not_eq_false, beq_iff_eq, beq_eq_false_iff_ne, bne_iff_ne, ne_eq, Decidable.not_not, Int.not_lt, Int.not_le] at h5
            refine runL_b [0,2,0,4,0,0,0,0,0] [(1, I now), (2, Pt b1 0), (4, Bo false), (5, Pt b2 0), (7, I ((((pollSent p now).1).next) - now)), (8, Pt b3 0), (11, Bo false), (19, Bo (!decide ((pollSent p now).2 = 0))), (60, Bo (!decide (pollCheck ((pollSent p now).1) = 0))), (79, Bo (decide (IntKind.i64.wrap ((((pollSent ((pollSent p now).1) (((pollSent p now).1).next)).1).next) - (((pollSent p now).1).next)) ≥ (((pollSent p now).1).next) - now)))] ?_
            have e2 : IntKind.i64.wrap ((((pollSent ((pollSent p now).1) (((pollSent p now).1).next)).1).next) - (((pollSent p now).1).next)) = (((pollSent ((pollSent p now).1) (((pollSent p now).1).next)).1).next) - (((pollSent p now).1).next) := IntWalk.i64_in _ (by first | (have hq := pollSent_ok (p := p) (now := now) (by omega); have hr := pollSent_ok (p := (pollSent p now).1) (now := (pollSent p now).1.next) (by omega); omega) | (have hq := pollSent_ok (p := p) (now := now) (by omega); omega))
            refine runL_eq (fr' := [(1, I now), (2, Pt b1 0), (4, Bo false), (5, Pt b2 0), (7, I ((((pollSent p now).1).next) - now)), (8, Pt b3 0), (11, Bo false), (19, Bo (!decide ((pollSent p now).2 = 0))), (60, Bo (!decide (pollCheck ((pollSent p now).1) = 0))), (79, Bo (decide ((((pollSent ((pollSent p now).1) (((pollSent p now).1).next)).1).next) - (((pollSent p now).1).next) ≥ (((pollSent p now).1).next) - now)))]) (L' := [[⟨b3, 0, [I (((pollSent ((pollSent p now).1) (((pollSent p now).1).next)).1).least), I (((pollSent ((pollSent p now).1) (((pollSent p now).1).next)).1).most), I (((pollSent ((pollSent p now).1) (((pollSent p now).1).next)).1).lost), I (((pollSent ((pollSent p now).1) (((pollSent p now).1).next)).1).gap), I (((pollSent ((pollSent p now).1) (((pollSent p now).1).next)).1).next), I (((pollSent ((pollSent p now).1) (((pollSent p now).1).next)).1).asked)]⟩], [⟨b2, 0, [I (((pollSent p now).1).least), I (((pollSent p now).1).most), I (((pollSent p now).1).lost), I (((pollSent p now).1).gap), I (((pollSent p now).1).next), I (((pollSent p now).1).asked)]⟩], [⟨b1, 0, [I p.least, I p.most, I p.lost, I p.gap, I p.next, I p.asked]⟩]]) (by simp only [e2]) (by rfl) ?_
            clear e2
            refine runL_b2 (decide ((((pollSent ((pollSent p now).1) (((pollSent p now).1).next)).1).next) - (((pollSent p now).1).next) ≥ (((pollSent p now).1).next) - now)) (fun bb => [(1, I now), (2, Pt b1 0), (4, Bo false), (5, Pt b2 0), (7, I ((((pollSent p now).1).next) - now)), (8, Pt b3 0), (11, Bo false), (19, Bo (!decide ((pollSent p now).2 = 0))), (60, Bo (!decide (pollCheck ((pollSent p now).1) = 0))), (79, Bo bb)]) [1,1,1,0] [0,2,0,0] (fun bb => [(1, I now), (2, Pt b1 0), (4, Bo false), (5, Pt b2 0), (7, I ((((pollSent p now).1).next) - now)), (11, Bo false), (19, Bo (!decide ((pollSent p now).2 = 0))), (60, Bo (!decide (pollCheck ((pollSent p now).1) = 0))), (83, Bo (bb || (decide (((pollSent ((pollSent p now).1) (((pollSent p now).1).next)).1).next = 1000000000))))]) ?_
            refine runL_b [0] [(1, I now), (2, Pt b1 0), (4, Bo ((decide ((((pollSent ((pollSent p now).1) (((pollSent p now).1).next)).1).next) - (((pollSent p now).1).next) ≥ (((pollSent p now).1).next) - now)) || (decide (((pollSent ((pollSent p now).1) (((pollSent p now).1).next)).1).next = 1000000000)))), (5, Pt b2 0), (7, I ((((pollSent p now).1).next) - now)), (11, Bo false), (19, Bo (!decide ((pollSent p now).2 = 0))), (60, Bo (!decide (pollCheck ((pollSent p now).1) = 0)))] ?_
            refine runL_nil ?_
            refine tq_then ?_
            refine tc_ret ?_
            refine tq_ret [0] [Bo ((decide ((((pollSent ((pollSent p now).1) (((pollSent p now).1).next)).1).next) - (((pollSent p now).1).next) ≥ (((pollSent p now).1).next) - now)) || (decide (((pollSent ((pollSent p now).1) (((pollSent p now).1).next)).1).next = 1000000000)))] (bp_ret (Mem.le_refl _) ?_)
            first | rfl | (exfalso; have hq := pollSent_ok (p := p) (now := now) (by omega); omega) | (refine congrArg Bo ?_; simp only [Bool.or_eq_true, decide_eq_true_eq]; have hq := pollSent_ok (p := p) (now := now) (by omega); have hr := pollSent_ok (p := (pollSent p now).1) (now := (pollSent p now).1.next) (by omega); omega) | (rw [pollSent_err (by omega)]; rfl)

theorem good1_con (e : Int) (G : Mem) : Con Try.prog 65 #[I e] G [] (fun u G' L' => u = Bo (!decide (e = 0))) := by
  refine con_of Try.func65 5 [(0, I e)] rfl (fun w0 G0 => ?_)
  refine tc_rb [0] [(0, I e), (2, Bo false)] ?_
  refine tc_rb [0,0,0] [(2, Bo (!decide (e = 0)))] ?_
  refine tc_ret ?_
  refine tq_ret [0] [Bo (!decide (e = 0))] (bp_ret (Mem.le_refl _) ?_)
  rfl

theorem good_con (G : Mem) {a : Option Addr} {c : Nat} {l : List Int} (h : RS EErr G a c l) : Con Try.prog 26 #[Sl a l.length c] G [] (fun u G' L' => u = Bo (!(l).any fun x => !decide (x = 0))) := by
  refine con_of Try.func26 6 [(0, Sl a l.length c)] rfl (fun w0 G0 => ?_)
  refine tc_rb [0] [(0, Sl a l.length c), (2, Bo false)] ?_
  refine tc_seq ?_
  refine tc_region ?_
  refine runL_b [0] [(2, Bo false), (3, Sl a l.length c)] ?_
  refine runL_callV 4 (Bo (l.any (fun x => !decide (x = 0)))) (hasFunc_EErr G 65 #[] (fun x => !decide (x = 0)) (fun _ _ => by kernel_rfl) h (fun x => good1_con x G)) ?_
  refine runL_b [0,0] [(2, Bo (!(l.any (fun x => !decide (x = 0)))))] ?_
  refine runL_nil ?_
  refine tq_then ?_
  refine tc_ret ?_
  refine tq_ret [0] [Bo (!(l.any (fun x => !decide (x = 0))))] (bp_ret (Mem.le_refl _) ?_)
  rfl

theorem pollGoneLaw_con (least most lost now : Int) (G : Mem) : Con Try.prog 5 #[I least, I most, I lost, I now] G [] (fun u G' L' => u = Bo true) := by
  refine con_of Try.func5 113 [(0, I least), (1, I most), (2, I lost), (3, I now)] rfl (fun w0 G0 => ?_)
  refine tc_rb [0] [(0, I least), (1, I most), (2, I lost), (3, I now), (8, Bo false)] ?_
  refine tc_seq ?_
  refine tc_seq ?_
  refine tc_region ?_
  refine runL_callV 20 (Bo true) (polls_con  G) ?_
  refine runL_b [0] [(0, I least), (1, I most), (2, I lost), (3, I now), (8, Bo false), (21, Bo false)] ?_
  refine runL_nil ?_
  refine tq_then ?_
  refine tc_cond_false ?_
  refine tc_skip ?_
  refine tq_then ?_
  refine tc_seq ?_
  refine tc_region ?_
  refine runL_b [0,0,0] [(0, I least), (2, I lost), (3, I now), (8, Bo false), (21, Bo false), (23, I least), (24, I most), (25, I lost)] ?_
  refine runL_callV 26 (.tuple #[.agg #[I (((pollNew least most lost).1).least), I (((pollNew least most lost).1).most), I (((pollNew least most lost).1).lost), I (((pollNew least most lost).1).gap), I (((pollNew least most lost).1).next), I (((pollNew least most lost).1).asked)], I ((pollNew least most lost).2)]) (pollNew_con least most lost G) ?_
  refine runL_b [0,0,0] [(0, I least), (2, I lost), (3, I now), (8, Bo false), (21, Bo false), (27, .agg #[I (((pollNew least most lost).1).least), I (((pollNew least most lost).1).most), I (((pollNew least most lost).1).lost), I (((pollNew least most lost).1).gap), I (((pollNew least most lost).1).next), I (((pollNew least most lost).1).asked)]), (28, I ((pollNew least most lost).2))] ?_
  refine runL_box 9 #[I 0, I 0, I 0, I 0, I 0, I 0] 23 (fun b1 => ?_)
  refine runL_bs [3,0] [(0, I least), (2, I lost), (3, I now), (8, Bo false), (9, Pt b1 0), (10, I ((pollNew least most lost).2)), (21, Bo false)] [[⟨b1, 0, [I (((pollNew least most lost).1).least), I (((pollNew least most lost).1).most), I (((pollNew least most lost).1).lost), I (((pollNew least most lost).1).gap), I (((pollNew least most lost).1).next), I (((pollNew least most lost).1).asked)]⟩]] ?_
  refine runL_nil ?_
  refine tq_then ?_
  refine tc_seq ?_
  refine tc_seq ?_
  refine tc_region ?_
  refine runL_b [0,0,0] [(0, I least), (2, I lost), (3, I now), (8, Bo false), (9, Pt b1 0), (10, I ((pollNew least most lost).2)), (21, Bo false), (31, Bo (!decide ((pollNew least most lost).2 = 0)))] ?_
  refine runL_b2 (!decide ((pollNew least most lost).2 = 0)) (fun bb => [(0, I least), (2, I lost), (3, I now), (8, Bo false), (9, Pt b1 0), (10, I ((pollNew least most lost).2)), (21, Bo false), (31, Bo bb)]) [1,1,0] [0,0,0] (fun bb => [(0, I least), (2, I lost), (3, I now), (8, Bo false), (9, Pt b1 0), (10, I ((pollNew least most lost).2)), (21, Bo false), (34, Bo (bb || (decide (now < 0))))]) ?_
  refine runL_b [0] [(0, I least), (2, I lost), (3, I now), (8, Bo false), (9, Pt b1 0), (10, I ((pollNew least most lost).2)), (21, Bo false), (35, Bo ((!decide ((pollNew least most lost).2 = 0)) || (decide (now < 0))))] ?_
  refine runL_b2 ((!decide ((pollNew least most lost).2 = 0)) || (decide (now < 0))) (fun bb => [(0, I least), (2, I lost), (3, I now), (8, Bo false), (9, Pt b1 0), (10, I ((pollNew least most lost).2)), (21, Bo false), (35, Bo bb)]) [1,1,0] [0,0,0] (fun bb => [(0, I least), (2, I lost), (3, I now), (8, Bo false), (9, Pt b1 0), (10, I ((pollNew least most lost).2)), (21, Bo false), (38, Bo (bb || (decide (now > 1000000))))]) ?_
  refine runL_nil ?_
  refine tq_then ?_
  refine tc_cond (((!decide ((pollNew least most lost).2 = 0)) || (decide (now < 0))) || (decide (now > 1000000))) (fun h1 => ?_) (fun h1 => ?_)
  ·
    try simp only [decide_eq_true_eq, decide_eq_false_iff_not, Bool.and_eq_true, Bool.or_eq_true, Bool.and_eq_false_imp, Bool.or_eq_false_iff, Bool.not_eq_true', Bool.not_eq_false', Bool.not_eq_true, Bool.not_eq_false, beq_iff_eq, beq_eq_false_iff_ne, bne_iff_ne, ne_eq, Decidable.not_not, Int.not_lt, Int.not_le] at h1
    refine tc_seq ?_
    refine tc_region ?_
    refine runL_b [0,0,0] [(0, I least), (2, I lost), (3, I now), (8, Bo false), (9, Pt b1 0), (10, I ((pollNew least most lost).2)), (21, Bo false), (38, Bo (((!decide ((pollNew least most lost).2 = 0)) || (decide (now < 0))) || (decide (now > 1000000)))), (41, Bo (decide ((pollNew least most lost).2 = 0)))] ?_
    refine runL_cases (fun bb => [(0, I least), (2, I lost), (3, I now), (8, Bo false), (9, Pt b1 0), (10, I ((pollNew least most lost).2)), (21, Bo false), (38, Bo (((!decide ((pollNew least most lost).2 = 0)) || (decide (now < 0))) || (decide (now > 1000000)))), (41, Bo bb)]) (decide ((pollNew least most lost).2 = 0)) (fun h2 => ?_) (fun h2 => ?_)
    ·
      try simp only [decide_eq_true_eq, decide_eq_false_iff_not, Bool.and_eq_true, Bool.or_eq_true, Bool.and_eq_false_imp, Bool.or_eq_false_iff, Bool.not_eq_true', Bool.not_eq_false', Bool.not_eq_true, Bool.not_eq_false, beq_iff_eq, beq_eq_false_iff_ne, bne_iff_ne, ne_eq, Decidable.not_not, Int.not_lt, Int.not_le] at h2
      refine runL_b [1,1,1,0,0] [(0, I least), (2, I lost), (3, I now), (8, Bo true), (9, Pt b1 0), (10, I ((pollNew least most lost).2)), (21, Bo false), (38, Bo (((!decide ((pollNew least most lost).2 = 0)) || (decide (now < 0))) || (decide (now > 1000000))))] ?_
      refine runL_nil ?_
      refine tq_then ?_
      refine tc_ret ?_
      refine tq_then_ret ?_
      refine tq_ret [0] [Bo true] (bp_ret (Mem.le_refl _) ?_)
      first | rfl | (rw [pollNew_err (by assumption)]; rfl) | (exfalso; have := hI.ok; omega) | (exfalso; have hg := (pollGone_iff p).1 (by assumption); have := hI.hlost; have := hI.hasked; omega) | (exfalso; have := (gone_next (t := if now > p.next then now else p.next) hI (by omega) (by split <;> omega) (by omega) (by split <;> omega)).1; omega) | (have ge := gone_end hI (by omega); simp [ge.1, ge.2.1, ge.2.2.1, ge.2.2.2.1, ge.2.2.2.2, hI.ok, packR])
    ·
      try simp only [decide_eq_true_eq, decide_eq_false_iff_not, Bool.and_eq_true, Bool.or_eq_true, Bool.and_eq_false_imp, Bool.or_eq_false_iff, Bool.not_eq_true', Bool.not_eq_false', Bool.not_eq_true, Bool.not_eq_false, beq_iff_eq, beq_eq_false_iff_ne, bne_iff_ne, ne_eq, Decidable.not_not, Int.not_lt, Int.not_le] at h2
      refine runL_b [2,0] [(0, I least), (2, I lost), (3, I now), (8, Bo false), (9, Pt b1 0), (10, I ((pollNew least most lost).2)), (21, Bo false), (38, Bo (((!decide ((pollNew least most lost).2 = 0)) || (decide (now < 0))) || (decide (now > 1000000)))), (41, Bo false), (42, .agg #[I (((pollNew least most lost).1).least), I (((pollNew least most lost).1).most), I (((pollNew least most lost).1).lost), I (((pollNew least most lost).1).gap), I (((pollNew least most lost).1).next), I (((pollNew least most lost).1).asked)]), (43, .agg #[I 0, I 0, I 0, I 0, I 0, I 0])] ?_
      refine runL_eqv 44 (Bo ((decide (((pollNew least most lost).1).least = 0) && (decide (((pollNew least most lost).1).most = 0) && (decide (((pollNew least most lost).1).lost = 0) && (decide (((pollNew least most lost).1).gap = 0) && (decide (((pollNew least most lost).1).next = 0) && (decide (((pollNew least most lost).1).asked = 0) && true)))))))) (Bo (decide (((pollNew least most lost).1).least = 0) && decide (((pollNew least most lost).1).most = 0) && decide (((pollNew least most lost).1).lost = 0) && decide (((pollNew least most lost).1).gap = 0) && decide (((pollNew least most lost).1).next = 0) && decide (((pollNew least most lost).1).asked = 0))) (by simp [B_toList, Bool.and_assoc]) ?_
      refine runL_b [0,0] [(0, I least), (2, I lost), (3, I now), (8, Bo (decide (((pollNew least most lost).1).least = 0) && decide (((pollNew least most lost).1).most = 0) && decide (((pollNew least most lost).1).lost = 0) && decide (((pollNew least most lost).1).gap = 0) && decide (((pollNew least most lost).1).next = 0) && decide (((pollNew least most lost).1).asked = 0))), (9, Pt b1 0), (10, I ((pollNew least most lost).2)), (21, Bo false), (38, Bo (((!decide ((pollNew least most lost).2 = 0)) || (decide (now < 0))) || (decide (now > 1000000))))] ?_
      refine runL_nil ?_
      refine tq_then ?_
      refine tc_ret ?_
      refine tq_then_ret ?_
      refine tq_ret [0] [Bo (decide (((pollNew least most lost).1).least = 0) && decide (((pollNew least most lost).1).most = 0) && decide (((pollNew least most lost).1).lost = 0) && decide (((pollNew least most lost).1).gap = 0) && decide (((pollNew least most lost).1).next = 0) && decide (((pollNew least most lost).1).asked = 0))] (bp_ret (Mem.le_refl _) ?_)
      first | rfl | (rw [pollNew_err (by assumption)]; rfl) | (exfalso; have := hI.ok; omega) | (exfalso; have hg := (pollGone_iff p).1 (by assumption); have := hI.hlost; have := hI.hasked; omega) | (exfalso; have := (gone_next (t := if now > p.next then now else p.next) hI (by omega) (by split <;> omega) (by omega) (by split <;> omega)).1; omega) | (have ge := gone_end hI (by omega); simp [ge.1, ge.2.1, ge.2.2.1, ge.2.2.2.1, ge.2.2.2.2, hI.ok, packR])
  ·
    try simp only [decide_eq_true_eq, decide_eq_false_iff_not, Bool.and_eq_true, Bool.or_eq_true, Bool.and_eq_false_imp, Bool.or_eq_false_iff, Bool.not_eq_true', Bool.not_eq_false', Bool.not_eq_true, Bool.not_eq_false, beq_iff_eq, beq_eq_false_iff_ne, bne_iff_ne, ne_eq, Decidable.not_not, Int.not_lt, Int.not_le] at h1
    refine tc_skip ?_
    refine tq_then ?_
    refine tc_seq ?_
    refine tc_region ?_
    refine runL_b [2,0] [(0, I least), (2, I lost), (3, I now), (8, Bo false), (9, Pt b1 0), (10, I ((pollNew least most lost).2)), (21, Bo false), (38, Bo (((!decide ((pollNew least most lost).2 = 0)) || (decide (now < 0))) || (decide (now > 1000000)))), (47, .agg #[I (((pollNew least most lost).1).least), I (((pollNew least most lost).1).most), I (((pollNew least most lost).1).lost), I (((pollNew least most lost).1).gap), I (((pollNew least most lost).1).next), I (((pollNew least most lost).1).asked)]), (48, I now)] ?_
    refine runL_callV 49 (.tuple #[.agg #[I (((pollHeard ((pollNew least most lost).1) now).1).least), I (((pollHeard ((pollNew least most lost).1) now).1).most), I (((pollHeard ((pollNew least most lost).1) now).1).lost), I (((pollHeard ((pollNew least most lost).1) now).1).gap), I (((pollHeard ((pollNew least most lost).1) now).1).next), I (((pollHeard ((pollNew least most lost).1) now).1).asked)], I ((pollHeard ((pollNew least most lost).1) now).2)]) (pollHeard_con ((pollNew least most lost).1) now G) ?_
    refine runL_bs [0,0,0,3,0] [(0, I least), (2, I lost), (3, I now), (8, Bo false), (9, Pt b1 0), (10, I ((pollHeard ((pollNew least most lost).1) now).2)), (21, Bo false), (38, Bo (((!decide ((pollNew least most lost).2 = 0)) || (decide (now < 0))) || (decide (now > 1000000))))] [[⟨b1, 0, [I (((pollHeard ((pollNew least most lost).1) now).1).least), I (((pollHeard ((pollNew least most lost).1) now).1).most), I (((pollHeard ((pollNew least most lost).1) now).1).lost), I (((pollHeard ((pollNew least most lost).1) now).1).gap), I (((pollHeard ((pollNew least most lost).1) now).1).next), I (((pollHeard ((pollNew least most lost).1) now).1).asked)]⟩]] ?_
    refine runL_nil ?_
    refine tq_then ?_
    refine tc_seq ?_
    refine tc_rb [0] [(0, I least), (2, I lost), (3, I now), (8, Bo false), (9, Pt b1 0), (10, I ((pollHeard ((pollNew least most lost).1) now).2)), (11, I 0), (21, Bo false), (38, Bo (((!decide ((pollNew least most lost).2 = 0)) || (decide (now < 0))) || (decide (now > 1000000))))] ?_
    refine tc_block ?_
    refine tc_loop (σ := Nat × PollD) (fun s => (GoneInv least lost now s.1 s.2)) (fun s => [(0, I least), (2, I lost), (3, I now), (9, Pt b1 0), (11, I ((s.1 : Int))), (21, Bo false), (38, Bo (((!decide ((pollNew least most lost).2 = 0)) || (decide (now < 0))) || (decide (now > 1000000))))]) (fun s => G) (fun s => [[⟨b1, 0, [I s.2.least, I s.2.most, I s.2.lost, I s.2.gap, I s.2.next, I s.2.asked]⟩]]) (fun s => lost.toNat - s.1) ((0, (pollHeard (pollNew least most lost).1 now).1)) (gone_start (by omega) (by omega) (by omega)) (fun s hs => ?_)
    obtain ⟨k, p⟩ := s
    have hI := hs
    dsimp only at hI
    refine tc_eq (fr' := [(0, I least), (2, I lost), (3, I now), (9, Pt b1 0), (11, I ((k : Int))), (21, Bo false), (38, Bo (((!decide ((pollNew least most lost).2 = 0)) || (decide (now < 0))) || (decide (now > 1000000))))]) (L' := [[⟨b1, 0, [I p.least, I p.most, I p.lost, I p.gap, I p.next, I p.asked]⟩]]) rfl rfl ?_
    refine tc_seq ?_
    refine tc_rb [0,0,0] [(0, I least), (2, I lost), (3, I now), (9, Pt b1 0), (11, I ((k : Int))), (21, Bo false), (38, Bo (((!decide ((pollNew least most lost).2 = 0)) || (decide (now < 0))) || (decide (now > 1000000)))), (54, Bo (decide ((k : Int) < lost)))] ?_
    refine tc_cond (decide ((k : Int) < lost)) (fun h3 => ?_) (fun h3 => ?_)
    ·
      try simp only [decide_eq_true_eq, decide_eq_false_iff_not, Bool.and_eq_true, Bool.or_eq_true, Bool.and_eq_false_imp, Bool.or_eq_false_iff, Bool.not_eq_true', Bool.not_eq_false', Bool.not_eq_true, Bool.not_eq_false, beq_iff_eq, beq_eq_false_iff_ne, bne_iff_ne, ne_eq, Decidable.not_not, Int.not_lt, Int.not_le] at h3
      refine tc_skip ?_
      refine tq_then ?_
      refine tc_seq ?_
      refine tc_block ?_
      refine tc_seq ?_
      refine tc_seq ?_
      refine tc_region ?_
      refine runL_b [2] [(0, I least), (2, I lost), (3, I now), (9, Pt b1 0), (11, I ((k : Int))), (21, Bo false), (38, Bo (((!decide ((pollNew least most lost).2 = 0)) || (decide (now < 0))) || (decide (now > 1000000)))), (54, Bo (decide ((k : Int) < lost))), (58, .agg #[I p.least, I p.most, I p.lost, I p.gap, I p.next, I p.asked])] ?_
      refine runL_callV 59 (.tuple #[Bo (pollGone p), I (pollCheck p)]) (pollGone_con p G) ?_
      refine runL_b [0,0,0,0,0] [(0, I least), (2, I lost), (3, I now), (9, Pt b1 0), (11, I ((k : Int))), (12, Bo (pollGone p)), (13, I (pollCheck p)), (21, Bo false), (38, Bo (((!decide ((pollNew least most lost).2 = 0)) || (decide (now < 0))) || (decide (now > 1000000)))), (54, Bo (decide ((k : Int) < lost)))] ?_
      refine runL_nil ?_
      refine tq_then ?_
      refine tc_seq ?_
      refine tc_region ?_
      refine runL_b [0,0,0] [(0, I least), (2, I lost), (3, I now), (9, Pt b1 0), (11, I ((k : Int))), (12, Bo (pollGone p)), (13, I (pollCheck p)), (21, Bo false), (38, Bo (((!decide ((pollNew least most lost).2 = 0)) || (decide (now < 0))) || (decide (now > 1000000)))), (54, Bo (decide ((k : Int) < lost))), (64, Bo (!decide (pollCheck p = 0)))] ?_
      refine runL_cases (fun bb => [(0, I least), (2, I lost), (3, I now), (9, Pt b1 0), (11, I ((k : Int))), (12, Bo (pollGone p)), (13, I (pollCheck p)), (21, Bo false), (38, Bo (((!decide ((pollNew least most lost).2 = 0)) || (decide (now < 0))) || (decide (now > 1000000)))), (54, Bo (decide ((k : Int) < lost))), (64, Bo bb)]) (!decide (pollCheck p = 0)) (fun h4 => ?_) (fun h4 => ?_)
      ·
        try simp only [decide_eq_true_eq, decide_eq_false_iff_not, Bool.and_eq_true, Bool.or_eq_true, Bool.and_eq_false_imp, Bool.or_eq_false_iff, Bool.not_eq_true', Bool.not_eq_false', Bool.not_eq_true, Bool.not_eq_false, beq_iff_eq, beq_eq_false_iff_ne, bne_iff_ne, ne_eq, Decidable.not_not, Int.not_lt, Int.not_le] at h4
        refine runL_b [1,0] [(0, I least), (2, I lost), (3, I now), (9, Pt b1 0), (11, I ((k : Int))), (12, Bo (pollGone p)), (13, I (pollCheck p)), (21, Bo false), (38, Bo (((!decide ((pollNew least most lost).2 = 0)) || (decide (now < 0))) || (decide (now > 1000000)))), (54, Bo (decide ((k : Int) < lost))), (65, undef), (66, Bo true)] ?_
        refine runL_nil ?_
        refine tq_then ?_
        refine tc_cond_true ?_
        refine tc_rb [0] [(0, I least), (2, I lost), (3, I now), (8, Bo false), (9, Pt b1 0), (11, I ((k : Int))), (12, Bo (pollGone p)), (13, I (pollCheck p)), (21, Bo false), (38, Bo (((!decide ((pollNew least most lost).2 = 0)) || (decide (now < 0))) || (decide (now > 1000000)))), (54, Bo (decide ((k : Int) < lost))), (65, undef), (66, Bo true)] ?_
        refine tc_ret ?_
        refine tq_then_ret ?_
        refine tq_block_ret ?_
        refine tq_then_ret ?_
        refine tq_rnd_ret ?_
        refine tq_block_ret ?_
        refine tq_then_ret ?_
        refine tq_ret [0] [Bo false] (bp_ret (Mem.le_refl _) ?_)
        first | rfl | (rw [pollNew_err (by assumption)]; rfl) | (exfalso; have := hI.ok; omega) | (exfalso; have hg := (pollGone_iff p).1 (by assumption); have := hI.hlost; have := hI.hasked; omega) | (exfalso; have := (gone_next (t := if now > p.next then now else p.next) hI (by omega) (by split <;> omega) (by omega) (by split <;> omega)).1; omega) | (have ge := gone_end hI (by omega); simp [ge.1, ge.2.1, ge.2.2.1, ge.2.2.2.1, ge.2.2.2.2, hI.ok, packR])
      ·
        try simp only [decide_eq_true_eq, decide_eq_false_iff_not, Bool.and_eq_true, Bool.or_eq_true, Bool.and_eq_false_imp, Bool.or_eq_false_iff, Bool.not_eq_true', Bool.not_eq_false', Bool.not_eq_true, Bool.not_eq_false, beq_iff_eq, beq_eq_false_iff_ne, bne_iff_ne, ne_eq, Decidable.not_not, Int.not_lt, Int.not_le] at h4
        refine runL_b [0,0] [(0, I least), (2, I lost), (3, I now), (9, Pt b1 0), (11, I ((k : Int))), (12, Bo (pollGone p)), (13, I (pollCheck p)), (21, Bo false), (38, Bo (((!decide ((pollNew least most lost).2 = 0)) || (decide (now < 0))) || (decide (now > 1000000)))), (54, Bo (decide ((k : Int) < lost))), (65, Bo (pollGone p)), (66, Bo (pollGone p))] ?_
        refine runL_nil ?_
        refine tq_then ?_
        refine tc_cond (pollGone p) (fun h5 => ?_) (fun h5 => ?_)
        ·
          try simp only [decide_eq_true_eq, decide_eq_false_iff_not, Bool.and_eq_true, Bool.or_eq_true, Bool.and_eq_false_imp, Bool.or_eq_false_iff, Bool.not_eq_true', Bool.not_eq_false', Bool.not_eq_true, Bool.not_eq_false, beq_iff_eq, beq_eq_false_iff_ne, bne_iff_ne, ne_eq, Decidable.not_not, Int.not_lt, Int.not_le] at h5
          refine tc_rb [0] [(0, I least), (2, I lost), (3, I now), (8, Bo false), (9, Pt b1 0), (11, I ((k : Int))), (12, Bo (pollGone p)), (13, I (pollCheck p)), (21, Bo false), (38, Bo (((!decide ((pollNew least most lost).2 = 0)) || (decide (now < 0))) || (decide (now > 1000000)))), (54, Bo (decide ((k : Int) < lost))), (65, Bo (pollGone p)), (66, Bo (pollGone p))] ?_
          refine tc_ret ?_
          refine tq_then_ret ?_
          refine tq_block_ret ?_
          refine tq_then_ret ?_
          refine tq_rnd_ret ?_
          refine tq_block_ret ?_
          refine tq_then_ret ?_
          refine tq_ret [0] [Bo false] (bp_ret (Mem.le_refl _) ?_)
          first | rfl | (rw [pollNew_err (by assumption)]; rfl) | (exfalso; have := hI.ok; omega) | (exfalso; have hg := (pollGone_iff p).1 (by assumption); have := hI.hlost; have := hI.hasked; omega) | (exfalso; have := (gone_next (t := if now > p.next then now else p.next) hI (by omega) (by split <;> omega) (by omega) (by split <;> omega)).1; omega) | (have ge := gone_end hI (by omega); simp [ge.1, ge.2.1, ge.2.2.1, ge.2.2.2.1, ge.2.2.2.2, hI.ok, packR])
        ·
          try simp only [decide_eq_true_eq, decide_eq_false_iff_not, Bool.and_eq_true, Bool.or_eq_true, Bool.and_eq_false_imp, Bool.or_eq_false_iff, Bool.not_eq_true', Bool.not_eq_false', Bool.not_eq_true, Bool.not_eq_false, beq_iff_eq, beq_eq_false_iff_ne, bne_iff_ne, ne_eq, Decidable.not_not, Int.not_lt, Int.not_le] at h5
          refine tc_skip ?_
          refine tq_then ?_
          refine tc_seq ?_
          refine tc_region ?_
          refine runL_b [2,0,2,0,0] [(0, I least), (2, I lost), (3, I now), (9, Pt b1 0), (11, I ((k : Int))), (12, Bo (pollGone p)), (13, I (pollCheck p)), (21, Bo false), (38, Bo (((!decide ((pollNew least most lost).2 = 0)) || (decide (now < 0))) || (decide (now > 1000000)))), (54, Bo (decide ((k : Int) < lost))), (65, Bo (pollGone p)), (66, Bo (pollGone p)), (68, .agg #[I p.least, I p.most, I p.lost, I p.gap, I p.next, I p.asked]), (72, I (if now > p.next then now else p.next))] ?_
          refine runL_callV 73 (.tuple #[.agg #[I (((pollSent p (if now > p.next then now else p.next)).1).least), I (((pollSent p (if now > p.next then now else p.next)).1).most), I (((pollSent p (if now > p.next then now else p.next)).1).lost), I (((pollSent p (if now > p.next then now else p.next)).1).gap), I (((pollSent p (if now > p.next then now else p.next)).1).next), I (((pollSent p (if now > p.next then now else p.next)).1).asked)], I ((pollSent p (if now > p.next then now else p.next)).2)]) (pollSent_con p (if now > p.next then now else p.next) G) ?_
          refine runL_bs [0,0,0,3,0] [(0, I least), (2, I lost), (3, I now), (9, Pt b1 0), (10, I ((pollSent p (if now > p.next then now else p.next)).2)), (11, I ((k : Int))), (12, Bo (pollGone p)), (13, I (pollCheck p)), (21, Bo false), (38, Bo (((!decide ((pollNew least most lost).2 = 0)) || (decide (now < 0))) || (decide (now > 1000000)))), (54, Bo (decide ((k : Int) < lost))), (65, Bo (pollGone p)), (66, Bo (pollGone p))] [[⟨b1, 0, [I (((pollSent p (if now > p.next then now else p.next)).1).least), I (((pollSent p (if now > p.next then now else p.next)).1).most), I (((pollSent p (if now > p.next then now else p.next)).1).lost), I (((pollSent p (if now > p.next then now else p.next)).1).gap), I (((pollSent p (if now > p.next then now else p.next)).1).next), I (((pollSent p (if now > p.next then now else p.next)).1).asked)]⟩]] ?_
          refine runL_nil ?_
          refine tq_then ?_
          refine tc_rb [0,0] [(0, I least), (2, I lost), (3, I now), (9, Pt b1 0), (10, I ((pollSent p (if now > p.next then now else p.next)).2)), (11, I ((k : Int))), (12, Bo (pollGone p)), (13, I (pollCheck p)), (21, Bo false), (38, Bo (((!decide ((pollNew least most lost).2 = 0)) || (decide (now < 0))) || (decide (now > 1000000)))), (54, Bo (decide ((k : Int) < lost))), (65, Bo (pollGone p)), (66, Bo (pollGone p)), (77, Bo (!decide ((pollSent p (if now > p.next then now else p.next)).2 = 0)))] ?_
          refine tc_cond (!decide ((pollSent p (if now > p.next then now else p.next)).2 = 0)) (fun h6 => ?_) (fun h6 => ?_)
          ·
            try simp only [decide_eq_true_eq, decide_eq_false_iff_not, Bool.and_eq_true, Bool.or_eq_true, Bool.and_eq_false_imp, Bool.or_eq_false_iff, Bool.not_eq_true', Bool.not_eq_false', Bool.not_eq_true, Bool.not_eq_false, beq_iff_eq, beq_eq_false_iff_ne, bne_iff_ne, ne_eq, Decidable.not_not, Int.not_lt, Int.not_le] at h6
            refine tc_rb [0] [(0, I least), (2, I lost), (3, I now), (8, Bo false), (9, Pt b1 0), (10, I ((pollSent p (if now > p.next then now else p.next)).2)), (11, I ((k : Int))), (12, Bo (pollGone p)), (13, I (pollCheck p)), (21, Bo false), (38, Bo (((!decide ((pollNew least most lost).2 = 0)) || (decide (now < 0))) || (decide (now > 1000000)))), (54, Bo (decide ((k : Int) < lost))), (65, Bo (pollGone p)), (66, Bo (pollGone p)), (77, Bo (!decide ((pollSent p (if now > p.next then now else p.next)).2 = 0)))] ?_
            refine tc_ret ?_
            refine tq_block_ret ?_
            refine tq_then_ret ?_
            refine tq_rnd_ret ?_
            refine tq_block_ret ?_
            refine tq_then_ret ?_
            refine tq_ret [0] [Bo false] (bp_ret (Mem.le_refl _) ?_)
            first | rfl | (rw [pollNew_err (by assumption)]; rfl) | (exfalso; have := hI.ok; omega) | (exfalso; have hg := (pollGone_iff p).1 (by assumption); have := hI.hlost; have := hI.hasked; omega) | (exfalso; have := (gone_next (t := if now > p.next then now else p.next) hI (by omega) (by split <;> omega) (by omega) (by split <;> omega)).1; omega) | (have ge := gone_end hI (by omega); simp [ge.1, ge.2.1, ge.2.2.1, ge.2.2.2.1, ge.2.2.2.2, hI.ok, packR])
          ·
            try simp only [decide_eq_true_eq, decide_eq_false_iff_not, Bool.and_eq_true, Bool.or_eq_true, Bool.and_eq_false_imp, Bool.or_eq_false_iff, Bool.not_eq_true', Bool.not_eq_false', Bool.not_eq_true, Bool.not_eq_false, beq_iff_eq, beq_eq_false_iff_ne, bne_iff_ne, ne_eq, Decidable.not_not, Int.not_lt, Int.not_le] at h6
            refine tc_skip ?_
            refine tq_block ?_
            refine tq_then ?_
            refine tc_region ?_
            refine runL_b [0,0,0] [(0, I least), (2, I lost), (3, I now), (9, Pt b1 0), (10, I ((pollSent p (if now > p.next then now else p.next)).2)), (11, I (IntKind.i64.wrap (((k : Int)) + 1))), (12, Bo (pollGone p)), (13, I (pollCheck p)), (21, Bo false), (38, Bo (((!decide ((pollNew least most lost).2 = 0)) || (decide (now < 0))) || (decide (now > 1000000)))), (54, Bo (decide ((k : Int) < lost))), (65, Bo (pollGone p)), (66, Bo (pollGone p)), (77, Bo (!decide ((pollSent p (if now > p.next then now else p.next)).2 = 0)))] ?_
            have e1 : IntKind.i64.wrap (((k : Int)) + 1) = ((k : Int)) + 1 := IntWalk.i64_in _ (by have := hI.hk; have hq_ := (pollCheck_iff _).1 hI.ok; unfold PollOk at hq_; have := hI.hlost; omega)
            refine runL_eq (fr' := [(0, I least), (2, I lost), (3, I now), (9, Pt b1 0), (10, I ((pollSent p (if now > p.next then now else p.next)).2)), (11, I (((k : Int)) + 1)), (12, Bo (pollGone p)), (13, I (pollCheck p)), (21, Bo false), (38, Bo (((!decide ((pollNew least most lost).2 = 0)) || (decide (now < 0))) || (decide (now > 1000000)))), (54, Bo (decide ((k : Int) < lost))), (65, Bo (pollGone p)), (66, Bo (pollGone p)), (77, Bo (!decide ((pollSent p (if now > p.next then now else p.next)).2 = 0)))]) (L' := [[⟨b1, 0, [I (((pollSent p (if now > p.next then now else p.next)).1).least), I (((pollSent p (if now > p.next then now else p.next)).1).most), I (((pollSent p (if now > p.next then now else p.next)).1).lost), I (((pollSent p (if now > p.next then now else p.next)).1).gap), I (((pollSent p (if now > p.next then now else p.next)).1).next), I (((pollSent p (if now > p.next then now else p.next)).1).asked)]⟩]]) (by simp only [e1]) (by rfl) ?_
            clear e1
            refine runL_nil ?_
            exact tq_rnd ((k + 1, ((pollSent p (if now > p.next then now else p.next)).1))) ((gone_next hI (by omega) (by split <;> omega) (by omega) (by split <;> omega)).2) (by dsimp only; have := hI.hk; omega)
    ·
      try simp only [decide_eq_true_eq, decide_eq_false_iff_not, Bool.and_eq_true, Bool.or_eq_true, Bool.and_eq_false_imp, Bool.or_eq_false_iff, Bool.not_eq_true', Bool.not_eq_false', Bool.not_eq_true, Bool.not_eq_false, beq_iff_eq, beq_eq_false_iff_ne, bne_iff_ne, ne_eq, Decidable.not_not, Int.not_lt, Int.not_le] at h3
      refine tc_exit ?_
      refine tq_then_exit ?_
      refine tq_rnd_exit ?_
      refine tq_block_here ?_
      refine tq_then ?_
      refine tc_seq ?_
      refine tc_region ?_
      refine runL_b [2] [(0, I least), (2, I lost), (3, I now), (9, Pt b1 0), (11, I ((k : Int))), (21, Bo false), (38, Bo (((!decide ((pollNew least most lost).2 = 0)) || (decide (now < 0))) || (decide (now > 1000000)))), (54, Bo (decide ((k : Int) < lost))), (79, .agg #[I p.least, I p.most, I p.lost, I p.gap, I p.next, I p.asked])] ?_
      refine runL_callV 80 (.tuple #[Bo (pollGone p), I (pollCheck p)]) (pollGone_con p G) ?_
      refine runL_b [0,0,0,0,0] [(0, I least), (2, I lost), (3, I now), (9, Pt b1 0), (11, I ((k : Int))), (14, Bo (pollGone p)), (15, I (pollCheck p)), (21, Bo false), (38, Bo (((!decide ((pollNew least most lost).2 = 0)) || (decide (now < 0))) || (decide (now > 1000000)))), (54, Bo (decide ((k : Int) < lost)))] ?_
      refine runL_nil ?_
      refine tq_then ?_
      refine tc_seq ?_
      refine tc_region ?_
      refine runL_b [2,0,2] [(0, I least), (2, I lost), (3, I now), (9, Pt b1 0), (11, I ((k : Int))), (14, Bo (pollGone p)), (15, I (pollCheck p)), (21, Bo false), (38, Bo (((!decide ((pollNew least most lost).2 = 0)) || (decide (now < 0))) || (decide (now > 1000000)))), (54, Bo (decide ((k : Int) < lost))), (84, .agg #[I p.least, I p.most, I p.lost, I p.gap, I p.next, I p.asked]), (86, I p.next)] ?_
      refine runL_callV 87 (.tuple #[.agg #[I (((pollHeard p p.next).1).least), I (((pollHeard p p.next).1).most), I (((pollHeard p p.next).1).lost), I (((pollHeard p p.next).1).gap), I (((pollHeard p p.next).1).next), I (((pollHeard p p.next).1).asked)], I ((pollHeard p p.next).2)]) (pollHeard_con p p.next G) ?_
      refine runL_b [0,0,0] [(0, I least), (2, I lost), (3, I now), (9, Pt b1 0), (11, I ((k : Int))), (14, Bo (pollGone p)), (15, I (pollCheck p)), (21, Bo false), (38, Bo (((!decide ((pollNew least most lost).2 = 0)) || (decide (now < 0))) || (decide (now > 1000000)))), (54, Bo (decide ((k : Int) < lost))), (88, .agg #[I (((pollHeard p p.next).1).least), I (((pollHeard p p.next).1).most), I (((pollHeard p p.next).1).lost), I (((pollHeard p p.next).1).gap), I (((pollHeard p p.next).1).next), I (((pollHeard p p.next).1).asked)]), (89, I ((pollHeard p p.next).2))] ?_
      refine runL_box 16 #[I 0, I 0, I 0, I 0, I 0, I 0] 23 (fun b2 => ?_)
      refine runL_bs [3,0] [(0, I least), (2, I lost), (3, I now), (9, Pt b1 0), (11, I ((k : Int))), (14, Bo (pollGone p)), (15, I (pollCheck p)), (16, Pt b2 0), (17, I ((pollHeard p p.next).2)), (21, Bo false), (38, Bo (((!decide ((pollNew least most lost).2 = 0)) || (decide (now < 0))) || (decide (now > 1000000)))), (54, Bo (decide ((k : Int) < lost)))] [[⟨b2, 0, [I (((pollHeard p p.next).1).least), I (((pollHeard p p.next).1).most), I (((pollHeard p p.next).1).lost), I (((pollHeard p p.next).1).gap), I (((pollHeard p p.next).1).next), I (((pollHeard p p.next).1).asked)]⟩], [⟨b1, 0, [I p.least, I p.most, I p.lost, I p.gap, I p.next, I p.asked]⟩]] ?_
      refine runL_nil ?_
      refine tq_then ?_
      refine tc_seq ?_
      refine tc_region ?_
      refine runL_b [2] [(0, I least), (2, I lost), (3, I now), (9, Pt b1 0), (11, I ((k : Int))), (14, Bo (pollGone p)), (15, I (pollCheck p)), (16, Pt b2 0), (17, I ((pollHeard p p.next).2)), (21, Bo false), (38, Bo (((!decide ((pollNew least most lost).2 = 0)) || (decide (now < 0))) || (decide (now > 1000000)))), (54, Bo (decide ((k : Int) < lost))), (91, .agg #[I (((pollHeard p p.next).1).least), I (((pollHeard p p.next).1).most), I (((pollHeard p p.next).1).lost), I (((pollHeard p p.next).1).gap), I (((pollHeard p p.next).1).next), I (((pollHeard p p.next).1).asked)])] ?_
      refine runL_callV 92 (.tuple #[Bo (pollGone ((pollHeard p p.next).1)), I (pollCheck ((pollHeard p p.next).1))]) (pollGone_con ((pollHeard p p.next).1) G) ?_
      refine runL_b [0,0,0,0,0] [(0, I least), (2, I lost), (3, I now), (9, Pt b1 0), (11, I ((k : Int))), (14, Bo (pollGone p)), (15, I (pollCheck p)), (16, Pt b2 0), (17, I ((pollHeard p p.next).2)), (18, Bo (pollGone ((pollHeard p p.next).1))), (19, I (pollCheck ((pollHeard p p.next).1))), (21, Bo false), (38, Bo (((!decide ((pollNew least most lost).2 = 0)) || (decide (now < 0))) || (decide (now > 1000000)))), (54, Bo (decide ((k : Int) < lost)))] ?_
      refine runL_nil ?_
      refine tq_then ?_
      refine tc_seq ?_
      refine tc_region ?_
      refine runL_b [0,0,0] [(0, I least), (2, I lost), (3, I now), (9, Pt b1 0), (11, I ((k : Int))), (14, Bo (pollGone p)), (16, Pt b2 0), (18, Bo (pollGone ((pollHeard p p.next).1))), (21, Bo false), (38, Bo (((!decide ((pollNew least most lost).2 = 0)) || (decide (now < 0))) || (decide (now > 1000000)))), (54, Bo (decide ((k : Int) < lost))), (95, I (pollCheck p)), (96, I ((pollHeard p p.next).2)), (97, I (pollCheck ((pollHeard p p.next).1)))] ?_
      refine runL_bsl 98 3 #[I (pollCheck p), I ((pollHeard p p.next).2), I (pollCheck ((pollHeard p p.next).1))] 25 (fun b3 => ?_)
      refine runL_frz1 (b := b3) (o := 0) (cs := [I (pollCheck p), I ((pollHeard p p.next).2), I (pollCheck ((pollHeard p p.next).1))]) 0 (fun G1 hl1 hz1 => ?_)
      have hr1 : RS EErr G1 (At b3 0) 3 [pollCheck p, (pollHeard p p.next).2, pollCheck ((pollHeard p p.next).1)] := RS.lit [[I (pollCheck p)], [I ((pollHeard p p.next).2)], [I (pollCheck ((pollHeard p p.next).1))]] [pollCheck p, (pollHeard p p.next).2, pollCheck ((pollHeard p p.next).1)] ⟨rfl, ⟨rfl, ⟨rfl, trivial⟩⟩⟩ hz1 (Nat.le_of_ble_eq_true rfl) (Nat.le_of_ble_eq_true rfl)
      refine runL_callV 99 (Bo (!([pollCheck p, (pollHeard p p.next).2, pollCheck ((pollHeard p p.next).1)]).any fun x => !decide (x = 0))) (good_con G1 hr1) ?_
      refine runL_b [0] [(0, I least), (2, I lost), (3, I now), (9, Pt b1 0), (11, I ((k : Int))), (14, Bo (pollGone p)), (16, Pt b2 0), (18, Bo (pollGone ((pollHeard p p.next).1))), (21, Bo false), (38, Bo (((!decide ((pollNew least most lost).2 = 0)) || (decide (now < 0))) || (decide (now > 1000000)))), (54, Bo (decide ((k : Int) < lost))), (100, Bo (!([pollCheck p, (pollHeard p p.next).2, pollCheck ((pollHeard p p.next).1)]).any fun x => !decide (x = 0)))] ?_
      refine runL_b2 (!([pollCheck p, (pollHeard p p.next).2, pollCheck ((pollHeard p p.next).1)]).any fun x => !decide (x = 0)) (fun bb => [(0, I least), (2, I lost), (3, I now), (9, Pt b1 0), (11, I ((k : Int))), (14, Bo (pollGone p)), (16, Pt b2 0), (18, Bo (pollGone ((pollHeard p p.next).1))), (21, Bo false), (38, Bo (((!decide ((pollNew least most lost).2 = 0)) || (decide (now < 0))) || (decide (now > 1000000)))), (54, Bo (decide ((k : Int) < lost))), (100, Bo bb)]) [0,0] [1,0] (fun bb => [(0, I least), (2, I lost), (3, I now), (9, Pt b1 0), (11, I ((k : Int))), (16, Pt b2 0), (18, Bo (pollGone ((pollHeard p p.next).1))), (21, Bo false), (38, Bo (((!decide ((pollNew least most lost).2 = 0)) || (decide (now < 0))) || (decide (now > 1000000)))), (54, Bo (decide ((k : Int) < lost))), (102, Bo (bb && (pollGone p)))]) ?_
      refine runL_b [0] [(0, I least), (2, I lost), (3, I now), (9, Pt b1 0), (11, I ((k : Int))), (16, Pt b2 0), (18, Bo (pollGone ((pollHeard p p.next).1))), (21, Bo false), (38, Bo (((!decide ((pollNew least most lost).2 = 0)) || (decide (now < 0))) || (decide (now > 1000000)))), (54, Bo (decide ((k : Int) < lost))), (103, Bo ((!([pollCheck p, (pollHeard p p.next).2, pollCheck ((pollHeard p p.next).1)]).any fun x => !decide (x = 0)) && (pollGone p)))] ?_
      refine runL_b2 ((!([pollCheck p, (pollHeard p p.next).2, pollCheck ((pollHeard p p.next).1)]).any fun x => !decide (x = 0)) && (pollGone p)) (fun bb => [(0, I least), (2, I lost), (3, I now), (9, Pt b1 0), (11, I ((k : Int))), (16, Pt b2 0), (18, Bo (pollGone ((pollHeard p p.next).1))), (21, Bo false), (38, Bo (((!decide ((pollNew least most lost).2 = 0)) || (decide (now < 0))) || (decide (now > 1000000)))), (54, Bo (decide ((k : Int) < lost))), (103, Bo bb)]) [0,0,0] [1,1,0] (fun bb => [(0, I least), (2, I lost), (3, I now), (9, Pt b1 0), (11, I ((k : Int))), (16, Pt b2 0), (21, Bo false), (38, Bo (((!decide ((pollNew least most lost).2 = 0)) || (decide (now < 0))) || (decide (now > 1000000)))), (54, Bo (decide ((k : Int) < lost))), (106, Bo (bb && (!(pollGone ((pollHeard p p.next).1)))))]) ?_
      refine runL_b [0] [(0, I least), (2, I lost), (3, I now), (9, Pt b1 0), (11, I ((k : Int))), (16, Pt b2 0), (21, Bo false), (38, Bo (((!decide ((pollNew least most lost).2 = 0)) || (decide (now < 0))) || (decide (now > 1000000)))), (54, Bo (decide ((k : Int) < lost))), (107, Bo (((!([pollCheck p, (pollHeard p p.next).2, pollCheck ((pollHeard p p.next).1)]).any fun x => !decide (x = 0)) && (pollGone p)) && (!(pollGone ((pollHeard p p.next).1)))))] ?_
      refine runL_b2 (((!([pollCheck p, (pollHeard p p.next).2, pollCheck ((pollHeard p p.next).1)]).any fun x => !decide (x = 0)) && (pollGone p)) && (!(pollGone ((pollHeard p p.next).1)))) (fun bb => [(0, I least), (2, I lost), (3, I now), (9, Pt b1 0), (11, I ((k : Int))), (16, Pt b2 0), (21, Bo false), (38, Bo (((!decide ((pollNew least most lost).2 = 0)) || (decide (now < 0))) || (decide (now > 1000000)))), (54, Bo (decide ((k : Int) < lost))), (107, Bo bb)]) [0,4,0,0,0] [1,1,1,1,0] (fun bb => [(0, I least), (2, I lost), (3, I now), (9, Pt b1 0), (11, I ((k : Int))), (16, Pt b2 0), (21, Bo false), (38, Bo (((!decide ((pollNew least most lost).2 = 0)) || (decide (now < 0))) || (decide (now > 1000000)))), (54, Bo (decide ((k : Int) < lost))), (112, Bo (bb && (decide (((pollHeard p p.next).1).gap = least))))]) ?_
      refine runL_b [0] [(0, I least), (2, I lost), (3, I now), (8, Bo ((((!([pollCheck p, (pollHeard p p.next).2, pollCheck ((pollHeard p p.next).1)]).any fun x => !decide (x = 0)) && (pollGone p)) && (!(pollGone ((pollHeard p p.next).1)))) && (decide (((pollHeard p p.next).1).gap = least)))), (9, Pt b1 0), (11, I ((k : Int))), (16, Pt b2 0), (21, Bo false), (38, Bo (((!decide ((pollNew least most lost).2 = 0)) || (decide (now < 0))) || (decide (now > 1000000)))), (54, Bo (decide ((k : Int) < lost)))] ?_
      refine runL_nil ?_
      refine tq_then ?_
      refine tc_ret ?_
      refine tq_ret [0] [Bo ((((!([pollCheck p, (pollHeard p p.next).2, pollCheck ((pollHeard p p.next).1)]).any fun x => !decide (x = 0)) && (pollGone p)) && (!(pollGone ((pollHeard p p.next).1)))) && (decide (((pollHeard p p.next).1).gap = least)))] (bp_ret (hl1) ?_)
      first | rfl | (rw [pollNew_err (by assumption)]; rfl) | (exfalso; have := hI.ok; omega) | (exfalso; have hg := (pollGone_iff p).1 (by assumption); have := hI.hlost; have := hI.hasked; omega) | (exfalso; have := (gone_next (t := if now > p.next then now else p.next) hI (by omega) (by split <;> omega) (by omega) (by split <;> omega)).1; omega) | (have ge := gone_end hI (by omega); simp [ge.1, ge.2.1, ge.2.2.1, ge.2.2.2.1, ge.2.2.2.2, hI.ok, packR])
end Go.Proofs.Ytgcnkcajfjpbcaa
