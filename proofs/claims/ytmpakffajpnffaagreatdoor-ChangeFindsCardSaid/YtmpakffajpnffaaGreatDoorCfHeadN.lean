import Derived.Test.YtmpakffajpnffaaGreatDoorCfHead
import Derived.Test.YtmpakffajpnffaaGreatDoorCfMark
import Derived.Test.YtmpakffajpnffaaGreatDoorCfQueue
namespace Go.Proofs.YtmpakffajpnffaaGreatDoor
open Go.Tx
set_option linter.unusedVariables false
set_option linter.unusedSimpArgs false
def headMark (h : HeadD) : Int × Int := if (headSaid h).2 ≠ 0 then (0, (headSaid h).2) else (markOf (headSaid h).1, 0)
def headNextE (h : HeadD) (root at_ : Int) : Int := if headCheck h ≠ 0 then headCheck h else if h.epoch = 1000000 then 7 else if at_ < h.at_ then 4 else headCheck ⟨h.epoch + 1, root, (headMark h).1, at_⟩
def headNext (h : HeadD) (root at_ : Int) : HeadD × Int := if headNextE h root at_ ≠ 0 then (headZ, headNextE h root at_) else (⟨h.epoch + 1, root, (headMark h).1, at_⟩, 0)
theorem headSaid_ok {h : HeadD} (e : headCheck h = 0) : headSaid h = (headText h, 0) := by unfold headSaid; rw [if_neg (by omega)]
theorem headMark_ok {h : HeadD} (e : headCheck h = 0) : headMark h = (markOf (headText h), 0) := by
  unfold headMark; rw [headSaid_ok e]; simp
theorem headNext_ok {h : HeadD} {root at_ : Int} (e : (headNext h root at_).2 = 0) : headCheck h = 0 ∧ h.epoch < 1000000 ∧ h.at_ ≤ at_ ∧ headNext h root at_ = (⟨h.epoch + 1, root, markOf (headText h), at_⟩, 0) ∧ headCheck ⟨h.epoch + 1, root, markOf (headText h), at_⟩ = 0 := by
  unfold headNext at e ⊢
  split at e
  · contradiction
  · rename_i h1
    rw [if_neg h1]
    unfold headNextE at h1
    by_cases e1 : headCheck h = 0
    · rw [if_neg (by omega)] at h1
      have hb := headCheck_ok e1
      have hm := headMark_ok e1
      rw [hm] at h1 ⊢
      by_cases e2 : h.epoch = 1000000
      · rw [if_pos e2] at h1; simp at h1
      · rw [if_neg e2] at h1
        by_cases e3 : at_ < h.at_
        · rw [if_pos e3] at h1; simp at h1
        · rw [if_neg e3] at h1
          exact ⟨e1, by omega, by omega, rfl, by simpa using h1⟩
    · rw [if_pos e1] at h1; omega
theorem wPut_len2 (l : List (List UInt8)) : (wPut l).1.length ≤ 600 := by
  unfold wPut
  split
  · simp
  · split
    · rename_i h
      have : ∀ (l : List (List UInt8)) (n : Nat), n ≤ 600 → putOk n l = true → n + (putT l).length ≤ 600 := by
        intro l
        induction l with
        | nil => intro n h _; simp [putT]; exact h
        | cons p l ih =>
          intro n _ h
          unfold putOk at h
          simp only [Bool.and_eq_true, decide_eq_true_eq] at h
          have := ih _ h.1 h.2
          have e : (putT (p :: l)).length = 2 + p.length + (putT l).length := by simp [putT, putC]; omega
          omega
      have := this l 0 (by omega) h
      simp only; omega
    · simp
end Go.Proofs.YtmpakffajpnffaaGreatDoor
