import Derived.Test.YtngoijkcbmchdaaGreatDoorHead
import Derived.Test.YtngoijkcbmchdaaGreatDoorMark
import Derived.Test.YtngoijkcbmchdaaGreatDoorQueue
namespace Go.Proofs.YtngoijkcbmchdaaGreatDoor
open Go.Tx
set_option linter.unusedVariables false
set_option linter.unusedSimpArgs false

theorem le48 {n : Nat} (h : n ≤ 140737488351232) : n ≤ 140737488355328 := by omega
theorem headSaid_len (h : HeadD) : (headSaid h).1.length ≤ 33 := by
  unfold headSaid; split
  · simp
  · rw [headText_length]; exact Nat.le_refl _
theorem numB_len (n : Int) : (numB n).length = 8 := numB_length n
def headMark (h : HeadD) : Int × Int := if (headSaid h).2 ≠ 0 then (0, (headSaid h).2) else (markOf (headSaid h).1, 0)
def headNextE (h : HeadD) (root at_ : Int) : Int := if headCheck h ≠ 0 then headCheck h else if h.epoch = 1000000 then 7 else if at_ < h.at_ then 4 else headCheck ⟨h.epoch + 1, root, (headMark h).1, at_⟩
def headNext (h : HeadD) (root at_ : Int) : HeadD × Int := if headNextE h root at_ ≠ 0 then (headZ, headNextE h root at_) else (⟨h.epoch + 1, root, (headMark h).1, at_⟩, 0)
theorem headSaid_err (h : HeadD) : (headSaid h).2 = headCheck h := by unfold headSaid; split <;> simp_all
theorem headMark_err (h : HeadD) : (headMark h).2 = headCheck h := by unfold headMark; rw [headSaid_err]; split <;> simp_all
theorem headMark_bd (h : HeadD) : 0 ≤ (headMark h).1 ∧ (headMark h).1 < 2305843009213693951 := by
  unfold headMark; split
  · simp
  · exact markOf_bd _
theorem headSaid_ok {h : HeadD} (e : headCheck h = 0) : headSaid h = (headText h, 0) := by unfold headSaid; rw [if_neg (by omega)]
theorem headMark_ok {h : HeadD} (e : headCheck h = 0) : headMark h = (markOf (headText h), 0) := by
  unfold headMark; rw [headSaid_ok e]; simp
theorem headNext_ok {h : HeadD} {root at_ : Int} (e : (headNext h root at_).2 = 0) : headCheck h = 0 ∧ h.epoch < 1000000 ∧ h.at_ ≤ at_ ∧ headNext h root at_ = (⟨h.epoch + 1, root, markOf (headText h), at_⟩, 0) ∧ headCheck ⟨h.epoch + 1, root, markOf (headText h), at_⟩ = 0 := by
  unfold headNext at e ⊢
  split at e
  · contradiction
  · rename_i h1
    rw [if_neg h1]
    unfold headNextE at h1
    by_cases e1 : headCheck h = 0
    · rw [if_neg (by omega)] at h1
      have hb := headCheck_ok e1
      have hm := headMark_ok e1
      rw [hm] at h1 ⊢
      by_cases e2 : h.epoch = 1000000
      · rw [if_pos e2] at h1; simp at h1
      · rw [if_neg e2] at h1
        by_cases e3 : at_ < h.at_
        · rw [if_pos e3] at h1; simp at h1
        · rw [if_neg e3] at h1
          exact ⟨e1, by omega, by omega, rfl, by simpa using h1⟩
    · rw [if_pos e1] at h1; omega
theorem headNext_err {h : HeadD} {root at_ : Int} (e : ¬ (headNext h root at_).2 = 0) : (headNext h root at_).1 = headZ := by
  revert e; unfold headNext; split <;> simp
theorem headText_inj {x y : HeadD} (hx : HeadW x) (hy : HeadW y) (ex : headCheck x = 0) (ey : headCheck y = 0) (h : headText x = headText y) : x = y := by
  have h1 := headRead_text hx ex
  have h2 := headRead_text hy ey
  rw [h, h2] at h1
  exact (Prod.mk.inj h1).1.symm
theorem headNext_law {h o : HeadD} {root at_ : Int} (hh : HeadW h) (ho : HeadW o) (e1 : (headNext h root at_).2 = 0) (e2 : (headNext o root at_).2 = 0) (e3 : (headNext h root at_).1 = (headNext o root at_).1) (e4 : ¬ h = o) :
    (headSaid h).2 = 0 ∧ (headSaid o).2 = 0 ∧ ¬ (headSaid h).1 = (headSaid o).1 ∧ markOf (headSaid h).1 = markOf (headSaid o).1 := by
  obtain ⟨a1, _, _, a4, _⟩ := headNext_ok e1
  obtain ⟨b1, _, _, b4, _⟩ := headNext_ok e2
  rw [a4, b4] at e3
  have : markOf (headText h) = markOf (headText o) := by
    have := congrArg HeadD.prev e3
    simpa using this
  rw [headSaid_ok a1, headSaid_ok b1]
  exact ⟨rfl, rfl, fun hc => e4 (headText_inj hh ho a1 b1 hc), this⟩
def askZ : AskD := ⟨[], [], 0, 0⟩
def tagOf (key : Int) (s : List UInt8) : Int := markOf ((numB key ++ s) ++ numB key)
theorem tagOf_bd (k : Int) (s : List UInt8) : 0 ≤ tagOf k s ∧ tagOf k s < 18446744073709551616 := by have := markOf_bd ((numB k ++ s) ++ numB k); unfold tagOf; omega
def tagSaid (name value : List UInt8) (n : Int) : List UInt8 := numB n ++ (wPut [name, value]).1
def tagRight (key : Int) (s : List UInt8) (t : Int) : Bool := decide (tagOf key s = t)
def tagAsk (key : Int) (name value : List UInt8) (n : Int) : AskD × Int := if askRight name value ≠ 0 then (askZ, askRight name value) else (⟨name, value, n, tagOf key (tagSaid name value n)⟩, 0)
def tagHolds (key : Int) (a : AskD) : Bool := decide (askRight a.name a.value = 0) && decide (tagOf key (tagSaid a.name a.value a.n) = a.tag)
theorem wPut_len2 (l : List (List UInt8)) : (wPut l).1.length ≤ 600 := by
  unfold wPut
  split
  · simp
  · split
    · rename_i h
      have : ∀ (l : List (List UInt8)) (n : Nat), n ≤ 600 → putOk n l = true → n + (putT l).length ≤ 600 := by
        intro l
        induction l with
        | nil => intro n h _; simp [putT]; exact h
        | cons p l ih =>
          intro n _ h
          unfold putOk at h
          simp only [Bool.and_eq_true, decide_eq_true_eq] at h
          have := ih _ h.1 h.2
          have e : (putT (p :: l)).length = 2 + p.length + (putT l).length := by simp [putT, putC]; omega
          omega
      have := this l 0 (by omega) h
      simp only; omega
    · simp
theorem tagSaid_len (a b : List UInt8) (n : Int) : (tagSaid a b n).length ≤ 608 := by
  unfold tagSaid; rw [List.length_append, numB_len]; have := wPut_len2 [a, b]; omega
theorem tagAsk_ok {key : Int} {name value : List UInt8} {n : Int} (h : (tagAsk key name value n).2 = 0) : tagHolds key (tagAsk key name value n).1 = true ∧ (tagAsk key name value n).1.name = name ∧ (tagAsk key name value n).1.value = value ∧ (tagAsk key name value n).1.n = n := by
  unfold tagAsk at h ⊢
  split at h
  · contradiction
  · rename_i h1
    rw [if_neg h1]
    unfold tagHolds
    simp only [Bool.and_eq_true, decide_eq_true_eq, and_self, and_true]
    omega
theorem tagAsk_err {key : Int} {name value : List UInt8} {n : Int} (h : ¬ (tagAsk key name value n).2 = 0) : (tagAsk key name value n).1 = askZ := by
  revert h; unfold tagAsk; split <;> simp
theorem tagBinds_law {key : Int} {s t : List UInt8} {x : Int} (e1 : tagRight key s x = true) (e2 : tagRight key t x = true) (h : ¬ s = t) :
    (!((numB key ++ s) ++ numB key == (numB key ++ t) ++ numB key) && decide (markOf ((numB key ++ s) ++ numB key) = markOf ((numB key ++ t) ++ numB key))) = true := by
  unfold tagRight tagOf at e1 e2
  simp only [decide_eq_true_eq] at e1 e2
  rw [e1, e2]
  simp [h]


end Go.Proofs.YtngoijkcbmchdaaGreatDoor
