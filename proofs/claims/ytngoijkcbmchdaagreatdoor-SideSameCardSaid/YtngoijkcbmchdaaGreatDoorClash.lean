import Derived.Test.YtngoijkcbmchdaaGreatDoorLeaf
namespace Go.Proofs.YtngoijkcbmchdaaGreatDoor
open Go.Tx
set_option linter.unusedVariables false
set_option linter.unusedSimpArgs false

def alikeB (s t : List UInt8) : Bool := !(s == t) && decide (markOf s = markOf t)
def tGo (a b : List (List UInt8)) : Nat → List UInt8 × List UInt8 × Int
  | 0 => ([], [], 5)
  | i + 1 => if a[i]? = b[i]? then tGo a b i else if alikeB (a[i]?.getD []) (b[i]?.getD []) = true then (a[i]?.getD [], b[i]?.getD [], 0) else ([], [], 5)
def lastT (a : List (List UInt8)) : List UInt8 := a[a.length - 1]?.getD []
theorem lastT_get {a : List (List UInt8)} {k : Nat} {x : List UInt8} (hk : k = a.length - 1) (h : a[k]? = some x) : x = lastT a := by unfold lastT; rw [← hk, h]; rfl
def clashTexts (a b : List (List UInt8)) : List UInt8 × List UInt8 × Int := if (a.length : Int) = 0 ∨ ¬ (a.length : Int) = b.length then ([], [], 3) else if ¬ markOf (lastT a) = markOf (lastT b) then ([], [], 8) else tGo a b a.length
theorem tGo_skip {a b : List (List UInt8)} {k : Nat} {x y : List UInt8} (hx : a[k]? = some x) (hy : b[k]? = some y) (h : x = y) : tGo a b (k + 1) = tGo a b k := by
  show (if _ then _ else _) = _
  rw [if_pos (by rw [hx, hy, h])]
theorem tGo_at {a b : List (List UInt8)} {k : Nat} {x y : List UInt8} (hx : a[k]? = some x) (hy : b[k]? = some y) (h : ¬ x = y) : tGo a b (k + 1) = if alikeB x y = true then (x, y, 0) else ([], [], 5) := by
  show (if _ then _ else _) = _
  rw [if_neg (by rw [hx, hy]; simpa using h), hx, hy]; rfl
theorem tGo_ok (a b : List (List UInt8)) : ∀ k, ((tGo a b k).2.2 = 0 → alikeB (tGo a b k).1 (tGo a b k).2.1 = true) ∧ (¬ (tGo a b k).2.2 = 0 → (tGo a b k).1 = [] ∧ (tGo a b k).2.1 = [])
  | 0 => by simp [tGo]
  | k + 1 => by
    have ih := tGo_ok a b k
    unfold tGo
    split
    · exact ih
    split
    · rename_i h; simp [h]
    · simp
def isClash (s t : List UInt8) (e : Int) : Bool := if e = 0 then alikeB s t else decide (s = []) && decide (t = [])
theorem texts_ok (a b : List (List UInt8)) : isClash (clashTexts a b).1 (clashTexts a b).2.1 (clashTexts a b).2.2 = true := by
  unfold clashTexts
  split
  · rfl
  split
  · rfl
  · have := tGo_ok a b a.length
    unfold isClash
    by_cases h : (tGo a b a.length).2.2 = 0
    · rw [if_pos h]; exact this.1 h
    · rw [if_neg h]; simp [this.2 h]
def clashProofs (p q : ProofD) : List UInt8 × List UInt8 × Int := if (proofSaid p).2 ≠ 0 then ([], [], (proofSaid p).2) else if (proofSaid q).2 ≠ 0 then ([], [], (proofSaid q).2) else if ¬ p.name = q.name then ([], [], 3) else clashTexts (proofSaid p).1 (proofSaid q).1
theorem proofs_ok (p q : ProofD) : isClash (clashProofs p q).1 (clashProofs p q).2.1 (clashProofs p q).2.2 = true := by
  unfold clashProofs
  split
  · rename_i h; unfold isClash; rw [if_neg h]; rfl
  split
  · rename_i h; unfold isClash; rw [if_neg h]; rfl
  split
  · rfl
  · exact texts_ok _ _


end Go.Proofs.YtngoijkcbmchdaaGreatDoor
