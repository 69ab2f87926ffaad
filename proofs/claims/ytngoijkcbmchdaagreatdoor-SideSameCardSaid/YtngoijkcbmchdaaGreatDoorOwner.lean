import Derived.Test.YtngoijkcbmchdaaGreatDoorHeadN
namespace Go.Proofs.YtngoijkcbmchdaaGreatDoor
open Go.Tx
set_option linter.unusedVariables false
set_option linter.unusedSimpArgs false

def ownerZ : OwnerD := ⟨[], 0, headZ, [], 0⟩
def ownerLong (s : List UInt8) : Bool := decide (s.length > 20)
def ownerCheck (o : OwnerD) : Int := if pathName o.name = false then 3 else if headCheck o.head ≠ 0 then headCheck o.head else if 30 < (o.wanted.length : Int) ∨ (o.wanted.any fun x0 => ownerLong x0) = true then 2 else if o.had < 0 ∨ (o.wanted.length : Int) < o.had then 4 else 0
def ownerNew (name : List UInt8) (key : Int) (h : HeadD) : OwnerD × Int := if ownerCheck ⟨name, key, h, [], 0⟩ ≠ 0 then (ownerZ, ownerCheck ⟨name, key, h, [], 0⟩) else (⟨name, key, h, [], 0⟩, 0)
def ownerWantE (o : OwnerD) (v : List UInt8) : Int := if ownerCheck o ≠ 0 then ownerCheck o else if ownerLong v = true then 2 else if (o.wanted.length : Int) = 30 then 7 else 0
def ownerWant (o : OwnerD) (v : List UInt8) : OwnerD × AskD × Int := if ownerWantE o v ≠ 0 then (ownerZ, askZ, ownerWantE o v) else (⟨o.name, o.key, o.head, o.wanted ++ [v], o.had⟩, (tagAsk o.key o.name v o.wanted.length).1, 0)
theorem ownerCheck_iff {o : OwnerD} : ownerCheck o = 0 ↔ pathName o.name = true ∧ headCheck o.head = 0 ∧ o.wanted.length ≤ 30 ∧ (∀ s ∈ o.wanted, s.length ≤ 20) ∧ 0 ≤ o.had ∧ o.had ≤ o.wanted.length := by
  unfold ownerCheck
  have e : (o.wanted.any fun x0 => ownerLong x0) = true ↔ ¬ ∀ s ∈ o.wanted, s.length ≤ 20 := by
    rw [List.any_eq_true]
    unfold ownerLong
    constructor
    · rintro ⟨x, hx, h⟩ hc
      have := hc x hx
      simp at h; omega
    · intro h
      apply Classical.byContradiction
      intro hc
      refine h fun s hs => ?_
      apply Classical.byContradiction
      intro h2
      exact hc ⟨s, hs, by simp; omega⟩
  cases hn : pathName o.name with
  | false => simp
  | true =>
    rw [if_neg (by simp)]
    by_cases h1 : headCheck o.head = 0
    · rw [if_neg (by omega)]
      by_cases h2 : 30 < (o.wanted.length : Int) ∨ (o.wanted.any fun x0 => ownerLong x0) = true
      · rw [if_pos h2]
        constructor
        · intro h; cases h
        · rintro ⟨_, _, h3, h4, _⟩
          rcases h2 with h2 | h2
          · omega
          · exact absurd h4 (e.1 h2)
      · rw [if_neg h2]
        have h3 : o.wanted.length ≤ 30 := Nat.le_of_not_lt fun h => h2 (.inl (by omega))
        have h4 : ∀ s ∈ o.wanted, s.length ≤ 20 := Decidable.not_not.1 fun h => h2 (.inr (e.2 h))
        split
        · constructor
          · intro h; cases h
          · rintro ⟨_, _, _, _, _, _⟩; omega
        · exact ⟨fun _ => ⟨rfl, h1, h3, h4, by omega, by omega⟩, fun _ => rfl⟩
    · rw [if_pos h1]
      exact ⟨fun h => absurd h h1, fun h => absurd h.2.1 h1⟩
theorem ownerWant_ok {o : OwnerD} {v : List UInt8} (h : (ownerWant o v).2.2 = 0) : ownerCheck o = 0 ∧ v.length ≤ 20 ∧ o.wanted.length < 30 ∧ ownerWant o v = (⟨o.name, o.key, o.head, o.wanted ++ [v], o.had⟩, ⟨o.name, v, o.wanted.length, tagOf o.key (tagSaid o.name v o.wanted.length)⟩, 0) ∧ ownerCheck (ownerWant o v).1 = 0 ∧ tagHolds o.key (ownerWant o v).2.1 = true ∧ (ownerWant o v).1.key = o.key ∧ (ownerWant o v).2.1.n = o.wanted.length ∧ (ownerWant o v).1.wanted.length = o.wanted.length + 1 := by
  have key : ownerCheck o = 0 ∧ ownerLong v = false ∧ ¬ (o.wanted.length : Int) = 30 := by
    unfold ownerWant at h
    split at h
    · contradiction
    · rename_i h1
      unfold ownerWantE at h1
      by_cases e1 : ownerCheck o = 0
      · rw [if_neg (by omega)] at h1
        by_cases e2 : ownerLong v = true
        · rw [if_pos e2] at h1; omega
        · rw [if_neg e2] at h1
          by_cases e3 : (o.wanted.length : Int) = 30
          · rw [if_pos e3] at h1; omega
          · exact ⟨e1, by simpa using e2, e3⟩
      · rw [if_pos e1] at h1; omega
  obtain ⟨e1, e2, e3⟩ := key
  have hi := ownerCheck_iff.1 e1
  have hv : v.length ≤ 20 := by unfold ownerLong at e2; simp at e2; omega
  have hE : ownerWantE o v = 0 := by unfold ownerWantE; rw [if_neg (by omega), if_neg (by rw [e2]; simp), if_neg e3]
  have hr : askRight o.name v = 0 := by unfold askRight; rw [if_neg (by rw [hi.1]; simp), if_neg (by omega)]
  have ht : tagAsk o.key o.name v o.wanted.length = (⟨o.name, v, o.wanted.length, tagOf o.key (tagSaid o.name v o.wanted.length)⟩, 0) := by unfold tagAsk; rw [if_neg (by omega)]
  have hw : ownerWant o v = (⟨o.name, o.key, o.head, o.wanted ++ [v], o.had⟩, ⟨o.name, v, o.wanted.length, tagOf o.key (tagSaid o.name v o.wanted.length)⟩, 0) := by
    unfold ownerWant; rw [if_neg (by omega), ht]
  refine ⟨e1, hv, by omega, hw, ?_, ?_, ?_, ?_, ?_⟩ <;> rw [hw] <;> simp only
  · rw [ownerCheck_iff]
    refine ⟨hi.1, hi.2.1, by simp; omega, fun s hs => ?_, hi.2.2.2.2.1, by simp; omega⟩
    rcases List.mem_append.1 hs with hs | hs
    · exact hi.2.2.2.1 s hs
    · rw [List.mem_singleton.1 hs]; exact hv
  · unfold tagHolds; simp [hr]
  · simp
theorem ownerWant_err {o : OwnerD} {v : List UInt8} (h : ¬ (ownerWant o v).2.2 = 0) : (ownerWant o v).1 = ownerZ ∧ (ownerWant o v).2.1 = askZ := by
  revert h; unfold ownerWant; split <;> simp


end Go.Proofs.YtngoijkcbmchdaaGreatDoor
