import Derived.Test.YtngoijkcbmchdaaGreatDoorPath
import Derived.Test.YtngoijkcbmchdaaGreatDoorTrim
namespace Go.Proofs.YtngoijkcbmchdaaGreatDoor
open Go.Tx
set_option linter.unusedVariables false
set_option linter.unusedSimpArgs false

def comN : List UInt8 → List UInt8 → Nat
  | a :: p, b :: q => if a = b then comN p q + 1 else 0
  | _, _ => 0
theorem comN_nil (p : List UInt8) : comN p [] = 0 := by cases p <;> rfl
theorem comN_step {p q : List UInt8} {i : Nat} {x y : UInt8} (hx : p[i]? = some x) (hy : q[i]? = some y) (e : x = y) : comN (p.drop i) (q.drop i) = comN (p.drop (i + 1)) (q.drop (i + 1)) + 1 := by
  obtain ⟨h1, e1⟩ := List.getElem?_eq_some_iff.1 hx
  obtain ⟨h2, e2⟩ := List.getElem?_eq_some_iff.1 hy
  rw [List.drop_eq_getElem_cons h1, List.drop_eq_getElem_cons h2, comN, if_pos (by rw [e1, e2, e])]
theorem comN_ne {p q : List UInt8} {i : Nat} {x y : UInt8} (hx : p[i]? = some x) (hy : q[i]? = some y) (e : ¬ x = y) : comN (p.drop i) (q.drop i) = 0 := by
  obtain ⟨h1, e1⟩ := List.getElem?_eq_some_iff.1 hx
  obtain ⟨h2, e2⟩ := List.getElem?_eq_some_iff.1 hy
  rw [List.drop_eq_getElem_cons h1, List.drop_eq_getElem_cons h2, comN, if_neg (by rw [e1, e2]; exact e)]
theorem comN_end {p q : List UInt8} {i : Nat} (h : p.length ≤ i ∨ q.length ≤ i) : comN (p.drop i) (q.drop i) = 0 := by
  rcases h with h | h
  · rw [List.drop_eq_nil_of_le h]; rfl
  · rw [List.drop_eq_nil_of_le h, comN_nil]
theorem comN_le : ∀ (p q : List UInt8), comN p q ≤ p.length ∧ comN p q ≤ q.length
  | a :: p, b :: q => by
    unfold comN
    split
    · have := comN_le p q; simp; omega
    · simp
  | [], q => by simp [comN]
  | a :: p, [] => by simp [comN]
theorem comN_eq : ∀ (p q : List UInt8) (k : Nat), k < comN p q → p[k]? = q[k]?
  | a :: p, b :: q, k, h => by
    unfold comN at h
    split at h
    · rename_i e; subst e
      cases k with
      | zero => rfl
      | succ k => simp only [List.getElem?_cons_succ]; exact comN_eq p q k (by omega)
    · omega
  | [], q, k, h => by simp [comN] at h
  | a :: p, [], k, h => by simp [comN] at h
theorem comN_at : ∀ (p q : List UInt8) (x y : UInt8), p[comN p q]? = some x → q[comN p q]? = some y → ¬ x = y
  | a :: p, b :: q, x, y, hx, hy => by
    unfold comN at hx hy
    split at hx
    · rename_i e
      rw [if_pos e] at hy
      simp only [List.getElem?_cons_succ] at hx hy
      exact comN_at p q x y hx hy
    · rename_i e
      rw [if_neg e] at hy
      simp at hx hy
      subst hx hy; exact e
  | [], q, x, y, hx, hy => by simp at hx
  | a :: p, [], x, y, hx, hy => by simp at hy
theorem comN_all {p q : List UInt8} (hl : p.length = q.length) : comN p q = p.length ↔ p = q := by
  constructor
  · intro h
    refine List.ext_getElem? fun k => ?_
    by_cases hk : k < comN p q
    · exact comN_eq p q k hk
    · rw [List.getElem?_eq_none (by omega), List.getElem?_eq_none (by omega)]
  · intro h
    subst h
    apply Classical.byContradiction
    intro hc
    have := (comN_le p p).1
    have hx : p[comN p p]? = some (p[comN p p]'(by omega)) := List.getElem?_eq_getElem (by omega)
    exact comN_at p p _ _ hx hx rfl
def bitAt (p : List UInt8) (k : Int) : Int × Int := if ¬ ((p.length : Nat) : Int) = 16 ∨ ¬ trimS p = [] then (0, 3) else if k < 0 ∨ 16 ≤ k then (0, 4) else (((p[k.toNat]?.getD 48).toNat : Int) - 48, 0)
theorem isB_bd {b : UInt8} (h : isB b = true) : 48 ≤ b.toNat ∧ b.toNat ≤ 49 := by
  unfold isB at h
  simp only [Bool.or_eq_true, beq_iff_eq] at h
  rcases h with rfl | rfl <;> decide
theorem bitAt_bd {p : List UInt8} {k : Nat} {y : UInt8} (h1 : trimS p = []) (hy : p[k]? = some y) : 48 ≤ y.toNat ∧ y.toNat ≤ 49 := isB_bd (trimS_nil.1 h1 y (List.mem_of_getElem? hy))
theorem bitAt_of {p : List UInt8} {k : Nat} {y : UInt8} (h0 : p.length = 16) (h1 : trimS p = []) (hy : p[k]? = some y) : bitAt p k = ((y.toNat : Int) - 48, 0) := by
  have hk := (List.getElem?_eq_some_iff.1 hy).1
  unfold bitAt
  rw [if_neg (by rw [h1]; simp; omega), if_neg (by omega), Int.toNat_natCast, hy]; rfl
theorem pathBits_B (name : List UInt8) : ∀ b ∈ pathBits name, isB b = true := by
  intro b hb
  unfold pathBits at hb
  obtain ⟨n, hn, rfl⟩ := List.mem_map.1 hb
  have : n = 48 ∨ n = 49 := by
    simp only [List.mem_cons, List.not_mem_nil, or_false] at hn
    have key : ∀ k, pbit (markOf name) k = 48 ∨ pbit (markOf name) k = 49 := fun k => by unfold pbit; omega
    rcases hn with rfl | rfl | rfl | rfl | rfl | rfl | rfl | rfl | rfl | rfl | rfl | rfl | rfl | rfl | rfl | rfl <;> exact key _
  rcases this with rfl | rfl <;> decide
theorem pathBits_trim (name : List UInt8) : trimS (pathBits name) = [] := trimS_nil.2 (pathBits_B name)
theorem pathOf_ok {a : List UInt8} (h : (pathOf a).2 = 0) : (pathOf a).1 = pathBits a := by
  unfold pathOf at h ⊢; split at h
  · cases h
  · rename_i h1; rw [if_neg h1]
theorem pathOf_or (a : List UInt8) : (pathOf a).2 = 0 ∨ (pathOf a).1 = [] := by
  unfold pathOf; split
  · exact .inr rfl
  · exact .inl rfl
theorem bits_at {a b : List UInt8} (ha : (pathOf a).2 = 0) (hb : (pathOf b).2 = 0) {k : Nat} (hk : k < 16) : (bitAt (pathOf a).1 k).2 = 0 ∧ (bitAt (pathOf b).1 k).2 = 0 ∧
    ((k : Int) < ((comN (pathOf a).1 (pathOf b).1 : Nat) : Int) → (bitAt (pathOf a).1 k).1 = (bitAt (pathOf b).1 k).1) ∧ ((k : Int) = ((comN (pathOf a).1 (pathOf b).1 : Nat) : Int) → ¬ (bitAt (pathOf a).1 k).1 = (bitAt (pathOf b).1 k).1) := by
  rw [pathOf_ok ha, pathOf_ok hb]
  have hx : (pathBits a)[k]? = some ((pathBits a)[k]'(by rw [pathBits_len]; exact hk)) := List.getElem?_eq_getElem _
  have hy : (pathBits b)[k]? = some ((pathBits b)[k]'(by rw [pathBits_len]; exact hk)) := List.getElem?_eq_getElem _
  generalize (pathBits a)[k]'(by rw [pathBits_len]; exact hk) = x at hx
  generalize (pathBits b)[k]'(by rw [pathBits_len]; exact hk) = y at hy
  rw [bitAt_of (pathBits_len a) (pathBits_trim a) hx, bitAt_of (pathBits_len b) (pathBits_trim b) hy]
  refine ⟨rfl, rfl, fun h => ?_, fun h => ?_⟩
  · have := comN_eq _ _ k (by omega : k < comN (pathBits a) (pathBits b))
    rw [hx, hy] at this; rw [Option.some.inj this]
  · have hk : k = comN (pathBits a) (pathBits b) := by omega
    rw [hk] at hx hy
    have hne := comN_at _ _ x y hx hy
    intro hc
    apply hne
    apply UInt8.toNat_inj.1
    simp only at hc
    omega
theorem good2 {x y : Int} (h : ([x, y].any fun x0 => !decide (x0 = 0)) = false) : x = 0 ∧ y = 0 := by simpa using h
theorem bits_end {a b : List UInt8} (ha : (pathOf a).2 = 0) (hb : (pathOf b).2 = 0) : (decide (((comN (pathOf a).1 (pathOf b).1 : Nat) : Int) ≥ 0) && decide (((comN (pathOf a).1 (pathOf b).1 : Nat) : Int) ≤ 16) && (decide (((comN (pathOf a).1 (pathOf b).1 : Nat) : Int) = 16) == ((pathOf a).1 == (pathOf b).1))) = true := by
  have h := comN_le (pathOf a).1 (pathOf b).1
  rw [pathOf_ok ha, pathOf_ok hb] at h ⊢
  rw [pathBits_len] at h
  have e := comN_all (p := pathBits a) (q := pathBits b) (by rw [pathBits_len, pathBits_len])
  rw [pathBits_len] at e
  have e2 : decide (((comN (pathBits a) (pathBits b) : Nat) : Int) = 16) = (pathBits a == pathBits b) := by
    rw [Bool.eq_iff_iff, decide_eq_true_eq, beq_iff_eq, ← e]; omega
  rw [e2]
  simp; omega


end Go.Proofs.YtngoijkcbmchdaaGreatDoor
