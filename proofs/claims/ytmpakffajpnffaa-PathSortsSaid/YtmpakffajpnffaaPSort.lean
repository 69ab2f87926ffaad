import Derived.Test.YtmpakffajpnffaaPath
import Derived.Test.YtmpakffajpnffaaSort
namespace Go.Proofs.Ytmpakffajpnffaa
open Go.Tx
set_option linter.unusedVariables false
set_option linter.unusedSimpArgs false

open Go.Tx Go.Proofs Go.Shelf
def ordP (a b : List UInt8) : Int := orI [cmpS (pathBits a) (pathBits b), cmpS a b]
theorem ordP_eq (a b : List UInt8) : ordP a b = if cmpS (pathBits a) (pathBits b) = 0 then cmpS a b else cmpS (pathBits a) (pathBits b) := by
  by_cases h : cmpS (pathBits a) (pathBits b) = 0 <;> by_cases h2 : cmpS a b = 0 <;> simp [ordP, orI, h, h2]
theorem ordP_zero {a b : List UInt8} : ordP a b = 0 ↔ a = b := by
  rw [ordP_eq]
  split
  · exact cmpS_zero
  · rename_i h
    constructor
    · intro hc; exact absurd hc h
    · rintro rfl; exact absurd (cmpS_zero.2 rfl) h
theorem ordP_lt {a b : List UInt8} : ordP a b < 0 ↔ Go.Op.bytesLess (pathBits a) (pathBits b) = true ∨ (pathBits a = pathBits b ∧ Go.Op.bytesLess a b = true) := by
  rw [ordP_eq]
  split
  · rename_i h
    rw [cmpS_lt]
    have e := cmpS_zero.1 h
    rw [e, bl_irr]; simp
  · rename_i h
    rw [cmpS_lt]
    constructor
    · exact .inl
    · rintro (h1 | ⟨h1, _⟩)
      · exact h1
      · exact absurd (cmpS_zero.2 h1) h
theorem ordP_gt {a b : List UInt8} : 0 < ordP a b ↔ ordP b a < 0 := by
  rw [ordP_eq, ordP_lt]
  split
  · rename_i h
    rw [cmpS_gt]
    have e := cmpS_zero.1 h
    rw [e, bl_irr]; simp
  · rename_i h
    rw [cmpS_gt]
    constructor
    · exact .inl
    · rintro (h1 | ⟨h1, _⟩)
      · exact h1
      · exact absurd (cmpS_zero.2 h1.symm) h
theorem ordP_trans {a b c : List UInt8} (h1 : ordP a b < 0) (h2 : ordP b c < 0) : ordP a c < 0 := by
  rw [ordP_lt] at *
  rcases h1 with h1 | ⟨e1, h1⟩ <;> rcases h2 with h2 | ⟨e2, h2⟩
  · exact .inl (bl_trans h1 h2)
  · exact .inl (e2 ▸ h1)
  · exact .inl (e1 ▸ h2)
  · exact .inr ⟨e1.trans e2, bl_trans h1 h2⟩

theorem ordP_swo : Go.Sort.SWO (ltOf ordP) where
  irrefl x := by unfold ltOf; rw [ordP_zero.2 rfl]; rfl
  trans x y z h1 h2 := by unfold ltOf at *; simp only [decide_eq_true_eq] at *; exact ordP_trans h1 h2
  ntrans x y z h1 h2 := by
    unfold ltOf at *
    simp only [decide_eq_false_iff_not] at *
    intro h3
    by_cases e : ordP x y = 0
    · have := ordP_zero.1 e; subst this; exact h2 h3
    · have h4 : ordP y x < 0 := ordP_gt.1 (by omega)
      exact h2 (ordP_trans h4 h3)
theorem ordP_total (x y : List UInt8) (h1 : ltOf ordP x y = false) (h2 : ltOf ordP y x = false) : x = y := by
  unfold ltOf at *
  simp only [decide_eq_false_iff_not] at *
  by_cases e : ordP x y = 0
  · exact ordP_zero.1 e
  · exact absurd (ordP_gt.1 (by omega)) h2
/-- Sorted names, each once. -/
def sortedP (l : List (List UInt8)) : List (List UInt8) := Lib.compact (sortL ordP l)
def sortNames (l : List (List UInt8)) : List (List UInt8) × Int := if (l.any fun s => !pathName s) = true then ([], 3) else (sortedP l, 0)
theorem sortedP_len (l : List (List UInt8)) : (sortedP l).length ≤ l.length := by
  have h := sortL_len ordP l
  unfold sortedP
  rw [← h]
  generalize sortL ordP l = m
  unfold Lib.compact Lib.compactUpTo
  rw [List.length_map]
  exact Nat.le_trans (List.length_filter_le _ _) (by simp)
theorem sortL_le (l : List (List UInt8)) : (sortL ordP l).Pairwise fun x y => ¬ ordP y x < 0 := by
  have h := List.pairwise_mergeSort (le := fun x y => !decide (ordP y x < 0)) (fun a b c h1 h2 => by
    simp only [Bool.not_eq_true', decide_eq_false_iff_not] at *
    intro h3
    have := ordP_swo.ntrans c b a (by unfold ltOf; simp only [decide_eq_false_iff_not]; exact h2) (by unfold ltOf; simp only [decide_eq_false_iff_not]; exact h1)
    unfold ltOf at this; simp only [decide_eq_false_iff_not] at this
    exact this h3) (fun a b => by
    simp only [Bool.or_eq_true, Bool.not_eq_true', decide_eq_false_iff_not]
    by_cases h : ordP b a < 0
    · refine .inr fun h2 => ?_
      have := ordP_trans h h2; rw [ordP_zero.2 rfl] at this; omega
    · exact .inl h) l
  exact h.imp fun h => by simpa using h
theorem compact_strict {m : List (List UInt8)} (h : m.Pairwise fun x y => ¬ ordP y x < 0) : (Lib.compact m).Pairwise fun x y => ordP x y < 0 := by
  unfold Lib.compact Lib.compactUpTo
  rw [List.pairwise_map, List.pairwise_filter]
  refine List.Pairwise.imp_of_mem ?_ List.pairwise_lt_range
  intro i j hi hj hij ki kj
  have hi' := List.mem_range.1 hi; have hj' := List.mem_range.1 hj
  simp only [Lib.keeps, decide_eq_true_eq] at kj
  rcases kj with rfl | kj
  · omega
  have g : ∀ k, k < m.length → m.toArray[k]! = m[k]?.getD [] := fun k hk => by
    rw [getElem!_pos m.toArray k (by simpa using hk)]; simp [hk]
  have le : ∀ p q, p < q → q < m.length → ¬ ordP m.toArray[q]! m.toArray[p]! < 0 := fun p q hpq hq => by
    have := (List.pairwise_iff_getElem.1 h) p q (by omega) hq hpq
    rw [g p (by omega), g q hq, List.getElem?_eq_getElem hq, List.getElem?_eq_getElem (by omega)]; exact this
  have h1 : ordP m.toArray[j - 1]! m.toArray[j]! < 0 := by
    have q1 := le (j - 1) j (by omega) hj'
    have q2 : ordP m.toArray[j]! m.toArray[j - 1]! ≠ 0 := fun e => kj (ordP_zero.1 e)
    exact ordP_gt.1 (by omega)
  by_cases e : i = j - 1
  · rw [e]; exact h1
  · have q1 := le i (j - 1) (by omega) (by omega)
    by_cases q2 : ordP m.toArray[j - 1]! m.toArray[i]! = 0
    · rw [← ordP_zero.1 q2]; exact h1
    · exact ordP_trans (ordP_gt.1 (by omega)) h1
theorem mem_compact2 {m : List (List UInt8)} {x : List UInt8} (h : x ∈ m) : x ∈ Lib.compact m := by
  obtain ⟨k, hk, rfl⟩ := List.mem_iff_getElem.1 h
  have key : ∀ k, k < m.length → m.toArray[k]! ∈ Lib.compact m := by
    intro k
    induction k with
    | zero => intro hk; exact List.mem_map.2 ⟨0, List.mem_filter.2 ⟨List.mem_range.2 hk, by simp [Lib.keeps]⟩, rfl⟩
    | succ k ih =>
      intro hk
      by_cases e : m.toArray[k + 1]! = m.toArray[k]!
      · rw [e]; exact ih (by omega)
      · exact List.mem_map.2 ⟨k + 1, List.mem_filter.2 ⟨List.mem_range.2 hk, by simp only [Lib.keeps, decide_eq_true_eq]; exact .inr e⟩, rfl⟩
  have := key k hk
  rwa [getElem!_pos m.toArray k (by simpa using hk)] at this
theorem mem_sortedP {l : List (List UInt8)} {x : List UInt8} : x ∈ sortedP l ↔ x ∈ l :=
  ⟨fun h => List.mem_mergeSort.1 (mem_compactL h), fun h => mem_compact2 (List.mem_mergeSort.2 h)⟩
theorem sortedP_strict (l : List (List UInt8)) : (sortedP l).Pairwise fun x y => ordP x y < 0 := compact_strict (sortL_le l)
theorem sortedP_of {l : List (List UInt8)} (h : l.Pairwise fun x y => ordP x y < 0) : sortedP l = l := by
  have e1 : sortL ordP l = l := List.mergeSort_of_pairwise (h.imp fun {a b} hab => by
    simp only [Bool.not_eq_true', decide_eq_false_iff_not]
    intro h2
    have := ordP_trans hab h2; rw [ordP_zero.2 rfl] at this; omega)
  unfold sortedP
  rw [e1]
  refine Lib.compact_all l fun j hj => ?_
  simp only [Lib.keeps, decide_eq_true_eq]
  by_cases h0 : j = 0
  · exact .inl h0
  refine .inr fun e => ?_
  have := (List.pairwise_iff_getElem.1 h) (j - 1) j (by omega) hj (by omega)
  rw [getElem!_pos l.toArray j (by simpa using hj), getElem!_pos l.toArray (j - 1) (by simp; omega)] at e
  simp only [List.getElem_toArray] at e
  rw [e, ordP_zero.2 rfl] at this; omega
theorem sortedP_idem (l : List (List UInt8)) : sortedP (sortedP l) = sortedP l := sortedP_of (sortedP_strict l)
theorem sortNames_ok {l : List (List UInt8)} (h : (sortNames l).2 = 0) : (∀ s ∈ l, pathName s = true) ∧ sortNames l = (sortedP l, 0) := by
  unfold sortNames at h ⊢
  split at h
  · cases h
  · rename_i h1
    rw [if_neg h1]
    refine ⟨fun s hs => ?_, rfl⟩
    have : ¬ (!pathName s) = true := fun e => h1 (List.any_eq_true.2 ⟨s, hs, e⟩)
    simpa using this
theorem sortNames_no {l : List (List UInt8)} (h : ¬ (sortNames l).2 = 0) : (sortNames l).1 = [] := by
  unfold sortNames at h ⊢
  split at h
  · rename_i h1; rw [if_pos h1]
  · exact absurd rfl h
theorem sortNames_again {l : List (List UInt8)} (h : (sortNames l).2 = 0) : sortNames (sortNames l).1 = sortNames l := by
  obtain ⟨h1, h2⟩ := sortNames_ok h
  have h3 : (sortNames (sortedP l)) = (sortedP (sortedP l), 0) := by
    unfold sortNames
    rw [if_neg]
    rw [List.any_eq_true]
    rintro ⟨s, hs, e⟩
    rw [h1 s (mem_sortedP.1 hs)] at e; cases e
  rw [h2, h3, sortedP_idem]
theorem pathOf_ok {x : List UInt8} (h : pathName x = true) : pathOf x = (pathBits x, 0) := by unfold pathOf; simp [h]
theorem sorts_form {l : List (List UInt8)} {x : List UInt8} {i : Nat} (h : (sortNames l).2 = 0) (hx : (sortNames l).1[i]? = some x) : (pathOf x).2 = 0 ∧ (l.any fun z => decide (x = z)) = true ∧ (pathOf x).1 = pathBits x := by
  obtain ⟨h1, h2⟩ := sortNames_ok h
  rw [h2] at hx
  have hm := mem_sortedP.1 (List.mem_of_getElem? hx)
  rw [pathOf_ok (h1 x hm)]
  exact ⟨rfl, List.any_eq_true.2 ⟨x, hm, by simp⟩, rfl⟩
theorem sorts_next {l : List (List UInt8)} {x y : List UInt8} {i : Nat} (h : (sortNames l).2 = 0) (hi : 0 < i) (hx : (sortNames l).1[i]? = some x) (hy : (sortNames l).1[i - 1]? = some y) :
    Go.Op.bytesLess (pathOf x).1 (pathOf y).1 = false ∧ ((pathOf x).1 = (pathOf y).1 → Go.Op.bytesLess x y = false ∧ ¬ x = y) := by
  have e1 := (sorts_form h hx).2.2
  have e2 := (sorts_form h hy).2.2
  obtain ⟨h1, h2⟩ := sortNames_ok h
  rw [h2] at hx hy
  obtain ⟨p1, p2⟩ := List.getElem?_eq_some_iff.1 hx
  obtain ⟨q1, q2⟩ := List.getElem?_eq_some_iff.1 hy
  have hlt := (List.pairwise_iff_getElem.1 (sortedP_strict l)) (i - 1) i q1 p1 (by omega)
  simp only at p2 q2
  rw [p2, q2, ordP_lt] at hlt
  rw [e1, e2]
  rcases hlt with hlt | ⟨he, hlt⟩
  · refine ⟨?_, fun e => ?_⟩
    · cases hb : Go.Op.bytesLess (pathBits x) (pathBits y) with
      | false => rfl
      | true => have := bl_trans hlt hb; rw [bl_irr] at this; cases this
    · rw [e, bl_irr] at hlt; cases hlt
  · refine ⟨by rw [he, bl_irr], fun _ => ⟨?_, ?_⟩⟩
    · cases hb : Go.Op.bytesLess x y with
      | false => rfl
      | true => have := bl_trans hlt hb; rw [bl_irr] at this; cases this
    · rintro rfl; rw [bl_irr] at hlt; cases hlt
theorem sorts_prev {l : List (List UInt8)} {x p0 : List UInt8} {i : Nat} (h : (sortNames l).2 = 0) (hi : 0 < i) (hx : (sortNames l).1[i]? = some x) (hp : ∀ y, 0 < i → (sortNames l).1[i - 1]? = some y → p0 = (pathOf y).1) (hb : Go.Op.bytesLess (pathOf x).1 p0 = true) : False := by
  have hl := (List.getElem?_eq_some_iff.1 hx).1
  have hy : (sortNames l).1[i - 1]? = some (sortNames l).1[i - 1] := List.getElem?_eq_getElem (by omega)
  rw [hp _ hi hy, (sorts_next h hi hx hy).1] at hb; cases hb
theorem sorts_same {l : List (List UInt8)} {x y p0 : List UInt8} {i k : Nat} (h : (sortNames l).2 = 0) (hi : 0 < i) (hk : (i : Int) - 1 = (k : Int)) (hx : (sortNames l).1[i]? = some x) (hy : (sortNames l).1[k]? = some y) (hp : ∀ y, 0 < i → (sortNames l).1[i - 1]? = some y → p0 = (pathOf y).1)
    (he : (pathOf x).1 = p0) (hb : Go.Op.bytesLess x y = true ∨ x = y) : False := by
  obtain rfl : k = i - 1 := by omega
  obtain ⟨q1, q2⟩ := (sorts_next h hi hx hy).2 (he.trans (hp y hi hy))
  rcases hb with hb | hb
  · rw [q1] at hb; cases hb
  · exact q2 hb
theorem sorts_all {l : List (List UInt8)} (h : (sortNames l).2 = 0) : (l.any fun s => !((sortNames l).1.any fun z => decide (s = z))) = false := by
  obtain ⟨h1, h2⟩ := sortNames_ok h
  rw [h2]
  cases hb : l.any fun s => !((sortedP l).any fun z => decide (s = z)) with
  | false => rfl
  | true =>
    obtain ⟨s, hs, e⟩ := List.any_eq_true.1 hb
    have : ((sortedP l).any fun z => decide (s = z)) = true := List.any_eq_true.2 ⟨s, mem_sortedP.2 hs, by simp⟩
    rw [this] at e; cases e

def sortRen : Go.Shelf.Ren := ⟨fun x => if Nat.beq x 6 then 38 else if Nat.beq x 14 then 59 else if Nat.beq x 15 then 60 else if Nat.beq x 20 then 67 else if Nat.beq x 21 then 68 else if Nat.beq x 22 then 69 else if Nat.beq x 23 then 70 else if Nat.beq x 24 then 71 else if Nat.beq x 25 then 72 else if Nat.beq x 26 then 73 else if Nat.beq x 27 then 74 else if Nat.beq x 28 then 75 else if Nat.beq x 29 then 76 else if Nat.beq x 46 then 79 else if Nat.beq x 47 then 80 else if Nat.beq x 48 then 81 else if Nat.beq x 49 then 82 else if Nat.beq x 50 then 83 else if Nat.beq x 57 then 85 else 0, fun x => if Nat.beq x 0 then 0 else if Nat.beq x 3 then 3 else if Nat.beq x 4 then 4 else if Nat.beq x 5 then 5 else if Nat.beq x 9 then 9 else if Nat.beq x 22 then 52 else if Nat.beq x 24 then 9 else if Nat.beq x 25 then 83 else if Nat.beq x 39 then 107 else if Nat.beq x 45 then 117 else if Nat.beq x 46 then 118 else if Nat.beq x 50 then 122 else if Nat.beq x 53 then 125 else if Nat.beq x 55 then 29 else if Nat.beq x 66 then 129 else if Nat.beq x 70 then 133 else if Nat.beq x 76 then 137 else if Nat.beq x 77 then 138 else 0, fun x => x⟩
theorem lay_sort : SlLaysF.n6 Try.prog sortRen := {
  mixed := rfl,
  f6 := ⟨Try.f38.name, by decide, Try.func38.trans (by kernel_rfl)⟩,
  f14 := ⟨Try.f59.name, by decide, Try.func59.trans (by kernel_rfl)⟩,
  f15 := Try.func60.trans (by kernel_rfl),
  f20 := ⟨Try.f67.name, by decide, Try.func67.trans (by kernel_rfl)⟩,
  f21 := ⟨Try.f68.name, by decide, Try.func68.trans (by kernel_rfl)⟩,
  f22 := ⟨Try.f69.name, by decide, Try.func69.trans (by kernel_rfl)⟩,
  f23 := ⟨Try.f70.name, by decide, Try.func70.trans (by kernel_rfl)⟩,
  f24 := ⟨Try.f71.name, by decide, Try.func71.trans (by kernel_rfl)⟩,
  f25 := ⟨Try.f72.name, by decide, Try.func72.trans (by kernel_rfl)⟩,
  f26 := ⟨Try.f73.name, by decide, Try.func73.trans (by kernel_rfl)⟩,
  f27 := ⟨Try.f74.name, by decide, Try.func74.trans (by kernel_rfl)⟩,
  f28 := Try.func75.trans (by kernel_rfl),
  f29 := Try.func76.trans (by kernel_rfl),
  f46 := ⟨Try.f79.name, by decide, Try.func79.trans (by kernel_rfl)⟩,
  f47 := Try.func80.trans (by kernel_rfl),
  f48 := Try.func81.trans (by kernel_rfl),
  f49 := ⟨Try.f82.name, by decide, Try.func82.trans (by kernel_rfl)⟩,
  f50 := ⟨Try.f83.name, by decide, Try.func83.trans (by kernel_rfl)⟩,
  f57 := ⟨Try.f85.name, by decide, Try.func85.trans (by kernel_rfl)⟩,
  t0 := by kernel_rfl,
  a0 := by intro w; kernel_rfl,
  z0 := by intro w; kernel_rfl,
  v0 := by intro w; kernel_rfl,
  t3 := by kernel_rfl,
  a3 := by intro w; kernel_rfl,
  z3 := by intro w; kernel_rfl,
  v3 := by intro w; kernel_rfl,
  t4 := by kernel_rfl,
  a4 := by intro w; kernel_rfl,
  z4 := by intro w; kernel_rfl,
  v4 := by intro w; kernel_rfl,
  t5 := by kernel_rfl,
  a5 := by intro w; kernel_rfl,
  z5 := by intro w; kernel_rfl,
  v5 := by intro w; kernel_rfl,
  t9 := by kernel_rfl,
  a9 := by intro w; kernel_rfl,
  z9 := by intro w; kernel_rfl,
  v9 := by intro w; kernel_rfl,
  t22 := by kernel_rfl,
  a22 := by intro w; kernel_rfl,
  z22 := by intro w; kernel_rfl,
  v22 := by intro w; kernel_rfl,
  a24 := by intro w; kernel_rfl,
  z24 := by intro w; kernel_rfl,
  t25 := by kernel_rfl,
  a25 := by intro w; kernel_rfl,
  z25 := by intro w; kernel_rfl,
  v25 := by intro w; kernel_rfl,
  t39 := by kernel_rfl,
  a39 := by intro w; kernel_rfl,
  z39 := by intro w; kernel_rfl,
  v39 := by intro w; kernel_rfl,
  t45 := by kernel_rfl,
  a45 := by intro w; kernel_rfl,
  z45 := by intro w; kernel_rfl,
  v45 := by intro w; kernel_rfl,
  t46 := by kernel_rfl,
  a46 := by intro w; kernel_rfl,
  z46 := by intro w; kernel_rfl,
  v46 := by intro w; kernel_rfl,
  t50 := by kernel_rfl,
  a50 := by intro w; kernel_rfl,
  z50 := by intro w; kernel_rfl,
  v50 := by intro w; kernel_rfl,
  t53 := by kernel_rfl,
  a53 := by intro w; kernel_rfl,
  z53 := by intro w; kernel_rfl,
  v53 := by intro w; kernel_rfl,
  t55 := by kernel_rfl,
  a55 := by intro w; kernel_rfl,
  z55 := by intro w; kernel_rfl,
  v55 := by intro w; kernel_rfl,
  t66 := by kernel_rfl,
  a66 := by intro w; kernel_rfl,
  z66 := by intro w; kernel_rfl,
  v66 := by intro w; kernel_rfl,
  t70 := by kernel_rfl,
  a70 := by intro w; kernel_rfl,
  z70 := by intro w; kernel_rfl,
  v70 := by intro w; kernel_rfl,
  t76 := by kernel_rfl,
  a76 := by intro w; kernel_rfl,
  z76 := by intro w; kernel_rfl,
  v76 := by intro w; kernel_rfl,
  t77 := by kernel_rfl,
  a77 := by intro w; kernel_rfl,
  z77 := by intro w; kernel_rfl,
  v77 := by intro w; kernel_rfl }


def compRen : Go.Shelf.Ren := ⟨fun x => if Nat.beq x 194 then 43 else 0, fun x => if Nat.beq x 0 then 0 else if Nat.beq x 3 then 3 else if Nat.beq x 4 then 4 else if Nat.beq x 9 then 9 else if Nat.beq x 31 then 52 else 0, fun x => x⟩
theorem lay_comp : Lays.n194 Try.prog compRen := {
  mixed := rfl,
  f194 := Try.func43.trans (by kernel_rfl),
  t0 := by kernel_rfl,
  a0 := by intro w; kernel_rfl,
  z0 := by intro w; kernel_rfl,
  v0 := by intro w; kernel_rfl,
  t3 := by kernel_rfl,
  a3 := by intro w; kernel_rfl,
  z3 := by intro w; kernel_rfl,
  v3 := by intro w; kernel_rfl,
  t4 := by kernel_rfl,
  a4 := by intro w; kernel_rfl,
  z4 := by intro w; kernel_rfl,
  v4 := by intro w; kernel_rfl,
  t9 := by kernel_rfl,
  a9 := by intro w; kernel_rfl,
  z9 := by intro w; kernel_rfl,
  v9 := by intro w; kernel_rfl,
  t31 := by kernel_rfl,
  a31 := by intro w; kernel_rfl,
  z31 := by intro w; kernel_rfl,
  v31 := by intro w; kernel_rfl }


theorem ordP_con (G : Mem) (a : List UInt8) (hw_a : (a).length ≤ 140737488351232) (b : List UInt8) (hw_b : (b).length ≤ 140737488351232)  : Con Try.prog 39 #[Sr a, Sr b] G [] (fun u G' L' => u = I (ordP a b)) := by
  refine con_of Try.func39 15 [(0, Sr a), (1, Sr b)] rfl (fun w0 G0 => ?_)
  refine tc_rb [0] [(0, Sr a), (1, Sr b)] ?_
  refine tc_seq ?_
  refine tc_region ?_
  refine runL_b [0] [(0, Sr a), (1, Sr b), (5, Sr a)] ?_
  refine runL_callV 6 (Sr (pathBits a)) (pathBits_con G a hw_a) ?_
  refine runL_b [0] [(0, Sr a), (1, Sr b), (6, Sr (pathBits a)), (7, Sr b)] ?_
  refine runL_callV 8 (Sr (pathBits b)) (pathBits_con G b hw_b) ?_
  refine runL_callV 9 (I (cmpS (pathBits a) (pathBits b))) (cmpS_con G (pathBits a) (pathBits b)) ?_
  refine runL_b [0,0] [(9, I (cmpS (pathBits a) (pathBits b))), (10, Sr a), (11, Sr b)] ?_
  refine runL_callV 12 (I (cmpS a b)) (cmpS_con G a b) ?_
  refine runL_bsl 13 2 #[I (cmpS (pathBits a) (pathBits b)), I (cmpS a b)] 3 (fun b1 => ?_)
  refine runL_frz1 (b := b1) (o := 0) (cs := [I (cmpS (pathBits a) (pathBits b)), I (cmpS a b)]) 0 (fun G1 hl1 hz1 => ?_)
  have hs1 : RS EI G1 (At b1 0) 2 [cmpS (pathBits a) (pathBits b), cmpS a b] := RS.lit [[I (cmpS (pathBits a) (pathBits b))], [I (cmpS a b)]] [cmpS (pathBits a) (pathBits b), cmpS a b] ⟨⟨rfl, (by first | (first | assumption | omega | (unfold cmpS; repeat' split <;> omega)) | (dsimp only; first | assumption | omega | (unfold cmpS; repeat' split <;> omega)))⟩, ⟨⟨rfl, (by first | (first | assumption | omega | (unfold cmpS; repeat' split <;> omega)) | (dsimp only; first | assumption | omega | (unfold cmpS; repeat' split <;> omega)))⟩, trivial⟩⟩ hz1 (Nat.le_of_ble_eq_true rfl) (Nat.le_of_ble_eq_true rfl)
  refine runL_callV 14 (I (orI ([cmpS (pathBits a) (pathBits b), cmpS a b]))) (orI_con G1 (At b1 0) 2 ([cmpS (pathBits a) (pathBits b), cmpS a b]) hs1) ?_
  refine runL_b [0] [(4, I (orI ([cmpS (pathBits a) (pathBits b), cmpS a b])))] ?_
  refine runL_nil ?_
  refine tq_then ?_
  refine tc_ret ?_
  refine tq_ret [0] [I (orI ([cmpS (pathBits a) (pathBits b), cmpS a b]))] (bp_ret hl1 ?_)
  have hf_ : (ordP a b) = (orI ([cmpS (pathBits a) (pathBits b), cmpS a b])) := by
    rfl
  (try rw [hf_]); first | with_reducible rfl | (simp only [packR]; done) | rfl

theorem sortS_con {G : Mem} {a : Option Addr} {cap : Nat} {l : List (List UInt8)} {r : List Seg} (hr : TRow ES G a cap l r) (hsz : l.length < 4611686018427387904) :
    ConL Try.prog 38 #[Sl a l.length cap, .func (.func 39) #[] #[]] G [r] (fun u G' L' => ∃ r', u = .tuple #[] ∧ TRow ES G' a cap (sortL ordP l) r' ∧ L' = [r']) :=
  sort_con lay_sort ordP ordP_swo ordP_total 39 #[] (enters_of Try.func39 (by kernel_rfl) rfl) (fun x y => ordP_con (fun _ _ => none) x.1 x.2 y.1 y.2) hr hsz
theorem compactS_con {G : Mem} {a : Option Addr} {cap : Nat} {l : List (List UInt8)} {r : List Seg} (hr : TRow ES G a cap l r) :
    ConL Try.prog 43 #[Sl a l.length cap] G [r] (fun u G' L' => ∃ r', u = Sl a (Lib.compact l).length cap ∧ TRow ES G' a cap (Lib.compact l) r' ∧ L' = [r']) := compact_con lay_comp hr

theorem notName_con (G : Mem) (s : List UInt8) (hw_s : (s).length ≤ 140737488351232)  : Con Try.prog 35 #[Sr s] G [] (fun u G' L' => u = Bo (!pathName s)) := by
  refine con_of Try.func35 6 [(0, Sr s)] rfl (fun w0 G0 => ?_)
  refine tc_rb [0] [(0, Sr s)] ?_
  refine tc_seq ?_
  refine tc_region ?_
  refine runL_b [0] [(3, Sr s)] ?_
  refine runL_callV 4 (Bo (pathName s)) (pathName_con G s) ?_
  refine runL_b [0,0] [(2, Bo (!(pathName s)))] ?_
  refine runL_nil ?_
  refine tq_then ?_
  refine tc_ret ?_
  refine tq_ret [0] [Bo (!(pathName s))] (bp_ret (Mem.le_refl _) ?_)
  have hf_ : (!pathName s) = (!(pathName s)) := by
    rfl
  (try rw [hf_]); first | with_reducible rfl | (simp only [packR]; done) | rfl

theorem sortNames_con (G : Mem) (a_l : Option Addr) (c_l : Nat) (l : List ((List UInt8))) (h_l : RS ES G a_l c_l l)  : Con Try.prog 17 #[Sl a_l l.length c_l] G [] (fun u G' L' => ∃ (a1 : Option Addr) (c2 : Nat), u = .tuple #[Sl a1 (((sortNames l).1).length) c2, I ((sortNames l).2)] ∧ (RS ES G' a1 c2 ((sortNames l).1)) ∧ L' = []) := by
  refine con_of Try.func17 13 [(0, Sl a_l l.length c_l)] rfl (fun w0 G0 => ?_)
  refine tc_rb [0,0] [(0, Sl a_l l.length c_l)] ?_
  refine tc_seq ?_
  refine tc_seq ?_
  refine tc_region ?_
  refine runL_b [0] [(0, Sl a_l l.length c_l), (5, Sl a_l l.length c_l)] ?_
  refine runL_callV 6 (Bo (l.any ((fun x0 => !pathName x0)))) (sany_ES G a_l c_l l h_l 35 #[] ((fun x0 => !pathName x0)) ((fun _ _ => by kernel_rfl)) ((fun x0 hx0 => notName_con G x0 hx0))) ?_
  refine runL_nil ?_
  refine tq_then ?_
  refine tc_cond (l.any ((fun x0 => !pathName x0))) (fun h1 => ?_) (fun h1 => ?_)
  ·
    try simp only [decide_eq_true_eq, decide_eq_false_iff_not, Bool.and_eq_true, Bool.or_eq_true, Bool.and_eq_false_imp, Bool.or_eq_false_iff, Bool.not_eq_true', Bool.not_eq_false', Bool.not_eq_true, Bool.not_eq_false, beq_iff_eq, beq_eq_false_iff_ne, bne_iff_ne, ne_eq, Decidable.not_not, Int.not_lt, Int.not_le] at h1
    refine tc_rb [0,0] [(2, Sl none 0 0), (3, I 3)] ?_
    refine tc_ret ?_
    refine tq_then_ret ?_
    have hf1 : sortNames l = ([], 3) := by
      unfold sortNames; first | (rw [if_pos (by assumption)]; done) | (rw [if_neg (by simp_all)]; rfl)
    refine tq_ret [0, 0] [Sl none 0 0, I 3] (bp_rows [] .slnil (Mem.le_refl _) ?_)
    rw [hf1]
    try dsimp only
    exact ⟨none, 0, rfl, (RS.nil' ES G), rfl⟩
  ·
    try simp only [decide_eq_true_eq, decide_eq_false_iff_not, Bool.and_eq_true, Bool.or_eq_true, Bool.and_eq_false_imp, Bool.or_eq_false_iff, Bool.not_eq_true', Bool.not_eq_false', Bool.not_eq_true, Bool.not_eq_false, beq_iff_eq, beq_eq_false_iff_ne, bne_iff_ne, ne_eq, Decidable.not_not, Int.not_lt, Int.not_le] at h1
    refine tc_skip ?_
    refine tq_then ?_
    refine tc_seq ?_
    refine tc_region ?_
    refine runL_b [0] [(7, Sl a_l l.length c_l)] ?_
    refine runL_callR 8 (sclone_ES G a_l c_l l h_l) (fun v G1 L1 hl1 hp => ?_)
    obtain ⟨a1, c1, r1, rfl, hr1, rfl⟩ := hp
    refine runL_b [0] [(4, Sl a1 l.length c1)] ?_
    refine runL_nil ?_
    refine tq_then ?_
    refine tc_seq ?_
    refine tc_region ?_
    refine runL_b [0] [(4, Sl a1 l.length c1), (9, Sl a1 l.length c1)] ?_
    refine runL_front 0 ?_
    refine runL_callL (Ls := [r1]) (Lr := []) 10 (sortS_con hr1 (by have q_ := h_l.fit; simp only [ES] at q_; omega)) (fun v G2 L1 hl2 hp => ?_)
    obtain ⟨r2, rfl, hr2, rfl⟩ := hp
    have e1 : l.length = (sortL ordP l).length := (sortL_len ..).symm
    refine runL_b [] [(4, Sl a1 l.length c1), (9, Sl a1 l.length c1), (10, .tuple #[])] ?_
    refine runL_eq (fr' := [(4, Sl a1 ((sortL ordP l).length) c1), (9, Sl a1 ((sortL ordP l).length) c1), (10, .tuple #[])]) (L' := [r2]) (by first | rfl | simp only [e1]) (by first | rfl | simp only [e1]) ?_
    refine runL_nil ?_
    refine tq_then ?_
    refine tc_seq ?_
    refine tc_region ?_
    refine runL_b [0] [(11, Sl a1 ((sortL ordP l).length) c1)] ?_
    refine runL_front 0 ?_
    refine runL_callL (Ls := [r2]) (Lr := []) 12 (compactS_con hr2) (fun v G3 L1 hl3 hp => ?_)
    obtain ⟨r3, rfl, hr3, rfl⟩ := hp
    refine runL_b [0,0] [(2, Sl a1 ((Lib.compact ((sortL ordP l))).length) c1), (3, I 0)] ?_
    refine runL_nil ?_
    refine tq_then ?_
    refine tc_ret ?_
    refine tq_frzR (E := ES) 0 hr3 (by have q1_ := sortedP_len l; unfold sortedP at q1_; have q2_ := h_l.fit; simp only [ES] at *; omega) (fun G4 hl4 hs1 => ?_)
    have hf2 : sortNames l = ((Lib.compact ((sortL ordP l))), 0) := by
      unfold sortNames; first | (rw [if_pos (by assumption)]; done) | (rw [if_neg (by simp_all)]; rfl)
    refine tq_ret [0, 0] [Sl a1 ((Lib.compact ((sortL ordP l))).length) c1, I 0] (bp_rows [] (.cons _ .slnil) (Mem.le_trans (Mem.le_trans (Mem.le_trans hl1 hl2) hl3) hl4) ?_)
    rw [hf2]
    try dsimp only
    exact ⟨a1, c1, rfl, hs1, rfl⟩

theorem paths_con (G : Mem)   : Con Try.prog 16 #[] G [] (fun u G' L' => u = Bo true) := by
  refine con_of Try.func16 14 [] rfl (fun w0 G0 => ?_)
  refine tc_rb [0] [] ?_
  refine tc_seq ?_
  refine tc_region ?_
  refine runL_callV 4 (.tuple #[Sr ((pathOf ([97])).1), I ((pathOf ([97])).2)]) (pathOf_con G ([97]) (Nat.le_of_ble_eq_true rfl)) ?_
  refine runL_b [0,0,0,0,0] [(1, Sr ((pathOf ([97])).1)), (2, I ((pathOf ([97])).2))] ?_
  refine runL_nil ?_
  refine tq_then ?_
  refine tc_seq ?_
  refine tc_region ?_
  refine runL_b [0,0,0] [(1, Sr ((pathOf ([97])).1)), (9, Bo (decide ((pathOf ([97])).2 = 0)))] ?_
  refine runL_b2 (decide ((pathOf ([97])).2 = 0)) (fun bb => [(1, Sr ((pathOf ([97])).1)), (9, Bo bb)]) [0,0,0,0] [1,1,1,0] (fun bb => [(13, Bo (bb && (decide ((((pathOf ([97])).1).length : Int) = 16))))]) ?_
  refine runL_b [0] [(0, Bo ((decide ((pathOf ([97])).2 = 0)) && (decide ((((pathOf ([97])).1).length : Int) = 16))))] ?_
  refine runL_nil ?_
  refine tq_then ?_
  refine tc_ret ?_
  refine tq_ret [0] [Bo ((decide ((pathOf ([97])).2 = 0)) && (decide ((((pathOf ([97])).1).length : Int) = 16)))] (bp_ret (Mem.le_refl _) ?_)
  have hf_ : ((decide ((pathOf ([97])).2 = 0)) && (decide ((((pathOf ([97])).1).length : Int) = 16))) = true := by
    first | decide +kernel | (revert h1; decide +kernel)
  exact congrArg Bo hf_

theorem notIn_con (G : Mem) (s : List UInt8) (hw_s : (s).length ≤ 140737488351232) (vs_x : List Value) (x : List ((List UInt8))) (h_x : ESlS.R G vs_x x) (b_x : Nat) (hz_x : ∀ j v, (vs_x : List Value)[j]? = some v → G b_x (0 + j) = some v)  : Con Try.prog 22 #[Sr s, Pt b_x 0] G [] (fun u G' L' => u = Bo (!(x.any fun z => decide (s = z)))) := by
  obtain ⟨a1, c1, rfl, hs1⟩ := h_x
  refine con_of Try.func22 8 [(0, Sr s), (1, Pt b_x 0)] rfl (fun w0 G0 => ?_)
  refine tc_rb [0] [(0, Sr s), (1, Pt b_x 0)] ?_
  refine tc_seq ?_
  refine tc_region ?_
  refine runL_ldG (o' := 0) 4 52 (cs := [Sl a1 x.length c1]) 0 (Sl a1 x.length c1) hz_x ?_
  refine runL_b [0] [(4, Sl a1 x.length c1), (5, Sr s)] ?_
  refine runL_callV 6 (Bo (x.any (fun x => decide (s = x)))) (shas_ES G a1 c1 x hs1 s) ?_
  refine runL_b [0,0] [(3, Bo (!(x.any (fun x => decide (s = x)))))] ?_
  refine runL_nil ?_
  refine tq_then ?_
  refine tc_ret ?_
  refine tq_ret [0] [Bo (!(x.any (fun x => decide (s = x))))] (bp_ret (Mem.le_refl _) ?_)
  have hf_ : (!(x.any fun z => decide (s = z))) = (!(x.any (fun x => decide (s = x)))) := by
    rfl
  (try rw [hf_]); first | with_reducible rfl | (simp only [packR]; done) | rfl

theorem pathSorts_con (G : Mem) (a_l : Option Addr) (c_l : Nat) (l : List ((List UInt8))) (h_l : RS ES G a_l c_l l) (hf_l : l.length * 16 ≤ 140737488351232) : Con Try.prog 5 #[Sl a_l l.length c_l] G [] (fun u G' L' => u = Bo true) := by
  refine con_of Try.func5 87 [(0, Sl a_l l.length c_l)] rfl (fun w0 G0 => ?_)
  refine tc_rb [0] [(0, Sl a_l l.length c_l)] ?_
  refine tc_seq ?_
  refine tc_seq ?_
  refine tc_region ?_
  refine runL_callV 12 (Bo true) (paths_con G) ?_
  refine runL_b [0] [(0, Sl a_l l.length c_l), (13, Bo false)] ?_
  refine runL_nil ?_
  refine tq_then ?_
  refine tc_cond_false ?_
  refine tc_skip ?_
  refine tq_then ?_
  refine tc_seq ?_
  refine tc_region ?_
  refine runL_b [0] [(0, Sl a_l l.length c_l), (15, Sl a_l l.length c_l)] ?_
  refine runL_callR 16 (sortNames_con G a_l c_l l h_l) (fun v G1 L1 hl1 hp => ?_)
  obtain ⟨a1, c1, rfl, hs1, rfl⟩ := hp
  refine runL_b [0,0,0] [(0, Sl a_l l.length c_l), (17, Sl a1 (((sortNames l).1).length) c1), (18, I ((sortNames l).2))] ?_
  refine runL_box 3 #[Sl none 0 0] 52 (fun b1 => ?_)
  refine runL_bs [3,0] [(0, Sl a_l l.length c_l), (3, Pt b1 0), (4, I ((sortNames l).2))] [[Sg b1 0 [Sl a1 (((sortNames l).1).length) c1]]] ?_
  refine runL_nil ?_
  refine tq_then ?_
  refine tc_seq ?_
  refine tc_rb [0,0] [(0, Sl a_l l.length c_l), (3, Pt b1 0), (20, Bo (!decide ((sortNames l).2 = 0)))] ?_
  refine tc_cond (!decide ((sortNames l).2 = 0)) (fun h1 => ?_) (fun h1 => ?_)
  ·
    try simp only [decide_eq_true_eq, decide_eq_false_iff_not, Bool.and_eq_true, Bool.or_eq_true, Bool.and_eq_false_imp, Bool.or_eq_false_iff, Bool.not_eq_true', Bool.not_eq_false', Bool.not_eq_true, Bool.not_eq_false, beq_iff_eq, beq_eq_false_iff_ne, bne_iff_ne, ne_eq, Decidable.not_not, Int.not_lt, Int.not_le] at h1
    refine tc_rb [2,0,0,0] [(2, Bo (decide (((((sortNames l).1).length : Nat) : Int) = 0)))] ?_
    refine tc_ret ?_
    refine tq_then_ret ?_
    refine tq_ret [0] [Bo (decide (((((sortNames l).1).length : Nat) : Int) = 0))] (bp_ret hl1 ?_)
    have hf_ : (decide (((((sortNames l).1).length : Nat) : Int) = 0)) = true := by
      first | (rw [sortNames_no h1]; rfl) | exact absurd (sorts_form h1 hx1).1 h3 | exact sorts_prev h1 (by omega) hx1 hp0 h5 | exact sorts_same h1 (by omega) hkn1 hx1 hx2 hp0 h6 h7 | (have q_ := (sorts_form h1 hx1).2.1; first | (rw [q_] at h8; cases h8) | (rw [q_] at h9; cases h9) | (rw [q_] at h10; cases h10)) | (have q_ := sortNames_again h1; first | exact h12 (by rw [q_]) | exact h11 (by rw [q_]; exact h1) | (rw [sorts_all h1]; rfl))
    exact congrArg Bo hf_
  ·
    try simp only [decide_eq_true_eq, decide_eq_false_iff_not, Bool.and_eq_true, Bool.or_eq_true, Bool.and_eq_false_imp, Bool.or_eq_false_iff, Bool.not_eq_true', Bool.not_eq_false', Bool.not_eq_true, Bool.not_eq_false, beq_iff_eq, beq_eq_false_iff_ne, bne_iff_ne, ne_eq, Decidable.not_not, Int.not_lt, Int.not_le] at h1
    refine tc_skip ?_
    refine tq_then ?_
    refine tc_seq ?_
    refine tc_region ?_
    refine runL_b [2] [(0, Sl a_l l.length c_l), (3, Pt b1 0), (25, Sl a1 (((sortNames l).1).length) c1)] ?_
    refine runL_callR 26 (sortNames_con G1 a1 c1 ((sortNames l).1) hs1) (fun v G2 L1 hl2 hp => ?_)
    obtain ⟨a2, c2, rfl, hs2, rfl⟩ := hp
    refine runL_b [0,0,0,0,0] [(0, Sl a_l l.length c_l), (3, Pt b1 0), (5, Sl a2 (((sortNames ((sortNames l).1)).1).length) c2), (6, I ((sortNames ((sortNames l).1)).2))] ?_
    refine runL_nil ?_
    refine tq_then ?_
    refine tc_rb [0] [(0, Sl a_l l.length c_l), (3, Pt b1 0), (5, Sl a2 (((sortNames ((sortNames l).1)).1).length) c2), (6, I ((sortNames ((sortNames l).1)).2)), (7, Sr ([]))] ?_
    refine tc_seq ?_
    refine tc_rb [2,0,0] [(0, Sl a_l l.length c_l), (3, Pt b1 0), (5, Sl a2 (((sortNames ((sortNames l).1)).1).length) c2), (6, I ((sortNames ((sortNames l).1)).2)), (7, Sr ([])), (29, Sl a1 (((sortNames l).1).length) c1), (30, I (((((sortNames l).1).length : Nat) : Int))), (31, I 0)] ?_
    refine tc_block ?_
    have hlm_h_l : l.length ≤ 9223372036854775807 := Nat.le_trans (h_l).le (h_l).max
    have hlm_hs2 : ((sortNames ((sortNames l).1)).1).length ≤ 9223372036854775807 := Nat.le_trans (hs2).le (hs2).max
    have hlm_hs1 : ((sortNames l).1).length ≤ 9223372036854775807 := Nat.le_trans (hs1).le (hs1).max
    refine tc_loop (σ := Nat × List UInt8 × Mem) (fun q_ => (Mem.le G2 q_.2.2) ∧ (q_.1 ≤ ((sortNames l).1).length) ∧ (∀ y, 0 < q_.1 → (sortNames l).1[q_.1 - 1]? = some y → q_.2.1 = (pathOf y).1)) (fun q_ => [(0, Sl a_l l.length c_l), (3, Pt b1 0), (5, Sl a2 (((sortNames ((sortNames l).1)).1).length) c2), (6, I ((sortNames ((sortNames l).1)).2)), (7, Sr q_.2.1), (29, Sl a1 (((sortNames l).1).length) c1), (30, I (((((sortNames l).1).length : Nat) : Int))), (31, I ((q_.1 : Int)))]) (fun q_ => q_.2.2) (fun q_ => [[Sg b1 0 [Sl a1 (((sortNames l).1).length) c1]]]) (fun q_ => ((sortNames l).1).length - q_.1) ((0, [], G2)) ⟨(Mem.le_refl _), (by (try dsimp only); first | exact Nat.zero_le _ | omega | simp), (fun _ h => absurd h (by omega))⟩ (fun q_ hs => ?_)
    obtain ⟨i, p0, g⟩ := q_
    obtain ⟨hle, hi, hp0⟩ := hs
    dsimp only at hle hi hp0
    refine tc_eq (fr' := [(0, Sl a_l l.length c_l), (3, Pt b1 0), (5, Sl a2 (((sortNames ((sortNames l).1)).1).length) c2), (6, I ((sortNames ((sortNames l).1)).2)), (7, Sr p0), (29, Sl a1 (((sortNames l).1).length) c1), (30, I (((((sortNames l).1).length : Nat) : Int))), (31, I ((i : Int)))]) (L' := [[Sg b1 0 [Sl a1 (((sortNames l).1).length) c1]]]) rfl rfl ?_
    refine tc_rb [0] [(0, Sl a_l l.length c_l), (3, Pt b1 0), (5, Sl a2 (((sortNames ((sortNames l).1)).1).length) c2), (6, I ((sortNames ((sortNames l).1)).2)), (7, Sr p0), (29, Sl a1 (((sortNames l).1).length) c1), (30, I (((((sortNames l).1).length : Nat) : Int))), (31, I ((i : Int))), (32, Bo (decide ((i : Int) < ((((sortNames l).1).length : Nat) : Int))))] ?_
    refine tc_seq ?_
    refine tc_cond (decide ((i : Int) < ((((sortNames l).1).length : Nat) : Int))) (fun h2 => ?_) (fun h2 => ?_)
    ·
      try simp only [decide_eq_true_eq, decide_eq_false_iff_not, Bool.and_eq_true, Bool.or_eq_true, Bool.and_eq_false_imp, Bool.or_eq_false_iff, Bool.not_eq_true', Bool.not_eq_false', Bool.not_eq_true, Bool.not_eq_false, beq_iff_eq, beq_eq_false_iff_ne, bne_iff_ne, ne_eq, Decidable.not_not, Int.not_lt, Int.not_le] at h2
      refine tc_skip ?_
      refine tq_then ?_
      refine tc_seq ?_
      refine tc_block ?_
      refine tc_seq ?_
      refine tc_region ?_
      refine runL_b [0] [(0, Sl a_l l.length c_l), (3, Pt b1 0), (5, Sl a2 (((sortNames ((sortNames l).1)).1).length) c2), (6, I ((sortNames ((sortNames l).1)).2)), (7, Sr p0), (29, Sl a1 (((sortNames l).1).length) c1), (30, I (((((sortNames l).1).length : Nat) : Int))), (31, I ((i : Int))), (33, I ((i : Int)))] ?_
      obtain ⟨b2, o1, rfl⟩ := RS.addr (hs1.mono (Mem.le_trans hl2 hle)) (k := i) (by omega)
      obtain ⟨x1, hx1⟩ := getX (l := (sortNames l).1) (k := i) (by omega)
      obtain ⟨_, ⟨rfl, w1⟩, hc1⟩ := RS.get (hs1.mono (Mem.le_trans hl2 hle)) hx1
      refine runL_idx (b := b2) (off := o1) (len := ((sortNames l).1).length) (cap := c1) (ik := .i64) 34 9 1 i (by omega) ?_
      refine runL_ldG 35 9 (cs := [Sr x1]) 0 (Sr x1) hc1 ?_
      refine runL_b [0,0] [(0, Sl a_l l.length c_l), (3, Pt b1 0), (5, Sl a2 (((sortNames ((sortNames l).1)).1).length) c2), (6, I ((sortNames ((sortNames l).1)).2)), (7, Sr p0), (8, I ((i : Int))), (9, Sr x1), (29, Sl (At b2 o1) (((sortNames l).1).length) c1), (30, I (((((sortNames l).1).length : Nat) : Int))), (31, I ((i : Int)))] ?_
      refine runL_nil ?_
      refine tq_then ?_
      refine tc_seq ?_
      refine tc_region ?_
      refine runL_b [0] [(0, Sl a_l l.length c_l), (3, Pt b1 0), (5, Sl a2 (((sortNames ((sortNames l).1)).1).length) c2), (6, I ((sortNames ((sortNames l).1)).2)), (7, Sr p0), (8, I ((i : Int))), (9, Sr x1), (29, Sl (At b2 o1) (((sortNames l).1).length) c1), (30, I (((((sortNames l).1).length : Nat) : Int))), (31, I ((i : Int))), (37, Sr x1)] ?_
      refine runL_callV 38 (.tuple #[Sr ((pathOf x1).1), I ((pathOf x1).2)]) (pathOf_con g x1 w1) ?_
      refine runL_b [0,0,0,0,0] [(0, Sl a_l l.length c_l), (3, Pt b1 0), (5, Sl a2 (((sortNames ((sortNames l).1)).1).length) c2), (6, I ((sortNames ((sortNames l).1)).2)), (7, Sr p0), (8, I ((i : Int))), (9, Sr x1), (10, Sr ((pathOf x1).1)), (11, I ((pathOf x1).2)), (29, Sl (At b2 o1) (((sortNames l).1).length) c1), (30, I (((((sortNames l).1).length : Nat) : Int))), (31, I ((i : Int)))] ?_
      refine runL_nil ?_
      refine tq_then ?_
      refine tc_seq ?_
      refine tc_seq ?_
      refine tc_region ?_
      refine runL_b [0,0,0] [(0, Sl a_l l.length c_l), (3, Pt b1 0), (5, Sl a2 (((sortNames ((sortNames l).1)).1).length) c2), (6, I ((sortNames ((sortNames l).1)).2)), (7, Sr p0), (8, I ((i : Int))), (9, Sr x1), (10, Sr ((pathOf x1).1)), (29, Sl (At b2 o1) (((sortNames l).1).length) c1), (30, I (((((sortNames l).1).length : Nat) : Int))), (31, I ((i : Int))), (43, Bo (!decide ((pathOf x1).2 = 0)))] ?_
      refine runL_cases (fun bb => [(0, Sl a_l l.length c_l), (3, Pt b1 0), (5, Sl a2 (((sortNames ((sortNames l).1)).1).length) c2), (6, I ((sortNames ((sortNames l).1)).2)), (7, Sr p0), (8, I ((i : Int))), (9, Sr x1), (10, Sr ((pathOf x1).1)), (29, Sl (At b2 o1) (((sortNames l).1).length) c1), (30, I (((((sortNames l).1).length : Nat) : Int))), (31, I ((i : Int))), (43, Bo bb)]) (!decide ((pathOf x1).2 = 0)) (fun h3 => ?_) (fun h3 => ?_)
      ·
        try simp only [decide_eq_true_eq, decide_eq_false_iff_not, Bool.and_eq_true, Bool.or_eq_true, Bool.and_eq_false_imp, Bool.or_eq_false_iff, Bool.not_eq_true', Bool.not_eq_false', Bool.not_eq_true, Bool.not_eq_false, beq_iff_eq, beq_eq_false_iff_ne, bne_iff_ne, ne_eq, Decidable.not_not, Int.not_lt, Int.not_le] at h3
        refine runL_b [1,1,1,1,1,1,1,1,1,1,1,1,1,1,1,1,1,1,1,1,1,0,0,1,1,1,1,0] [(0, Sl a_l l.length c_l), (3, Pt b1 0), (5, Sl a2 (((sortNames ((sortNames l).1)).1).length) c2), (6, I ((sortNames ((sortNames l).1)).2)), (10, Sr ((pathOf x1).1)), (29, Sl (At b2 o1) (((sortNames l).1).length) c1), (30, I (((((sortNames l).1).length : Nat) : Int))), (31, I ((i : Int))), (71, Bo true)] ?_
        refine runL_nil ?_
        refine tq_then ?_
        refine tc_cond_true ?_
        refine tc_rb [0] [(2, Bo false)] ?_
        refine tc_ret ?_
        refine tq_then_ret ?_
        refine tq_block_ret ?_
        refine tq_then_ret ?_
        refine tq_rnd_ret ?_
        refine tq_block_ret ?_
        refine tq_then_ret ?_
        refine tq_ret [0] [Bo false] (bp_ret (Mem.le_trans (Mem.le_trans hl1 hl2) hle) ?_)
        exfalso
        first | (rw [sortNames_no h1]; rfl) | exact absurd (sorts_form h1 hx1).1 h3 | exact sorts_prev h1 (by omega) hx1 hp0 h5 | exact sorts_same h1 (by omega) hkn1 hx1 hx2 hp0 h6 h7 | (have q_ := (sorts_form h1 hx1).2.1; first | (rw [q_] at h8; cases h8) | (rw [q_] at h9; cases h9) | (rw [q_] at h10; cases h10)) | (have q_ := sortNames_again h1; first | exact h12 (by rw [q_]) | exact h11 (by rw [q_]; exact h1) | (rw [sorts_all h1]; rfl))
      ·
        try simp only [decide_eq_true_eq, decide_eq_false_iff_not, Bool.and_eq_true, Bool.or_eq_true, Bool.and_eq_false_imp, Bool.or_eq_false_iff, Bool.not_eq_true', Bool.not_eq_false', Bool.not_eq_true, Bool.not_eq_false, beq_iff_eq, beq_eq_false_iff_ne, bne_iff_ne, ne_eq, Decidable.not_not, Int.not_lt, Int.not_le] at h3
        refine runL_b [0,0,0] [(0, Sl a_l l.length c_l), (3, Pt b1 0), (5, Sl a2 (((sortNames ((sortNames l).1)).1).length) c2), (6, I ((sortNames ((sortNames l).1)).2)), (7, Sr p0), (8, I ((i : Int))), (9, Sr x1), (10, Sr ((pathOf x1).1)), (29, Sl (At b2 o1) (((sortNames l).1).length) c1), (30, I (((((sortNames l).1).length : Nat) : Int))), (31, I ((i : Int))), (43, Bo false), (46, Bo (decide ((i : Int) > 0)))] ?_
        refine runL_cases (fun bb => [(0, Sl a_l l.length c_l), (3, Pt b1 0), (5, Sl a2 (((sortNames ((sortNames l).1)).1).length) c2), (6, I ((sortNames ((sortNames l).1)).2)), (7, Sr p0), (8, I ((i : Int))), (9, Sr x1), (10, Sr ((pathOf x1).1)), (29, Sl (At b2 o1) (((sortNames l).1).length) c1), (30, I (((((sortNames l).1).length : Nat) : Int))), (31, I ((i : Int))), (43, Bo false), (46, Bo bb)]) (decide ((i : Int) > 0)) (fun h4 => ?_) (fun h4 => ?_)
        ·
          try simp only [decide_eq_true_eq, decide_eq_false_iff_not, Bool.and_eq_true, Bool.or_eq_true, Bool.and_eq_false_imp, Bool.or_eq_false_iff, Bool.not_eq_true', Bool.not_eq_false', Bool.not_eq_true, Bool.not_eq_false, beq_iff_eq, beq_eq_false_iff_ne, bne_iff_ne, ne_eq, Decidable.not_not, Int.not_lt, Int.not_le] at h4
          refine runL_b [0,0,0,0] [(0, Sl a_l l.length c_l), (3, Pt b1 0), (5, Sl a2 (((sortNames ((sortNames l).1)).1).length) c2), (6, I ((sortNames ((sortNames l).1)).2)), (7, Sr p0), (8, I ((i : Int))), (9, Sr x1), (10, Sr ((pathOf x1).1)), (29, Sl (At b2 o1) (((sortNames l).1).length) c1), (30, I (((((sortNames l).1).length : Nat) : Int))), (31, I ((i : Int))), (43, Bo false), (46, Bo true), (50, Bo (Go.Op.bytesLess (B ((pathOf x1).1)).toList (B p0).toList))] ?_
          refine runL_eq (fr' := [(0, Sl a_l l.length c_l), (3, Pt b1 0), (5, Sl a2 (((sortNames ((sortNames l).1)).1).length) c2), (6, I ((sortNames ((sortNames l).1)).2)), (7, Sr p0), (8, I ((i : Int))), (9, Sr x1), (10, Sr ((pathOf x1).1)), (29, Sl (At b2 o1) (((sortNames l).1).length) c1), (30, I (((((sortNames l).1).length : Nat) : Int))), (31, I ((i : Int))), (43, Bo false), (46, Bo true), (50, Bo (Go.Op.bytesLess ((pathOf x1).1) p0))]) (L' := [[Sg b1 0 [Sl (At b2 o1) (((sortNames l).1).length) c1]]]) (by simp only [B_toList]) (by rfl) ?_
          refine runL_cases (fun bb => [(0, Sl a_l l.length c_l), (3, Pt b1 0), (5, Sl a2 (((sortNames ((sortNames l).1)).1).length) c2), (6, I ((sortNames ((sortNames l).1)).2)), (7, Sr p0), (8, I ((i : Int))), (9, Sr x1), (10, Sr ((pathOf x1).1)), (29, Sl (At b2 o1) (((sortNames l).1).length) c1), (30, I (((((sortNames l).1).length : Nat) : Int))), (31, I ((i : Int))), (43, Bo false), (46, Bo true), (50, Bo bb)]) (Go.Op.bytesLess ((pathOf x1).1) p0) (fun h5 => ?_) (fun h5 => ?_)
          ·
            try simp only [decide_eq_true_eq, decide_eq_false_iff_not, Bool.and_eq_true, Bool.or_eq_true, Bool.and_eq_false_imp, Bool.or_eq_false_iff, Bool.not_eq_true', Bool.not_eq_false', Bool.not_eq_true, Bool.not_eq_false, beq_iff_eq, beq_eq_false_iff_ne, bne_iff_ne, ne_eq, Decidable.not_not, Int.not_lt, Int.not_le] at h5
            refine runL_b [1,1,1,1,1,1,1,1,1,1,1,1,0,0,0,0,1,1,1,1,0] [(0, Sl a_l l.length c_l), (3, Pt b1 0), (5, Sl a2 (((sortNames ((sortNames l).1)).1).length) c2), (6, I ((sortNames ((sortNames l).1)).2)), (10, Sr ((pathOf x1).1)), (29, Sl (At b2 o1) (((sortNames l).1).length) c1), (30, I (((((sortNames l).1).length : Nat) : Int))), (31, I ((i : Int))), (71, Bo true)] ?_
            refine runL_nil ?_
            refine tq_then ?_
            refine tc_cond_true ?_
            refine tc_rb [0] [(2, Bo false)] ?_
            refine tc_ret ?_
            refine tq_then_ret ?_
            refine tq_block_ret ?_
            refine tq_then_ret ?_
            refine tq_rnd_ret ?_
            refine tq_block_ret ?_
            refine tq_then_ret ?_
            refine tq_ret [0] [Bo false] (bp_ret (Mem.le_trans (Mem.le_trans hl1 hl2) hle) ?_)
            exfalso
            first | (rw [sortNames_no h1]; rfl) | exact absurd (sorts_form h1 hx1).1 h3 | exact sorts_prev h1 (by omega) hx1 hp0 h5 | exact sorts_same h1 (by omega) hkn1 hx1 hx2 hp0 h6 h7 | (have q_ := (sorts_form h1 hx1).2.1; first | (rw [q_] at h8; cases h8) | (rw [q_] at h9; cases h9) | (rw [q_] at h10; cases h10)) | (have q_ := sortNames_again h1; first | exact h12 (by rw [q_]) | exact h11 (by rw [q_]; exact h1) | (rw [sorts_all h1]; rfl))
          ·
            try simp only [decide_eq_true_eq, decide_eq_false_iff_not, Bool.and_eq_true, Bool.or_eq_true, Bool.and_eq_false_imp, Bool.or_eq_false_iff, Bool.not_eq_true', Bool.not_eq_false', Bool.not_eq_true, Bool.not_eq_false, beq_iff_eq, beq_eq_false_iff_ne, bne_iff_ne, ne_eq, Decidable.not_not, Int.not_lt, Int.not_le] at h5
            refine runL_b [0,0,0,0] [(0, Sl a_l l.length c_l), (3, Pt b1 0), (5, Sl a2 (((sortNames ((sortNames l).1)).1).length) c2), (6, I ((sortNames ((sortNames l).1)).2)), (8, I ((i : Int))), (9, Sr x1), (10, Sr ((pathOf x1).1)), (29, Sl (At b2 o1) (((sortNames l).1).length) c1), (30, I (((((sortNames l).1).length : Nat) : Int))), (31, I ((i : Int))), (43, Bo false), (46, Bo true), (50, Bo false), (54, Bo (((B ((pathOf x1).1)).toList == (B p0).toList)))] ?_
            refine runL_eq (fr' := [(0, Sl a_l l.length c_l), (3, Pt b1 0), (5, Sl a2 (((sortNames ((sortNames l).1)).1).length) c2), (6, I ((sortNames ((sortNames l).1)).2)), (8, I ((i : Int))), (9, Sr x1), (10, Sr ((pathOf x1).1)), (29, Sl (At b2 o1) (((sortNames l).1).length) c1), (30, I (((((sortNames l).1).length : Nat) : Int))), (31, I ((i : Int))), (43, Bo false), (46, Bo true), (50, Bo false), (54, Bo (((pathOf x1).1 == p0)))]) (L' := [[Sg b1 0 [Sl (At b2 o1) (((sortNames l).1).length) c1]]]) (by simp only [B_toList]) (by rfl) ?_
            refine runL_cases (fun bb => [(0, Sl a_l l.length c_l), (3, Pt b1 0), (5, Sl a2 (((sortNames ((sortNames l).1)).1).length) c2), (6, I ((sortNames ((sortNames l).1)).2)), (8, I ((i : Int))), (9, Sr x1), (10, Sr ((pathOf x1).1)), (29, Sl (At b2 o1) (((sortNames l).1).length) c1), (30, I (((((sortNames l).1).length : Nat) : Int))), (31, I ((i : Int))), (43, Bo false), (46, Bo true), (50, Bo false), (54, Bo bb)]) (((pathOf x1).1 == p0)) (fun h6 => ?_) (fun h6 => ?_)
            ·
              try simp only [decide_eq_true_eq, decide_eq_false_iff_not, Bool.and_eq_true, Bool.or_eq_true, Bool.and_eq_false_imp, Bool.or_eq_false_iff, Bool.not_eq_true', Bool.not_eq_false', Bool.not_eq_true, Bool.not_eq_false, beq_iff_eq, beq_eq_false_iff_ne, bne_iff_ne, ne_eq, Decidable.not_not, Int.not_lt, Int.not_le] at h6
              refine runL_b [0,2,0,0] [(0, Sl a_l l.length c_l), (3, Pt b1 0), (5, Sl a2 (((sortNames ((sortNames l).1)).1).length) c2), (6, I ((sortNames ((sortNames l).1)).2)), (9, Sr x1), (10, Sr ((pathOf x1).1)), (29, Sl (At b2 o1) (((sortNames l).1).length) c1), (30, I (((((sortNames l).1).length : Nat) : Int))), (31, I ((i : Int))), (43, Bo false), (46, Bo true), (50, Bo false), (54, Bo true), (55, Sr x1), (56, Sl (At b2 o1) (((sortNames l).1).length) c1), (58, I (IntKind.i64.wrap (((i : Int)) - 1)))] ?_
              have e1 : IntKind.i64.wrap (((i : Int)) - 1) = ((i : Int)) - 1 := IntWalk.i64_in _ (by omega)
              refine runL_eq (fr' := [(0, Sl a_l l.length c_l), (3, Pt b1 0), (5, Sl a2 (((sortNames ((sortNames l).1)).1).length) c2), (6, I ((sortNames ((sortNames l).1)).2)), (9, Sr x1), (10, Sr ((pathOf x1).1)), (29, Sl (At b2 o1) (((sortNames l).1).length) c1), (30, I (((((sortNames l).1).length : Nat) : Int))), (31, I ((i : Int))), (43, Bo false), (46, Bo true), (50, Bo false), (54, Bo true), (55, Sr x1), (56, Sl (At b2 o1) (((sortNames l).1).length) c1), (58, I (((i : Int)) - 1))]) (L' := [[Sg b1 0 [Sl (At b2 o1) (((sortNames l).1).length) c1]]]) (by simp only [e1]) (by rfl) ?_
              clear e1
              obtain ⟨kn1, hkn1⟩ : ∃ k_ : Nat, ((i : Int)) - 1 = (k_ : Int) := ⟨(((i : Int)) - 1).toNat, by omega⟩
              have e2 : ((i : Int)) - 1 = (kn1 : Int) := hkn1
              refine runL_b [] [(0, Sl a_l l.length c_l), (3, Pt b1 0), (5, Sl a2 (((sortNames ((sortNames l).1)).1).length) c2), (6, I ((sortNames ((sortNames l).1)).2)), (9, Sr x1), (10, Sr ((pathOf x1).1)), (29, Sl (At b2 o1) (((sortNames l).1).length) c1), (30, I (((((sortNames l).1).length : Nat) : Int))), (31, I ((i : Int))), (43, Bo false), (46, Bo true), (50, Bo false), (54, Bo true), (55, Sr x1), (56, Sl (At b2 o1) (((sortNames l).1).length) c1), (58, I (((i : Int)) - 1))] ?_
              refine runL_eq (fr' := [(0, Sl a_l l.length c_l), (3, Pt b1 0), (5, Sl a2 (((sortNames ((sortNames l).1)).1).length) c2), (6, I ((sortNames ((sortNames l).1)).2)), (9, Sr x1), (10, Sr ((pathOf x1).1)), (29, Sl (At b2 o1) (((sortNames l).1).length) c1), (30, I (((((sortNames l).1).length : Nat) : Int))), (31, I ((i : Int))), (43, Bo false), (46, Bo true), (50, Bo false), (54, Bo true), (55, Sr x1), (56, Sl (At b2 o1) (((sortNames l).1).length) c1), (58, I ((kn1 : Int)))]) (L' := [[Sg b1 0 [Sl (At b2 o1) (((sortNames l).1).length) c1]]]) (by first | rfl | (simp only [e2]; done) | (simp only [e2]; rfl)) (by first | rfl | (simp only [e2]; done) | (simp only [e2]; rfl)) ?_
              obtain ⟨x2, hx2⟩ := getX (l := (sortNames l).1) (k := kn1) (by omega)
              obtain ⟨_, ⟨rfl, w2⟩, hc2⟩ := RS.get (hs1.mono (Mem.le_trans hl2 hle)) hx2
              refine runL_idx (b := b2) (off := o1) (len := ((sortNames l).1).length) (cap := c1) (ik := .i64) 59 9 1 kn1 (by omega) ?_
              refine runL_ldG 60 9 (cs := [Sr x2]) 0 (Sr x2) hc2 ?_
              refine runL_b [0,0,0,0,0,0] [(0, Sl a_l l.length c_l), (3, Pt b1 0), (5, Sl a2 (((sortNames ((sortNames l).1)).1).length) c2), (6, I ((sortNames ((sortNames l).1)).2)), (9, Sr x1), (10, Sr ((pathOf x1).1)), (29, Sl (At b2 o1) (((sortNames l).1).length) c1), (30, I (((((sortNames l).1).length : Nat) : Int))), (31, I ((i : Int))), (66, Bo ((Go.Op.bytesLess (B x1).toList (B x2).toList || ((B x1).toList == (B x2).toList))))] ?_
              refine runL_eq (fr' := [(0, Sl a_l l.length c_l), (3, Pt b1 0), (5, Sl a2 (((sortNames ((sortNames l).1)).1).length) c2), (6, I ((sortNames ((sortNames l).1)).2)), (9, Sr x1), (10, Sr ((pathOf x1).1)), (29, Sl (At b2 o1) (((sortNames l).1).length) c1), (30, I (((((sortNames l).1).length : Nat) : Int))), (31, I ((i : Int))), (66, Bo ((Go.Op.bytesLess x1 x2 || (x1 == x2))))]) (L' := [[Sg b1 0 [Sl (At b2 o1) (((sortNames l).1).length) c1]]]) (by simp only [B_toList]) (by rfl) ?_
              refine runL_cases (fun bb => [(0, Sl a_l l.length c_l), (3, Pt b1 0), (5, Sl a2 (((sortNames ((sortNames l).1)).1).length) c2), (6, I ((sortNames ((sortNames l).1)).2)), (9, Sr x1), (10, Sr ((pathOf x1).1)), (29, Sl (At b2 o1) (((sortNames l).1).length) c1), (30, I (((((sortNames l).1).length : Nat) : Int))), (31, I ((i : Int))), (66, Bo bb)]) ((Go.Op.bytesLess x1 x2 || (x1 == x2))) (fun h7 => ?_) (fun h7 => ?_)
              ·
                try simp only [decide_eq_true_eq, decide_eq_false_iff_not, Bool.and_eq_true, Bool.or_eq_true, Bool.and_eq_false_imp, Bool.or_eq_false_iff, Bool.not_eq_true', Bool.not_eq_false', Bool.not_eq_true, Bool.not_eq_false, beq_iff_eq, beq_eq_false_iff_ne, bne_iff_ne, ne_eq, Decidable.not_not, Int.not_lt, Int.not_le] at h7
                refine runL_b [1,1,1,1,0] [(0, Sl a_l l.length c_l), (3, Pt b1 0), (5, Sl a2 (((sortNames ((sortNames l).1)).1).length) c2), (6, I ((sortNames ((sortNames l).1)).2)), (10, Sr ((pathOf x1).1)), (29, Sl (At b2 o1) (((sortNames l).1).length) c1), (30, I (((((sortNames l).1).length : Nat) : Int))), (31, I ((i : Int))), (71, Bo true)] ?_
                refine runL_nil ?_
                refine tq_then ?_
                refine tc_cond_true ?_
                refine tc_rb [0] [(2, Bo false)] ?_
                refine tc_ret ?_
                refine tq_then_ret ?_
                refine tq_block_ret ?_
                refine tq_then_ret ?_
                refine tq_rnd_ret ?_
                refine tq_block_ret ?_
                refine tq_then_ret ?_
                refine tq_ret [0] [Bo false] (bp_ret (Mem.le_trans (Mem.le_trans hl1 hl2) hle) ?_)
                exfalso
                first | (rw [sortNames_no h1]; rfl) | exact absurd (sorts_form h1 hx1).1 h3 | exact sorts_prev h1 (by omega) hx1 hp0 h5 | exact sorts_same h1 (by omega) hkn1 hx1 hx2 hp0 h6 h7 | (have q_ := (sorts_form h1 hx1).2.1; first | (rw [q_] at h8; cases h8) | (rw [q_] at h9; cases h9) | (rw [q_] at h10; cases h10)) | (have q_ := sortNames_again h1; first | exact h12 (by rw [q_]) | exact h11 (by rw [q_]; exact h1) | (rw [sorts_all h1]; rfl))
              ·
                try simp only [decide_eq_true_eq, decide_eq_false_iff_not, Bool.and_eq_true, Bool.or_eq_true, Bool.and_eq_false_imp, Bool.or_eq_false_iff, Bool.not_eq_true', Bool.not_eq_false', Bool.not_eq_true, Bool.not_eq_false, beq_iff_eq, beq_eq_false_iff_ne, bne_iff_ne, ne_eq, Decidable.not_not, Int.not_lt, Int.not_le] at h7
                refine runL_b [0,0] [(0, Sl a_l l.length c_l), (3, Pt b1 0), (5, Sl a2 (((sortNames ((sortNames l).1)).1).length) c2), (6, I ((sortNames ((sortNames l).1)).2)), (10, Sr ((pathOf x1).1)), (29, Sl (At b2 o1) (((sortNames l).1).length) c1), (30, I (((((sortNames l).1).length : Nat) : Int))), (31, I ((i : Int))), (66, Bo false), (67, Sl a_l l.length c_l), (68, Sr x1)] ?_
                refine runL_callV 69 (Bo (l.any (fun x => decide (x1 = x)))) (shas_ES g a_l c_l l (h_l.mono (Mem.le_trans (Mem.le_trans hl1 hl2) hle)) x1) ?_
                refine runL_b [0,0] [(0, Sl a_l l.length c_l), (3, Pt b1 0), (5, Sl a2 (((sortNames ((sortNames l).1)).1).length) c2), (6, I ((sortNames ((sortNames l).1)).2)), (10, Sr ((pathOf x1).1)), (29, Sl (At b2 o1) (((sortNames l).1).length) c1), (30, I (((((sortNames l).1).length : Nat) : Int))), (31, I ((i : Int))), (71, Bo (!(l.any (fun x => decide (x1 = x)))))] ?_
                refine runL_nil ?_
                refine tq_then ?_
                refine tc_cond (!(l.any (fun x => decide (x1 = x)))) (fun h8 => ?_) (fun h8 => ?_)
                ·
                  try simp only [decide_eq_true_eq, decide_eq_false_iff_not, Bool.and_eq_true, Bool.or_eq_true, Bool.and_eq_false_imp, Bool.or_eq_false_iff, Bool.not_eq_true', Bool.not_eq_false', Bool.not_eq_true, Bool.not_eq_false, beq_iff_eq, beq_eq_false_iff_ne, bne_iff_ne, ne_eq, Decidable.not_not, Int.not_lt, Int.not_le] at h8
                  refine tc_rb [0] [(2, Bo false)] ?_
                  refine tc_ret ?_
                  refine tq_then_ret ?_
                  refine tq_block_ret ?_
                  refine tq_then_ret ?_
                  refine tq_rnd_ret ?_
                  refine tq_block_ret ?_
                  refine tq_then_ret ?_
                  refine tq_ret [0] [Bo false] (bp_ret (Mem.le_trans (Mem.le_trans hl1 hl2) hle) ?_)
                  exfalso
                  first | (rw [sortNames_no h1]; rfl) | exact absurd (sorts_form h1 hx1).1 h3 | exact sorts_prev h1 (by omega) hx1 hp0 h5 | exact sorts_same h1 (by omega) hkn1 hx1 hx2 hp0 h6 h7 | (have q_ := (sorts_form h1 hx1).2.1; first | (rw [q_] at h8; cases h8) | (rw [q_] at h9; cases h9) | (rw [q_] at h10; cases h10)) | (have q_ := sortNames_again h1; first | exact h12 (by rw [q_]) | exact h11 (by rw [q_]; exact h1) | (rw [sorts_all h1]; rfl))
                ·
                  try simp only [decide_eq_true_eq, decide_eq_false_iff_not, Bool.and_eq_true, Bool.or_eq_true, Bool.and_eq_false_imp, Bool.or_eq_false_iff, Bool.not_eq_true', Bool.not_eq_false', Bool.not_eq_true, Bool.not_eq_false, beq_iff_eq, beq_eq_false_iff_ne, bne_iff_ne, ne_eq, Decidable.not_not, Int.not_lt, Int.not_le] at h8
                  refine tc_skip ?_
                  refine tq_then ?_
                  refine tc_region ?_
                  refine runL_b [0,0] [(0, Sl a_l l.length c_l), (3, Pt b1 0), (5, Sl a2 (((sortNames ((sortNames l).1)).1).length) c2), (6, I ((sortNames ((sortNames l).1)).2)), (7, Sr ((pathOf x1).1)), (29, Sl (At b2 o1) (((sortNames l).1).length) c1), (30, I (((((sortNames l).1).length : Nat) : Int))), (31, I ((i : Int)))] ?_
                  refine runL_nil ?_
                  refine tq_block ?_
                  refine tq_then ?_
                  refine tc_region ?_
                  refine runL_b [0,0] [(0, Sl a_l l.length c_l), (3, Pt b1 0), (5, Sl a2 (((sortNames ((sortNames l).1)).1).length) c2), (6, I ((sortNames ((sortNames l).1)).2)), (7, Sr ((pathOf x1).1)), (29, Sl (At b2 o1) (((sortNames l).1).length) c1), (30, I (((((sortNames l).1).length : Nat) : Int))), (31, I (IntKind.i64.wrap (((i : Int)) + 1)))] ?_
                  have e3 : IntKind.i64.wrap (((i : Int)) + 1) = ((i : Int)) + 1 := IntWalk.i64_in _ (by omega)
                  refine runL_eq (fr' := [(0, Sl a_l l.length c_l), (3, Pt b1 0), (5, Sl a2 (((sortNames ((sortNames l).1)).1).length) c2), (6, I ((sortNames ((sortNames l).1)).2)), (7, Sr ((pathOf x1).1)), (29, Sl (At b2 o1) (((sortNames l).1).length) c1), (30, I (((((sortNames l).1).length : Nat) : Int))), (31, I (((i : Int)) + 1))]) (L' := [[Sg b1 0 [Sl (At b2 o1) (((sortNames l).1).length) c1]]]) (by simp only [e3]) (by rfl) ?_
                  clear e3
                  refine runL_nil ?_
                  exact tq_rnd ((i + 1, (pathOf x1).1, g)) ⟨(Mem.le_trans hle (Mem.le_refl _)), (by omega), (fun y _ hy => by (try dsimp only at hy); simp only [Nat.add_sub_cancel] at hy; rw [hx1] at hy; cases hy; rfl)⟩ (by (try dsimp only); omega)
            ·
              try simp only [decide_eq_true_eq, decide_eq_false_iff_not, Bool.and_eq_true, Bool.or_eq_true, Bool.and_eq_false_imp, Bool.or_eq_false_iff, Bool.not_eq_true', Bool.not_eq_false', Bool.not_eq_true, Bool.not_eq_false, beq_iff_eq, beq_eq_false_iff_ne, bne_iff_ne, ne_eq, Decidable.not_not, Int.not_lt, Int.not_le] at h6
              refine runL_b [1,1,1,1,1,1,1,0,0,0,0,0,0,0] [(0, Sl a_l l.length c_l), (3, Pt b1 0), (5, Sl a2 (((sortNames ((sortNames l).1)).1).length) c2), (6, I ((sortNames ((sortNames l).1)).2)), (10, Sr ((pathOf x1).1)), (29, Sl (At b2 o1) (((sortNames l).1).length) c1), (30, I (((((sortNames l).1).length : Nat) : Int))), (31, I ((i : Int))), (66, Bo false), (67, Sl a_l l.length c_l), (68, Sr x1)] ?_
              refine runL_callV 69 (Bo (l.any (fun x => decide (x1 = x)))) (shas_ES g a_l c_l l (h_l.mono (Mem.le_trans (Mem.le_trans hl1 hl2) hle)) x1) ?_
              refine runL_b [0,0] [(0, Sl a_l l.length c_l), (3, Pt b1 0), (5, Sl a2 (((sortNames ((sortNames l).1)).1).length) c2), (6, I ((sortNames ((sortNames l).1)).2)), (10, Sr ((pathOf x1).1)), (29, Sl (At b2 o1) (((sortNames l).1).length) c1), (30, I (((((sortNames l).1).length : Nat) : Int))), (31, I ((i : Int))), (71, Bo (!(l.any (fun x => decide (x1 = x)))))] ?_
              refine runL_nil ?_
              refine tq_then ?_
              refine tc_cond (!(l.any (fun x => decide (x1 = x)))) (fun h9 => ?_) (fun h9 => ?_)
              ·
                try simp only [decide_eq_true_eq, decide_eq_false_iff_not, Bool.and_eq_true, Bool.or_eq_true, Bool.and_eq_false_imp, Bool.or_eq_false_iff, Bool.not_eq_true', Bool.not_eq_false', Bool.not_eq_true, Bool.not_eq_false, beq_iff_eq, beq_eq_false_iff_ne, bne_iff_ne, ne_eq, Decidable.not_not, Int.not_lt, Int.not_le] at h9
                refine tc_rb [0] [(2, Bo false)] ?_
                refine tc_ret ?_
                refine tq_then_ret ?_
                refine tq_block_ret ?_
                refine tq_then_ret ?_
                refine tq_rnd_ret ?_
                refine tq_block_ret ?_
                refine tq_then_ret ?_
                refine tq_ret [0] [Bo false] (bp_ret (Mem.le_trans (Mem.le_trans hl1 hl2) hle) ?_)
                exfalso
                first | (rw [sortNames_no h1]; rfl) | exact absurd (sorts_form h1 hx1).1 h3 | exact sorts_prev h1 (by omega) hx1 hp0 h5 | exact sorts_same h1 (by omega) hkn1 hx1 hx2 hp0 h6 h7 | (have q_ := (sorts_form h1 hx1).2.1; first | (rw [q_] at h8; cases h8) | (rw [q_] at h9; cases h9) | (rw [q_] at h10; cases h10)) | (have q_ := sortNames_again h1; first | exact h12 (by rw [q_]) | exact h11 (by rw [q_]; exact h1) | (rw [sorts_all h1]; rfl))
              ·
                try simp only [decide_eq_true_eq, decide_eq_false_iff_not, Bool.and_eq_true, Bool.or_eq_true, Bool.and_eq_false_imp, Bool.or_eq_false_iff, Bool.not_eq_true', Bool.not_eq_false', Bool.not_eq_true, Bool.not_eq_false, beq_iff_eq, beq_eq_false_iff_ne, bne_iff_ne, ne_eq, Decidable.not_not, Int.not_lt, Int.not_le] at h9
                refine tc_skip ?_
                refine tq_then ?_
                refine tc_region ?_
                refine runL_b [0,0] [(0, Sl a_l l.length c_l), (3, Pt b1 0), (5, Sl a2 (((sortNames ((sortNames l).1)).1).length) c2), (6, I ((sortNames ((sortNames l).1)).2)), (7, Sr ((pathOf x1).1)), (29, Sl (At b2 o1) (((sortNames l).1).length) c1), (30, I (((((sortNames l).1).length : Nat) : Int))), (31, I ((i : Int)))] ?_
                refine runL_nil ?_
                refine tq_block ?_
                refine tq_then ?_
                refine tc_region ?_
                refine runL_b [0,0] [(0, Sl a_l l.length c_l), (3, Pt b1 0), (5, Sl a2 (((sortNames ((sortNames l).1)).1).length) c2), (6, I ((sortNames ((sortNames l).1)).2)), (7, Sr ((pathOf x1).1)), (29, Sl (At b2 o1) (((sortNames l).1).length) c1), (30, I (((((sortNames l).1).length : Nat) : Int))), (31, I (IntKind.i64.wrap (((i : Int)) + 1)))] ?_
                have e4 : IntKind.i64.wrap (((i : Int)) + 1) = ((i : Int)) + 1 := IntWalk.i64_in _ (by omega)
                refine runL_eq (fr' := [(0, Sl a_l l.length c_l), (3, Pt b1 0), (5, Sl a2 (((sortNames ((sortNames l).1)).1).length) c2), (6, I ((sortNames ((sortNames l).1)).2)), (7, Sr ((pathOf x1).1)), (29, Sl (At b2 o1) (((sortNames l).1).length) c1), (30, I (((((sortNames l).1).length : Nat) : Int))), (31, I (((i : Int)) + 1))]) (L' := [[Sg b1 0 [Sl (At b2 o1) (((sortNames l).1).length) c1]]]) (by simp only [e4]) (by rfl) ?_
                clear e4
                refine runL_nil ?_
                exact tq_rnd ((i + 1, (pathOf x1).1, g)) ⟨(Mem.le_trans hle (Mem.le_refl _)), (by omega), (fun y _ hy => by (try dsimp only at hy); simp only [Nat.add_sub_cancel] at hy; rw [hx1] at hy; cases hy; rfl)⟩ (by (try dsimp only); omega)
        ·
          try simp only [decide_eq_true_eq, decide_eq_false_iff_not, Bool.and_eq_true, Bool.or_eq_true, Bool.and_eq_false_imp, Bool.or_eq_false_iff, Bool.not_eq_true', Bool.not_eq_false', Bool.not_eq_true, Bool.not_eq_false, beq_iff_eq, beq_eq_false_iff_ne, bne_iff_ne, ne_eq, Decidable.not_not, Int.not_lt, Int.not_le] at h4
          refine runL_b [1,1,1,1,1,1,1,1,1,1,1,1,1,1,1,1,1,0,0,0,0,0] [(0, Sl a_l l.length c_l), (3, Pt b1 0), (5, Sl a2 (((sortNames ((sortNames l).1)).1).length) c2), (6, I ((sortNames ((sortNames l).1)).2)), (10, Sr ((pathOf x1).1)), (29, Sl (At b2 o1) (((sortNames l).1).length) c1), (30, I (((((sortNames l).1).length : Nat) : Int))), (31, I ((i : Int))), (66, Bo false), (67, Sl a_l l.length c_l), (68, Sr x1)] ?_
          refine runL_callV 69 (Bo (l.any (fun x => decide (x1 = x)))) (shas_ES g a_l c_l l (h_l.mono (Mem.le_trans (Mem.le_trans hl1 hl2) hle)) x1) ?_
          refine runL_b [0,0] [(0, Sl a_l l.length c_l), (3, Pt b1 0), (5, Sl a2 (((sortNames ((sortNames l).1)).1).length) c2), (6, I ((sortNames ((sortNames l).1)).2)), (10, Sr ((pathOf x1).1)), (29, Sl (At b2 o1) (((sortNames l).1).length) c1), (30, I (((((sortNames l).1).length : Nat) : Int))), (31, I ((i : Int))), (71, Bo (!(l.any (fun x => decide (x1 = x)))))] ?_
          refine runL_nil ?_
          refine tq_then ?_
          refine tc_cond (!(l.any (fun x => decide (x1 = x)))) (fun h10 => ?_) (fun h10 => ?_)
          ·
            try simp only [decide_eq_true_eq, decide_eq_false_iff_not, Bool.and_eq_true, Bool.or_eq_true, Bool.and_eq_false_imp, Bool.or_eq_false_iff, Bool.not_eq_true', Bool.not_eq_false', Bool.not_eq_true, Bool.not_eq_false, beq_iff_eq, beq_eq_false_iff_ne, bne_iff_ne, ne_eq, Decidable.not_not, Int.not_lt, Int.not_le] at h10
            refine tc_rb [0] [(2, Bo false)] ?_
            refine tc_ret ?_
            refine tq_then_ret ?_
            refine tq_block_ret ?_
            refine tq_then_ret ?_
            refine tq_rnd_ret ?_
            refine tq_block_ret ?_
            refine tq_then_ret ?_
            refine tq_ret [0] [Bo false] (bp_ret (Mem.le_trans (Mem.le_trans hl1 hl2) hle) ?_)
            exfalso
            first | (rw [sortNames_no h1]; rfl) | exact absurd (sorts_form h1 hx1).1 h3 | exact sorts_prev h1 (by omega) hx1 hp0 h5 | exact sorts_same h1 (by omega) hkn1 hx1 hx2 hp0 h6 h7 | (have q_ := (sorts_form h1 hx1).2.1; first | (rw [q_] at h8; cases h8) | (rw [q_] at h9; cases h9) | (rw [q_] at h10; cases h10)) | (have q_ := sortNames_again h1; first | exact h12 (by rw [q_]) | exact h11 (by rw [q_]; exact h1) | (rw [sorts_all h1]; rfl))
          ·
            try simp only [decide_eq_true_eq, decide_eq_false_iff_not, Bool.and_eq_true, Bool.or_eq_true, Bool.and_eq_false_imp, Bool.or_eq_false_iff, Bool.not_eq_true', Bool.not_eq_false', Bool.not_eq_true, Bool.not_eq_false, beq_iff_eq, beq_eq_false_iff_ne, bne_iff_ne, ne_eq, Decidable.not_not, Int.not_lt, Int.not_le] at h10
            refine tc_skip ?_
            refine tq_then ?_
            refine tc_region ?_
            refine runL_b [0,0] [(0, Sl a_l l.length c_l), (3, Pt b1 0), (5, Sl a2 (((sortNames ((sortNames l).1)).1).length) c2), (6, I ((sortNames ((sortNames l).1)).2)), (7, Sr ((pathOf x1).1)), (29, Sl (At b2 o1) (((sortNames l).1).length) c1), (30, I (((((sortNames l).1).length : Nat) : Int))), (31, I ((i : Int)))] ?_
            refine runL_nil ?_
            refine tq_block ?_
            refine tq_then ?_
            refine tc_region ?_
            refine runL_b [0,0] [(0, Sl a_l l.length c_l), (3, Pt b1 0), (5, Sl a2 (((sortNames ((sortNames l).1)).1).length) c2), (6, I ((sortNames ((sortNames l).1)).2)), (7, Sr ((pathOf x1).1)), (29, Sl (At b2 o1) (((sortNames l).1).length) c1), (30, I (((((sortNames l).1).length : Nat) : Int))), (31, I (IntKind.i64.wrap (((i : Int)) + 1)))] ?_
            have e5 : IntKind.i64.wrap (((i : Int)) + 1) = ((i : Int)) + 1 := IntWalk.i64_in _ (by omega)
            refine runL_eq (fr' := [(0, Sl a_l l.length c_l), (3, Pt b1 0), (5, Sl a2 (((sortNames ((sortNames l).1)).1).length) c2), (6, I ((sortNames ((sortNames l).1)).2)), (7, Sr ((pathOf x1).1)), (29, Sl (At b2 o1) (((sortNames l).1).length) c1), (30, I (((((sortNames l).1).length : Nat) : Int))), (31, I (((i : Int)) + 1))]) (L' := [[Sg b1 0 [Sl (At b2 o1) (((sortNames l).1).length) c1]]]) (by simp only [e5]) (by rfl) ?_
            clear e5
            refine runL_nil ?_
            exact tq_rnd ((i + 1, (pathOf x1).1, g)) ⟨(Mem.le_trans hle (Mem.le_refl _)), (by omega), (fun y _ hy => by (try dsimp only at hy); simp only [Nat.add_sub_cancel] at hy; rw [hx1] at hy; cases hy; rfl)⟩ (by (try dsimp only); omega)
    ·
      try simp only [decide_eq_true_eq, decide_eq_false_iff_not, Bool.and_eq_true, Bool.or_eq_true, Bool.and_eq_false_imp, Bool.or_eq_false_iff, Bool.not_eq_true', Bool.not_eq_false', Bool.not_eq_true, Bool.not_eq_false, beq_iff_eq, beq_eq_false_iff_ne, bne_iff_ne, ne_eq, Decidable.not_not, Int.not_lt, Int.not_le] at h2
      refine tc_exit ?_
      refine tq_then_exit ?_
      refine tq_rnd_exit ?_
      refine tq_block_here ?_
      refine tq_then ?_
      refine tc_seq ?_
      refine tc_region ?_
      refine runL_b [0,0,0] [(0, Sl a_l l.length c_l), (3, Pt b1 0), (5, Sl a2 (((sortNames ((sortNames l).1)).1).length) c2), (76, Bo (decide ((sortNames ((sortNames l).1)).2 = 0)))] ?_
      refine runL_cases (fun bb => [(0, Sl a_l l.length c_l), (3, Pt b1 0), (5, Sl a2 (((sortNames ((sortNames l).1)).1).length) c2), (76, Bo bb)]) (decide ((sortNames ((sortNames l).1)).2 = 0)) (fun h11 => ?_) (fun h11 => ?_)
      ·
        try simp only [decide_eq_true_eq, decide_eq_false_iff_not, Bool.and_eq_true, Bool.or_eq_true, Bool.and_eq_false_imp, Bool.or_eq_false_iff, Bool.not_eq_true', Bool.not_eq_false', Bool.not_eq_true, Bool.not_eq_false, beq_iff_eq, beq_eq_false_iff_ne, bne_iff_ne, ne_eq, Decidable.not_not, Int.not_lt, Int.not_le] at h11
        refine runL_b [2,0] [(0, Sl a_l l.length c_l), (3, Pt b1 0), (76, Bo true), (77, Sl a1 (((sortNames l).1).length) c1), (78, Sl a2 (((sortNames ((sortNames l).1)).1).length) c2)] ?_
        refine runL_callV 79 (Bo (decide ((sortNames l).1 = (sortNames ((sortNames l).1)).1))) (seq_ES g a1 c1 ((sortNames l).1) (hs1.mono (Mem.le_trans hl2 hle)) a2 c2 ((sortNames ((sortNames l).1)).1) (hs2.mono hle)) ?_
        refine runL_b [0,0] [(0, Sl a_l l.length c_l), (3, Pt b1 0), (81, Bo (decide ((sortNames l).1 = (sortNames ((sortNames l).1)).1)))] ?_
        refine runL_cases (fun bb => [(0, Sl a_l l.length c_l), (3, Pt b1 0), (81, Bo bb)]) (decide ((sortNames l).1 = (sortNames ((sortNames l).1)).1)) (fun h12 => ?_) (fun h12 => ?_)
        ·
          try simp only [decide_eq_true_eq, decide_eq_false_iff_not, Bool.and_eq_true, Bool.or_eq_true, Bool.and_eq_false_imp, Bool.or_eq_false_iff, Bool.not_eq_true', Bool.not_eq_false', Bool.not_eq_true, Bool.not_eq_false, beq_iff_eq, beq_eq_false_iff_ne, bne_iff_ne, ne_eq, Decidable.not_not, Int.not_lt, Int.not_le] at h12
          refine runL_b [0,0] [(81, Bo true), (82, Sl a_l l.length c_l), (83, .func (.func 22) #[] #[Pt b1 0])] ?_
          refine runL_frz1 (b := b1) (o := 0) (cs := [Sl a1 (((sortNames l).1).length) c1]) 0 (fun G3 hl3 hz1 => ?_)
          refine runL_callV 84 (Bo (l.any ((fun x0 => !(((sortNames l).1).any fun z => decide (x0 = z)))))) (sany_ES G3 a_l c_l l (h_l.mono (Mem.le_trans (Mem.le_trans (Mem.le_trans hl1 hl2) hle) hl3)) 22 #[Pt b1 0] ((fun x0 => !(((sortNames l).1).any fun z => decide (x0 = z)))) ((fun _ _ => by kernel_rfl)) ((fun x0 hx0 => notIn_con G3 x0 hx0 [Sl a1 (((sortNames l).1).length) c1] ((sortNames l).1) (⟨a1, c1, rfl, (hs1.mono (Mem.le_trans (Mem.le_trans hl2 hle) hl3))⟩) b1 hz1))) ?_
          refine runL_b [0,0,0] [(2, Bo (!(l.any ((fun x0 => !(((sortNames l).1).any fun z => decide (x0 = z)))))))] ?_
          refine runL_nil ?_
          refine tq_then ?_
          refine tc_ret ?_
          refine tq_ret [0] [Bo (!(l.any ((fun x0 => !(((sortNames l).1).any fun z => decide (x0 = z))))))] (bp_ret (Mem.le_trans (Mem.le_trans (Mem.le_trans hl1 hl2) hle) hl3) ?_)
          have hf_ : (!(l.any ((fun x0 => !(((sortNames l).1).any fun z => decide (x0 = z)))))) = true := by
            first | (rw [sortNames_no h1]; rfl) | exact absurd (sorts_form h1 hx1).1 h3 | exact sorts_prev h1 (by omega) hx1 hp0 h5 | exact sorts_same h1 (by omega) hkn1 hx1 hx2 hp0 h6 h7 | (have q_ := (sorts_form h1 hx1).2.1; first | (rw [q_] at h8; cases h8) | (rw [q_] at h9; cases h9) | (rw [q_] at h10; cases h10)) | (have q_ := sortNames_again h1; first | exact h12 (by rw [q_]) | exact h11 (by rw [q_]; exact h1) | (rw [sorts_all h1]; rfl))
          exact congrArg Bo hf_
        ·
          try simp only [decide_eq_true_eq, decide_eq_false_iff_not, Bool.and_eq_true, Bool.or_eq_true, Bool.and_eq_false_imp, Bool.or_eq_false_iff, Bool.not_eq_true', Bool.not_eq_false', Bool.not_eq_true, Bool.not_eq_false, beq_iff_eq, beq_eq_false_iff_ne, bne_iff_ne, ne_eq, Decidable.not_not, Int.not_lt, Int.not_le] at h12
          refine runL_b [1,1,1,1,0,0] [(2, Bo false)] ?_
          refine runL_nil ?_
          refine tq_then ?_
          refine tc_ret ?_
          refine tq_ret [0] [Bo false] (bp_ret (Mem.le_trans (Mem.le_trans hl1 hl2) hle) ?_)
          exfalso
          first | (rw [sortNames_no h1]; rfl) | exact absurd (sorts_form h1 hx1).1 h3 | exact sorts_prev h1 (by omega) hx1 hp0 h5 | exact sorts_same h1 (by omega) hkn1 hx1 hx2 hp0 h6 h7 | (have q_ := (sorts_form h1 hx1).2.1; first | (rw [q_] at h8; cases h8) | (rw [q_] at h9; cases h9) | (rw [q_] at h10; cases h10)) | (have q_ := sortNames_again h1; first | exact h12 (by rw [q_]) | exact h11 (by rw [q_]; exact h1) | (rw [sorts_all h1]; rfl))
      ·
        try simp only [decide_eq_true_eq, decide_eq_false_iff_not, Bool.and_eq_true, Bool.or_eq_true, Bool.and_eq_false_imp, Bool.or_eq_false_iff, Bool.not_eq_true', Bool.not_eq_false', Bool.not_eq_true, Bool.not_eq_false, beq_iff_eq, beq_eq_false_iff_ne, bne_iff_ne, ne_eq, Decidable.not_not, Int.not_lt, Int.not_le] at h11
        refine runL_b [1,1,1,0,0,1,1,1,1,0,0] [(2, Bo false)] ?_
        refine runL_nil ?_
        refine tq_then ?_
        refine tc_ret ?_
        refine tq_ret [0] [Bo false] (bp_ret (Mem.le_trans (Mem.le_trans hl1 hl2) hle) ?_)
        exfalso
        first | (rw [sortNames_no h1]; rfl) | exact absurd (sorts_form h1 hx1).1 h3 | exact sorts_prev h1 (by omega) hx1 hp0 h5 | exact sorts_same h1 (by omega) hkn1 hx1 hx2 hp0 h6 h7 | (have q_ := (sorts_form h1 hx1).2.1; first | (rw [q_] at h8; cases h8) | (rw [q_] at h9; cases h9) | (rw [q_] at h10; cases h10)) | (have q_ := sortNames_again h1; first | exact h12 (by rw [q_]) | exact h11 (by rw [q_]; exact h1) | (rw [sorts_all h1]; rfl))
end Go.Proofs.Ytmpakffajpnffaa
