import Derived.Test.YtngoijkcbmchdaaGreatDoorHeadN
namespace Go.Proofs.YtngoijkcbmchdaaGreatDoor
open Go.Tx
set_option linter.unusedVariables false
set_option linter.unusedSimpArgs false

def linkB (x y : HeadD) : Bool := decide (headNext x y.root y.at_ = (y, 0))
theorem linkB_iff {x y : HeadD} : linkB x y = true ↔ (headNext x y.root y.at_).2 = 0 ∧ (headNext x y.root y.at_).1.epoch = y.epoch ∧ (headNext x y.root y.at_).1.root = y.root ∧ (headNext x y.root y.at_).1.prev = y.prev ∧ (headNext x y.root y.at_).1.at_ = y.at_ := by
  unfold linkB
  rw [decide_eq_true_eq]
  constructor
  · intro h; rw [h]; simp
  · rintro ⟨h1, h2⟩
    exact Prod.ext (HeadD_ne.2 h2) h1
def lnk : List HeadD → Nat → Int
  | x :: y :: r, i => if linkB x y then lnk (y :: r) (i + 1) else (i : Int)
  | _, _ => -1
def linkedI (l : List HeadD) : Int := lnk l 1
theorem lnk_end {l : List HeadD} {i : Nat} (h : l.length ≤ 1) : lnk l i = -1 := by
  match l, h with
  | [], _ => rfl
  | [_], _ => rfl
theorem lnk_step {l : List HeadD} {i : Nat} {x y : HeadD} (hi : 1 ≤ i) (hx : l[i - 1]? = some x) (hy : l[i]? = some y) (h : linkB x y = true) : lnk (l.drop (i - 1)) i = lnk (l.drop (i + 1 - 1)) (i + 1) := by
  obtain ⟨h1, rfl⟩ := List.getElem?_eq_some_iff.1 hx
  obtain ⟨h2, rfl⟩ := List.getElem?_eq_some_iff.1 hy
  rw [List.drop_eq_getElem_cons h1, show i - 1 + 1 = i by omega, show i + 1 - 1 = i by omega, List.drop_eq_getElem_cons h2]
  show (if linkB _ _ = true then _ else _) = _
  rw [if_pos h]
theorem lnk_at {l : List HeadD} {i : Nat} {x y : HeadD} (hi : 1 ≤ i) (hx : l[i - 1]? = some x) (hy : l[i]? = some y) (h : ¬ linkB x y = true) : lnk (l.drop (i - 1)) i = (i : Int) := by
  obtain ⟨h1, rfl⟩ := List.getElem?_eq_some_iff.1 hx
  obtain ⟨h2, rfl⟩ := List.getElem?_eq_some_iff.1 hy
  rw [List.drop_eq_getElem_cons h1, show i - 1 + 1 = i by omega, List.drop_eq_getElem_cons h2]
  show (if linkB _ _ = true then _ else _) = _
  rw [if_neg h]
theorem lnk_iff : ∀ (l : List HeadD) (i : Nat), lnk l i < 0 ↔ ∀ (k : Nat) x y, l[k]? = some x → l[k + 1]? = some y → linkB x y = true
  | [], i => by simp [lnk]
  | [a], i => by simp [lnk]
  | a :: b :: r, i => by
    have ih := lnk_iff (b :: r) (i + 1)
    unfold lnk
    split
    · rename_i h
      rw [ih]
      constructor
      · intro hh k x y hx hy
        cases k with
        | zero => simp at hx hy; subst hx hy; exact h
        | succ k => exact hh k x y hx hy
      · intro hh k x y hx hy
        exact hh (k + 1) x y hx hy
    · rename_i h
      constructor
      · intro hh; omega
      · intro hh; exact absurd (hh 0 a b rfl rfl) h
def headsE : List HeadD → Nat → Int × Int
  | [], _ => (0, 0)
  | h :: l, i => if headCheck h = 0 then headsE l (i + 1) else (headCheck h, (i : Int))
theorem headsE_step {l : List HeadD} {i : Nat} {x : HeadD} (hx : l[i]? = some x) (h : headCheck x = 0) : headsE (l.drop i) i = headsE (l.drop (i + 1)) (i + 1) := by
  obtain ⟨h1, rfl⟩ := List.getElem?_eq_some_iff.1 hx
  rw [List.drop_eq_getElem_cons h1]
  show (if headCheck _ = 0 then _ else _) = _
  rw [if_pos h]
theorem headsE_at {l : List HeadD} {i : Nat} {x : HeadD} (hx : l[i]? = some x) (h : ¬ headCheck x = 0) : headsE (l.drop i) i = (headCheck x, (i : Int)) := by
  obtain ⟨h1, rfl⟩ := List.getElem?_eq_some_iff.1 hx
  rw [List.drop_eq_getElem_cons h1]
  show (if headCheck _ = 0 then _ else _) = _
  rw [if_neg h]
theorem headsE_iff : ∀ (l : List HeadD) (i : Nat), (headsE l i).1 = 0 ↔ ∀ h ∈ l, headCheck h = 0
  | [], i => by simp [headsE]
  | h :: l, i => by
    have ih := headsE_iff l (i + 1)
    unfold headsE
    split
    · rename_i e; rw [ih]; simp [e]
    · rename_i e; simp [e]
def chainCheck (l : List HeadD) : Int × Int := if l.length = 0 then (5, 0) else if 40 < l.length then (2, 0) else if (headsE l 0).1 ≠ 0 then headsE l 0 else if 0 ≤ linkedI l then (8, linkedI l) else (0, 0)
structure ChainOk (l : List HeadD) : Prop where
  len1 : 1 ≤ l.length
  len : l.length ≤ 40
  ok : ∀ h ∈ l, headCheck h = 0
  lnk : ∀ (k : Nat) x y, l[k]? = some x → l[k + 1]? = some y → linkB x y = true
theorem chainCheck_iff {l : List HeadD} : (chainCheck l).1 = 0 ↔ ChainOk l := by
  unfold chainCheck
  have e1 := headsE_iff l 0
  have e2 := lnk_iff l 1
  constructor
  · intro h
    split at h
    · cases h
    split at h
    · cases h
    split at h
    · contradiction
    split at h
    · cases h
    · rename_i h1 h2 h3 h4
      exact ⟨by omega, by omega, e1.1 (Decidable.not_not.1 h3), e2.1 (by unfold linkedI at h4; omega)⟩
  · rintro ⟨h1, h2, h3, h4⟩
    rw [if_neg (by omega), if_neg (by omega), if_neg (by have := e1.2 h3; omega), if_neg (by have := e2.2 h4; unfold linkedI; omega)]
def checkAll : List (List HeadD) → Int
  | [] => 0
  | l :: r => if (chainCheck l).1 = 0 then checkAll r else (chainCheck l).1
theorem checkAll_step {l : List (List HeadD)} {i : Nat} {x : List HeadD} (hx : l[i]? = some x) (h : (chainCheck x).1 = 0) : checkAll (l.drop i) = checkAll (l.drop (i + 1)) := by
  obtain ⟨h1, rfl⟩ := List.getElem?_eq_some_iff.1 hx
  rw [List.drop_eq_getElem_cons h1]
  show (if (chainCheck _).1 = 0 then _ else _) = _
  rw [if_pos h]
theorem checkAll_at {l : List (List HeadD)} {i : Nat} {x : List HeadD} (hx : l[i]? = some x) (h : ¬ (chainCheck x).1 = 0) : checkAll (l.drop i) = (chainCheck x).1 := by
  obtain ⟨h1, rfl⟩ := List.getElem?_eq_some_iff.1 hx
  rw [List.drop_eq_getElem_cons h1]
  show (if (chainCheck _).1 = 0 then _ else _) = _
  rw [if_neg h]
theorem checkAll_iff : ∀ (l : List (List HeadD)), checkAll l = 0 ↔ ∀ x ∈ l, ChainOk x
  | [] => by simp [checkAll]
  | a :: l => by
    have ih := checkAll_iff l
    unfold checkAll
    split
    · rename_i e; rw [ih]; simp [chainCheck_iff.1 e]
    · rename_i e; constructor
      · intro h; exact absurd h e
      · intro h; exact absurd (chainCheck_iff.2 (h a (by simp))) e
theorem check1_iff {l : List HeadD} : checkAll [l] = 0 ↔ ChainOk l := by rw [checkAll_iff]; simp
def lastH (l : List HeadD) : HeadD := l[l.length - 1]?.getD headZ
def firstH (l : List HeadD) : HeadD := l[0]?.getD headZ
theorem lastH_get {l : List HeadD} {k : Nat} {x : HeadD} (hk : k = l.length - 1) (h : l[k]? = some x) : x = lastH l := by unfold lastH; rw [← hk, h]; rfl
theorem firstH_get {l : List HeadD} {x : HeadD} (h : l[0]? = some x) : x = firstH l := by unfold firstH; rw [h]; rfl
def chainGrowE (l : List HeadD) (root at_ : Int) : Int := if checkAll [l] ≠ 0 then checkAll [l] else if (l.length : Int) = 40 then 7 else (headNext (lastH l) root at_).2
def chainGrow (l : List HeadD) (root at_ : Int) : List HeadD × Int := if chainGrowE l root at_ ≠ 0 then ([], chainGrowE l root at_) else (l ++ [(headNext (lastH l) root at_).1], 0)
def cut (l : List HeadD) (a b : Int) : List HeadD := (l.take (b - (firstH l).epoch + 1).toNat).drop (a - (firstH l).epoch).toNat
def chainPart (l : List HeadD) (a b : Int) : List HeadD × Int := if checkAll [l] ≠ 0 then ([], checkAll [l]) else if b < a ∨ a < (firstH l).epoch ∨ (lastH l).epoch < b then ([], 4) else (cut l a b, 0)
def chainFollows (h : HeadD) (l : List HeadD) : Bool × Int := if checkAll [l] ≠ 0 then (false, checkAll [l]) else if headCheck h ≠ 0 then (false, headCheck h) else (decide (linkedI [h, firstH l] < 0), 0)
theorem ChainOk.first {l : List HeadD} (h : ChainOk l) : l[0]? = some (firstH l) := by
  have := h.len1
  have e : l[0]? = some (l[0]'(by omega)) := List.getElem?_eq_getElem (by omega)
  rw [e]; unfold firstH; rw [e]; rfl
theorem ChainOk.last {l : List HeadD} (h : ChainOk l) : l[l.length - 1]? = some (lastH l) := by
  have := h.len1
  have e : l[l.length - 1]? = some (l[l.length - 1]'(by omega)) := List.getElem?_eq_getElem (by omega)
  rw [e]; unfold lastH; rw [e]; rfl
theorem linkB_epoch {x y : HeadD} (h : linkB x y = true) : y.epoch = x.epoch + 1 := by
  unfold linkB at h
  rw [decide_eq_true_eq] at h
  have h0 : (headNext x y.root y.at_).2 = 0 := by rw [h]
  have := (headNext_ok h0).2.2.2.1
  rw [h] at this
  have := congrArg (fun p => p.1.epoch) this
  simpa using this
theorem ChainOk.epoch {l : List HeadD} (h : ChainOk l) : ∀ (k : Nat) x, l[k]? = some x → x.epoch = (firstH l).epoch + k
  | 0, x, hx => by rw [h.first] at hx; rw [← Option.some.inj hx]; simp
  | k + 1, x, hx => by
    have hk := (List.getElem?_eq_some_iff.1 hx).1
    have e : l[k]? = some (l[k]'(by omega)) := List.getElem?_eq_getElem (by omega)
    have := h.epoch k _ e
    have := linkB_epoch (h.lnk k _ _ e hx)
    omega
theorem ChainOk.lastE {l : List HeadD} (h : ChainOk l) : (lastH l).epoch = (firstH l).epoch + l.length - 1 := by
  have := h.epoch _ _ h.last
  have := h.len1
  omega
theorem ChainOk.fb {l : List HeadD} (h : ChainOk l) : 0 ≤ (firstH l).epoch ∧ (firstH l).epoch ≤ 1000000 := by
  have := headCheck_ok (h.ok _ (List.mem_of_getElem? h.first)); omega
theorem ChainOk.lb {l : List HeadD} (h : ChainOk l) : 0 ≤ (lastH l).epoch ∧ (lastH l).epoch ≤ 1000000 := by
  have := headCheck_ok (h.ok _ (List.mem_of_getElem? h.last)); omega
theorem ChainOk.sub {l : List HeadD} (h : ChainOk l) {a b : Nat} (hab : a < b) (hb : b ≤ l.length) : ChainOk ((l.take b).drop a) := by
  refine ⟨by simp; omega, by simp; have := h.len; omega, fun x hx => h.ok x (List.mem_of_mem_take (List.mem_of_mem_drop hx)), fun k x y hx hy => ?_⟩
  rw [List.getElem?_drop, List.getElem?_take] at hx hy
  have h1 : a + k < b := by apply Classical.byContradiction; intro hc; rw [if_neg hc] at hx; cases hx
  have h2 : a + (k + 1) < b := by apply Classical.byContradiction; intro hc; rw [if_neg hc] at hy; cases hy
  rw [if_pos h1] at hx
  rw [if_pos h2] at hy
  exact h.lnk (a + k) x y hx hy
theorem chainPart_ok {l : List HeadD} {a b : Int} (h : (chainPart l a b).2 = 0) : ChainOk l ∧ a ≤ b ∧ (firstH l).epoch ≤ a ∧ b ≤ (lastH l).epoch ∧ chainPart l a b = (cut l a b, 0) := by
  unfold chainPart at h ⊢
  split at h
  · contradiction
  split at h
  · cases h
  · rename_i h1 h2
    rw [if_neg h1, if_neg h2]
    exact ⟨check1_iff.1 (Decidable.not_not.1 h1), by omega, by omega, by omega, rfl⟩
theorem chainPart_of {l : List HeadD} {a b : Int} (h : ChainOk l) (h1 : a ≤ b) (h2 : (firstH l).epoch ≤ a) (h3 : b ≤ (lastH l).epoch) : chainPart l a b = (cut l a b, 0) := by
  unfold chainPart
  rw [if_neg (by have := check1_iff.2 h; omega), if_neg (by omega)]
theorem chainPart_err {l : List HeadD} {a b : Int} (h : ¬ (chainPart l a b).2 = 0) : (chainPart l a b).1 = [] := by
  revert h; unfold chainPart; (repeat' split) <;> simp
theorem cut_ok {l : List HeadD} {a b : Int} (h : ChainOk l) (h1 : a ≤ b) (h2 : (firstH l).epoch ≤ a) (h3 : b ≤ (lastH l).epoch) : ChainOk (cut l a b) ∧ (cut l a b).length = b - a + 1 ∧ (cut l a b).length ≤ l.length ∧ (firstH (cut l a b)).epoch = a ∧ (lastH (cut l a b)).epoch = b := by
  have hl := h.lastE
  have hs : ChainOk (cut l a b) := h.sub (by omega) (by omega)
  have hlen : ((cut l a b).length : Int) = b - a + 1 := by unfold cut; simp; omega
  have hf : (firstH (cut l a b)).epoch = a := by
    have e := hs.first
    have e2 : (cut l a b)[0]? = l[(a - (firstH l).epoch).toNat]? := by
      unfold cut; rw [List.getElem?_drop, List.getElem?_take, if_pos (by omega)]; simp
    rw [e2] at e
    have := h.epoch _ _ e
    omega
  refine ⟨hs, hlen, by omega, hf, ?_⟩
  rw [hs.lastE, hf]; omega
theorem chainGrow_ok {l : List HeadD} {r t : Int} (h : (chainGrow l r t).2 = 0) : ChainOk l ∧ l.length < 40 ∧ (headNext (lastH l) r t).2 = 0 ∧ chainGrow l r t = (l ++ [(headNext (lastH l) r t).1], 0) := by
  unfold chainGrow at h ⊢
  split at h
  · contradiction
  · rename_i h1
    rw [if_neg h1]
    unfold chainGrowE at h1
    by_cases e1 : checkAll [l] = 0
    · rw [if_neg (by omega)] at h1
      have hc := check1_iff.1 e1
      by_cases e2 : (l.length : Int) = 40
      · rw [if_pos e2] at h1; omega
      · rw [if_neg e2] at h1
        exact ⟨hc, by have := hc.len; omega, Decidable.not_not.1 h1, rfl⟩
    · rw [if_pos e1] at h1; omega
theorem chainGrow_err {l : List HeadD} {r t : Int} (h : ¬ (chainGrow l r t).2 = 0) : (chainGrow l r t).1 = [] := by
  revert h; unfold chainGrow; split <;> simp
theorem ChainOk.snoc {l : List HeadD} (h : ChainOk l) (hl : l.length < 40) {n : HeadD} (hn : headCheck n = 0) (hk : linkB (lastH l) n = true) : ChainOk (l ++ [n]) := by
  refine ⟨by simp, by simp; omega, fun x hx => ?_, fun k x y hx hy => ?_⟩
  · rcases List.mem_append.1 hx with hx | hx
    · exact h.ok x hx
    · rw [List.mem_singleton.1 hx]; exact hn
  · by_cases e : k + 1 < l.length
    · rw [List.getElem?_append_left (by omega)] at hx hy
      exact h.lnk k x y hx hy
    · have hy1 := (List.getElem?_eq_some_iff.1 hy).1
      simp at hy1
      have e2 : k = l.length - 1 := by have := h.len1; omega
      have := h.len1
      rw [List.getElem?_append_left (by omega), e2, h.last] at hx
      rw [List.getElem?_append_right (by omega), show k + 1 - l.length = 0 by omega] at hy
      simp at hy
      rw [← Option.some.inj hx, ← hy]; exact hk
theorem linkB_next {x : HeadD} {r t : Int} (h : (headNext x r t).2 = 0) : linkB x (headNext x r t).1 = true ∧ headCheck (headNext x r t).1 = 0 := by
  obtain ⟨h1, h2, h3, h4, h5⟩ := headNext_ok h
  have e1 : (headNext x r t).1.root = r := by rw [h4]
  have e2 : (headNext x r t).1.at_ = t := by rw [h4]
  refine ⟨?_, by rw [h4]; exact h5⟩
  unfold linkB
  rw [decide_eq_true_eq, e1, e2]
  exact Prod.ext rfl h
theorem chainGrow_law {l : List HeadD} {r t : Int} (h : (chainGrow l r t).2 = 0) : ChainOk l ∧ (chainCheck (chainGrow l r t).1).1 = 0 ∧ chainPart (chainGrow l r t).1 (firstH l).epoch (lastH l).epoch = (l, 0) ∧ (chainGrow l r t).1.length = l.length + 1 := by
  obtain ⟨h1, h2, h3, h4⟩ := chainGrow_ok h
  obtain ⟨n1, n2⟩ := linkB_next h3
  have hs := h1.snoc h2 n2 n1
  rw [h4]
  simp only
  have hl := h1.lastE
  have hl2 := hs.lastE
  have hf : firstH (l ++ [(headNext (lastH l) r t).1]) = firstH l := by
    have e := hs.first
    have := h1.len1
    rw [List.getElem?_append_left (by omega), h1.first] at e
    exact (Option.some.inj e).symm
  refine ⟨h1, chainCheck_iff.2 hs, ?_, by simp⟩
  rw [hf] at hl2
  simp at hl2
  rw [chainPart_of hs (by have := h1.len1; omega) (by rw [hf]; omega) (by omega)]
  unfold cut
  rw [hf, show ((lastH l).epoch - (firstH l).epoch + 1).toNat = l.length by omega, show ((firstH l).epoch - (firstH l).epoch).toNat = 0 by omega]
  simp
theorem cut_cat {l : List HeadD} {a m b : Int} (h : ChainOk l) (h1 : a ≤ m) (h2 : m < b) (h3 : (firstH l).epoch ≤ a) (h4 : b ≤ (lastH l).epoch) : cut l a b = cut l a m ++ cut l (m + 1) b ∧ linkB (lastH (cut l a m)) (firstH (cut l (m + 1) b)) = true := by
  have hl := h.lastE
  have e1 := (cut_ok h h1 h3 (by omega))
  have e2 := (cut_ok h (a := m + 1) (b := b) (by omega) (by omega) h4)
  obtain ⟨i, hi⟩ : ∃ i : Nat, a - (firstH l).epoch = i := ⟨_, (Int.toNat_of_nonneg (by omega)).symm⟩
  obtain ⟨j, hj⟩ : ∃ j : Nat, m - (firstH l).epoch + 1 = j := ⟨_, (Int.toNat_of_nonneg (by omega)).symm⟩
  obtain ⟨k, hk⟩ : ∃ k : Nat, b - (firstH l).epoch + 1 = k := ⟨_, (Int.toNat_of_nonneg (by omega)).symm⟩
  have c1 : cut l a b = (l.take k).drop i := by unfold cut; rw [hk, hi]; rfl
  have c2 : cut l a m = (l.take j).drop i := by unfold cut; rw [hj, hi]; rfl
  have c3 : cut l (m + 1) b = (l.take k).drop j := by unfold cut; rw [hk, show m + 1 - (firstH l).epoch = (j : Int) by omega]; rfl
  constructor
  · rw [c1, c2, c3]
    have : l.take j = (l.take k).take j := by rw [List.take_take, Nat.min_eq_left (by omega)]
    rw [this]
    conv => lhs; rw [← List.take_append_drop j (l.take k)]
    rw [List.drop_append_of_le_length (by simp; omega)]
  · have f1 : l[j - 1]? = some (lastH (cut l a m)) := by
      have e := e1.1.last
      have hlen : (cut l a m).length = j - i := by rw [c2]; simp; omega
      rw [hlen] at e
      rw [c2, List.getElem?_drop, List.getElem?_take, if_pos (by omega), show i + (j - i - 1) = j - 1 by omega] at e
      rw [← c2] at e; exact e
    have f2 : l[j - 1 + 1]? = some (firstH (cut l (m + 1) b)) := by
      have e := e2.1.first
      rw [c3, List.getElem?_drop, List.getElem?_take, if_pos (by omega), show j + 0 = j by omega] at e
      rw [← c3] at e
      rw [show j - 1 + 1 = j by omega]; exact e
    exact h.lnk _ _ _ f1 f2
theorem chainParts_law {l : List HeadD} {a m b : Int} (h : (chainPart l a b).2 = 0) : (chainCheck (chainPart l a b).1).1 = 0 ∧ (a ≤ m → m < b → (chainPart l a m).2 = 0 ∧ (chainPart l (m + 1) b).2 = 0 ∧ 1 ≤ (chainPart l a m).1.length ∧ chainFollows (lastH (chainPart l a m).1) (chainPart l (m + 1) b).1 = (true, 0) ∧ (chainPart l a b).1 = lconcat [(chainPart l a m).1, (chainPart l (m + 1) b).1]) := by
  obtain ⟨h1, h2, h3, h4, h5⟩ := chainPart_ok h
  have hc := cut_ok h1 h2 h3 h4
  rw [h5]
  refine ⟨chainCheck_iff.2 hc.1, fun ha hb => ?_⟩
  have p1 := chainPart_of h1 ha h3 (by omega)
  have p2 := chainPart_of h1 (a := m + 1) (b := b) (by omega) (by omega) h4
  have c1 := cut_ok h1 ha h3 (by omega)
  have c2 := cut_ok h1 (a := m + 1) (b := b) (by omega) (by omega) h4
  have cc := cut_cat h1 ha hb h3 h4
  rw [p1, p2]
  refine ⟨rfl, rfl, by have := c1.1.len1; exact this, ?_, by simp only [lconcat]; rw [cc.1]; simp⟩
  unfold chainFollows
  rw [if_neg (by have := check1_iff.2 c2.1; simp only; omega), if_neg (by have := c1.1.ok _ (List.mem_of_getElem? c1.1.last); simp only; omega)]
  have : linkedI [lastH (cut l a m), firstH (cut l (m + 1) b)] < 0 := by
    unfold linkedI; rw [lnk_iff]
    intro k x y hx hy
    match k, hx, hy with
    | 0, hx, hy => simp at hx hy; subst hx hy; exact cc.2
    | k + 1, hx, hy => simp at hy
  simp only [this, decide_true]
theorem headNext_bd {x : HeadD} {r t : Int} (hr : 0 ≤ r) (h : (headNext x r t).2 = 0) : (0 ≤ (headNext x r t).1.epoch ∧ (headNext x r t).1.epoch ≤ 1000000) ∧ (0 ≤ (headNext x r t).1.root ∧ (headNext x r t).1.root < 2305843009213693951) ∧ (0 ≤ (headNext x r t).1.prev ∧ (headNext x r t).1.prev < 2305843009213693951) ∧ 0 ≤ (headNext x r t).1.at_ ∧ (headNext x r t).1.at_ ≤ 1000000000 := by
  obtain ⟨h1, h2, h3, h4, h5⟩ := headNext_ok h
  have := headCheck_ok h5
  have := markOf_bd (headText x)
  rw [h4]
  simp only at *
  omega
theorem chainPart_len (l : List HeadD) (a b : Int) : (chainPart l a b).1.length ≤ 40 := by
  by_cases h : (chainPart l a b).2 = 0
  · obtain ⟨h1, h2, h3, h4, h5⟩ := chainPart_ok h
    rw [h5]; have := (cut_ok h1 h2 h3 h4).1.len; exact this
  · rw [chainPart_err h]; simp
theorem chains_ok : (chainGrow [⟨0, 0, 0, 0⟩] 1 2).2 = 0 ∧ (chainGrow [⟨0, 0, 0, 0⟩] 1 2).1.length = 2 := by decide +kernel


end Go.Proofs.YtngoijkcbmchdaaGreatDoor
