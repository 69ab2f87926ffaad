import Derived.Test.YtmpakffajpnffaaGreatDoorCfTree
import Derived.Test.YtmpakffajpnffaaGreatDoorCfRow
namespace Go.Proofs.YtmpakffajpnffaaGreatDoor
open Go.Tx
set_option linter.unusedVariables false
set_option linter.unusedSimpArgs false
theorem treeGet_in {l : List EntD} (h : TreeOk l) {x : EntD} (hx : x ∈ l) (hp : pathName x.name = true) : treeGet l x.name = (x.value, true, 0) := by
  have hb : (bsF l x.name entOrd).2 = true := (bsF_is h x.name).2 ⟨x, hx, rfl⟩
  have hf : treeFind l x.name = ((bsF l x.name entOrd).1, true, 0) := by
    unfold treeFind; rw [if_neg (by have := treeCheck_iff.2 h; omega), if_neg (by rw [hp]; simp), hb]
  obtain ⟨y, hy, hyn⟩ := bsF_at hb
  have hyx : y = x := by
    obtain ⟨p, hp2⟩ := List.getElem?_of_mem hx
    have := (List.getElem?_eq_some_iff.1 hy).1
    rcases Nat.lt_trichotomy p (bsI (fun z => entOrd z x.name) l) with hc | hc | hc
    · have := h.ord _ _ x y hc hp2 hy; rw [hyn, ordN_zero.2 rfl] at this; omega
    · rw [← hc, hp2] at hy; exact (Option.some.inj hy).symm
    · have := h.ord _ _ y x hc hy hp2; rw [hyn, ordN_zero.2 rfl] at this; omega
  unfold treeGet
  rw [hf, if_neg (by simp)]
  unfold bsF
  simp only [Int.toNat_natCast]
  rw [hy, hyx]; rfl
theorem treeGet_no {l : List EntD} (h : TreeOk l) {m : List UInt8} (hp : pathName m = true) (hn : ∀ y ∈ l, y.name ≠ m) : treeGet l m = ([], false, 0) := by
  have hb : (bsF l m entOrd).2 = false := by
    cases hb : (bsF l m entOrd).2 with
    | false => rfl
    | true => obtain ⟨y, hy, e⟩ := (bsF_is h m).1 hb; exact absurd e (hn y hy)
  have hf : treeFind l m = ((bsF l m entOrd).1, false, 0) := by
    unfold treeFind; rw [if_neg (by have := treeCheck_iff.2 h; omega), if_neg (by rw [hp]; simp), hb]
  unfold treeGet; rw [hf, if_pos rfl]
theorem treeGet_bad {l : List EntD} (h : TreeOk l) {m : List UInt8} (hp : pathName m = false) : treeGet l m = ([], false, 3) := by
  have hf : treeFind l m = (0, false, 3) := by
    unfold treeFind; rw [if_neg (by have := treeCheck_iff.2 h; omega), if_pos hp]
  unfold treeGet; rw [hf, if_pos rfl]
theorem treeGet_eq {l l' : List EntD} (h : TreeOk l) (h' : TreeOk l') {m : List UInt8} (hm : ∀ y, y.name = m → (y ∈ l ↔ y ∈ l')) : treeGet l m = treeGet l' m := by
  cases hp : pathName m with
  | false => rw [treeGet_bad h hp, treeGet_bad h' hp]
  | true =>
    by_cases hx : ∃ x ∈ l, x.name = m
    · obtain ⟨x, hx, rfl⟩ := hx
      rw [treeGet_in h hx hp, treeGet_in h' ((hm x rfl).1 hx) hp]
    · rw [treeGet_no h hp (fun y hy e => hx ⟨y, hy, e⟩), treeGet_no h' hp (fun y hy e => hx ⟨y, (hm y e).2 hy, e⟩)]
end Go.Proofs.YtmpakffajpnffaaGreatDoor
