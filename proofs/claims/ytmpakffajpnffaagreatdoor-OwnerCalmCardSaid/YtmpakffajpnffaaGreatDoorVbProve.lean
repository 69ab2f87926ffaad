import Derived.Test.YtmpakffajpnffaaGreatDoorVbMake
import Derived.Test.YtmpakffajpnffaaGreatDoorVbSee
import Derived.Test.YtmpakffajpnffaaGreatDoorVbWireL
namespace Go.Proofs.YtmpakffajpnffaaGreatDoor
open Go.Tx
set_option linter.unusedVariables false
set_option linter.unusedSimpArgs false
theorem right_bd {n v : List UInt8} (h : treeRight n v = 0) : n.length ≤ 12 ∧ v.length ≤ 20 ∧ pathName n = true := by
  unfold treeRight at h
  split at h
  · cases h
  rename_i h1
  split at h
  · cases h
  have h2 : pathName n = true := by simpa using h1
  have := (pathName_iff.1 h2).2.1
  exact ⟨this, by omega, h2⟩
theorem leaf_said {l : List EntD} {w : List UInt8} (h : TreeOk l) (hw : ∀ x ∈ l, way x.name = w) : treeLeaf l = (treeSaid l, 0) := by
  unfold treeLeaf
  rw [if_neg (by rw [ne_eq, Decidable.not_not]; exact treeCheck_iff.2 h), if_neg]
  rintro ⟨h1, h2⟩
  have e1 : l[0]? = some (l[0]'(by omega)) := List.getElem?_eq_getElem _
  have e2 : l[l.length - 1]? = some (l[l.length - 1]'(by omega)) := List.getElem?_eq_getElem _
  rw [← firstN_get e1, ← lastN_get e2, hw _ (List.mem_of_getElem? e1), hw _ (List.mem_of_getElem? e2)] at h2
  exact h2 rfl
theorem pSay_mark (a b : Int) : markOf (pSay a b) = if a = noneM ∧ b = noneM then noneM else markOf (markSaid 2 a b) := by
  have e : markOf noneT = noneM := by unfold noneT; rw [treeLeaf_nil]; rfl
  unfold pSay; rw [e]; split
  · exact e
  · rfl
theorem pOut_get (w : List UInt8) : ∀ (qs : List Int) (i : Nat) (s : List UInt8) (k : Nat), k ≤ qs.length → ∃ a, (pOut w i s qs)[k]? = some a
  | qs, i, s, k, h => ⟨_, List.getElem?_eq_getElem (by rw [pOut_len]; omega)⟩
theorem lastT_pOut (w : List UInt8) (qs : List Int) (s : List UInt8) : (pOut w 0 s qs)[qs.length]? = some (lastT (pOut w 0 s qs)) := by
  obtain ⟨a, ha⟩ := pOut_get w qs 0 s qs.length (Nat.le_refl _)
  rw [ha, lastT_get (by rw [pOut_len]; omega) ha]
theorem said_of {p : ProofD} (h : ProofOk p) : proofSaid p = (pOut (way p.name) 0 (treeSaid p.entries) p.sides, 0) := by
  unfold proofSaid
  rw [if_neg (by rw [ne_eq, Decidable.not_not]; exact proofRight_iff.2 h), leaf_said h.ents h.ways]
theorem root_of {p : ProofD} (h : ProofOk p) : proofRoot p = (markOf (lastT (pOut (way p.name) 0 (treeSaid p.entries) p.sides)), 0) := by
  unfold proofRoot; rw [said_of h, if_neg (by simp)]
theorem tell_of {root : Int} {p : ProofD} (h : ProofOk p) (h2 : (proofRoot p).1 = root) : proofTell root p = treeGet p.entries p.name := by
  unfold proofTell
  rw [if_neg]
  rw [Decidable.not_not]
  unfold proofHeld
  rw [if_neg (fun hc => hc.2 h2), root_of h]
theorem ownE_mem {l : List EntD} {p : List UInt8} {x : EntD} : x ∈ ownE l p ↔ x ∈ l ∧ way x.name = p := by unfold ownE; rw [List.mem_filter]; simp
theorem ownE_ok {l : List EntD} {p : List UInt8} (h : TreeOk l) : TreeOk (ownE l p) := treeOk_sub h List.filter_sublist
theorem way_names {l : List EntD} (h : TreeOk l) {x : EntD} (hx : x ∈ l) : (way x.name).length = 16 ∧ ∀ b ∈ way x.name, isB b = true := by
  have hn := (right_bd (h.ok x hx)).2.2
  refine ⟨way_16 hn, ?_⟩
  unfold way pathOf; rw [if_neg (by rw [hn]; simp)]; exact pathBits_B x.name
theorem pre_full {p w : List UInt8} (h : p.length = w.length) : p <+: w ↔ w = p := by
  constructor
  · intro hp; exact (hp.eq_of_length h).symm
  · intro e; rw [e]; exact List.prefix_refl _
theorem under_own {l : List EntD} {p : List UInt8} (h : TreeOk l) (hp : p.length = 16) : treeUnder l p = ownE l p := by
  unfold treeUnder ownE
  apply List.filter_congr
  intro x hx
  unfold under1
  rw [Bool.not_not, Bool.eq_iff_iff, decide_eq_true_eq, beq_iff_eq]
  exact pre_full (by rw [hp, (way_names h hx).1])
theorem treeAt_bd61 (l : List EntD) (q : List UInt8) : 0 ≤ treeAt l q ∧ treeAt l q < 2305843009213693951 := by
  unfold treeAt
  generalize 16 - q.length = n
  cases n with
  | zero => exact markOf_bd _
  | succ n =>
    rw [atG]
    split
    · exact markOf_bd _
    split
    · exact markOf_bd _
    · exact markOf_bd _
theorem flip_B {b : UInt8} (h : isB b = true) : isB (flipB b) = true := by
  unfold isB at h; simp only [Bool.or_eq_true, beq_iff_eq] at h
  rcases h with rfl | rfl <;> decide
structure WayOk (p : List UInt8) : Prop where
  len : p.length = 16
  bits : ∀ b ∈ p, isB b = true
theorem side_at {l : List EntD} {p : List UInt8} {k : Nat} {y : UInt8} (h : TreeOk l) (hp : WayOk p) (hk : p[k]? = some y) : sideAt l p k = treeAt (treeUnder l (p.take k ++ [flipB y])) (p.take k ++ [flipB y]) := by
  have hk16 : k < 16 := by have := (List.getElem?_eq_some_iff.1 hk).1; rw [hp.len] at this; exact this
  unfold sideAt
  rw [hk]
  show (treeAtE l (p.take k ++ [flipB y])).1 = _
  rw [treeAtE_of h (by simp; omega)]
  intro b hb
  rcases List.mem_append.1 hb with hb | hb
  · exact hp.bits b (List.mem_of_mem_take hb)
  · rw [List.mem_singleton] at hb; rw [hb]; exact flip_B (hp.bits y (List.mem_of_getElem? hk))
theorem sidesN_get {l : List EntD} {p : List UInt8} {n i : Nat} (h : i < n) : (sidesN l p n)[i]? = some (sideAt l p (15 - i)) := by
  unfold sidesN; simp [h]
theorem up_marks {l : List EntD} {p : List UInt8} (h : TreeOk l) (hp : WayOk p) : ∀ i, i ≤ 16 → ∃ s, (pOut p 0 (treeSaid (ownE l p)) (sidesN l p 16))[i]? = some s ∧ markOf s = treeAt (treeUnder l (p.take (16 - i))) (p.take (16 - i))
  | 0, _ => ⟨_, pOut_0 _ _ _ _, by
      rw [Nat.sub_zero, List.take_of_length_le (by rw [hp.len]; exact Nat.le_refl _), under_own h hp.len, treeAt_leaf (.inr (by rw [hp.len]; rfl))]⟩
  | i + 1, hi => by
    obtain ⟨s, hs, hm⟩ := up_marks h hp i (by omega)
    have hy : p[15 - i]? = some (p[15 - i]'(by rw [hp.len]; omega)) := List.getElem?_eq_getElem _
    generalize p[15 - i]'(by rw [hp.len]; omega) = y at hy
    have hs2 := pOut_step p (sidesN l p 16) 0 i _ s _ hs (sidesN_get (by omega))
    rw [Nat.zero_add] at hs2
    refine ⟨_, hs2, ?_⟩
    have e1 : p.take (16 - i) = p.take (15 - i) ++ [y] := by rw [show 16 - i = 15 - i + 1 by omega, List.take_add_one, hy]; rfl
    rw [show 16 - (i + 1) = 15 - i by omega, treeAt_parts (by rw [List.length_take, hp.len]; omega)]
    rw [e1] at hm
    have hsd := side_at h hp hy
    have hyb := hp.bits y (List.mem_of_getElem? hy)
    unfold isB at hyb
    simp only [Bool.or_eq_true, beq_iff_eq] at hyb
    unfold pStep
    rcases hyb with rfl | rfl
    · rw [hy, if_neg (by decide), pSay_mark, hm, hsd, show flipB 48 = 49 by decide]
    · rw [hy, if_pos rfl, pSay_mark, hm, hsd, show flipB 49 = 48 by decide]
theorem way_ok {name : List UInt8} (h : pathName name = true) : WayOk (way name) := ⟨way_16 h, by unfold way pathOf; rw [if_neg (by rw [h]; simp)]; exact pathBits_B name⟩
def proofNew (l : List EntD) (name : List UInt8) : ProofD := ⟨name, ownE l (way name), sidesN l (way name) 16⟩
theorem new_ok {l : List EntD} {name : List UInt8} (h : TreeOk l) (hn : pathName name = true) : ProofOk (proofNew l name) := by
  refine ⟨hn, ownE_ok h, fun x hx => (ownE_mem.1 hx).2, sidesN_len _ _ _, fun m hm => ?_⟩
  have hm : m ∈ sidesN l (way name) 16 := hm
  obtain ⟨i, hi⟩ := List.getElem?_of_mem hm
  have hlt := (List.getElem?_eq_some_iff.1 hi).1
  rw [sidesN_len] at hlt
  rw [sidesN_get hlt] at hi
  have hp := way_ok hn
  have hy : (way name)[15 - i]? = some ((way name)[15 - i]'(by rw [hp.len]; omega)) := List.getElem?_eq_getElem _
  rw [← Option.some.inj hi, side_at h hp hy]
  exact (treeAt_bd61 _ _).2
theorem new_root {l : List EntD} {name : List UInt8} (h : TreeOk l) (hn : pathName name = true) : proofRoot (proofNew l name) = treeAtE l [] := by
  have hp := way_ok hn
  rw [root_of (new_ok h hn), treeAtE_of h (by simp) (by simp)]
  obtain ⟨s, hs, hm⟩ := up_marks h hp 16 (Nat.le_refl _)
  have hl := lastT_pOut (way name) (sidesN l (way name) 16) (treeSaid (ownE l (way name)))
  rw [sidesN_len, hs] at hl
  have hl := Option.some.inj hl
  show (markOf (lastT (pOut (way name) 0 (treeSaid (ownE l (way name))) (sidesN l (way name) 16))), 0) = _
  rw [← hl, hm]; rfl
theorem make_ok {l : List EntD} {name : List UInt8} (h : (proofMake l name).2 = 0) : TreeOk l ∧ pathName name = true ∧ (proofMake l name).1 = proofNew l name := by
  unfold proofMake at h ⊢
  split at h
  · contradiction
  rename_i h1
  split at h
  · contradiction
  rename_i h2
  rw [if_neg h1, if_neg h2]
  refine ⟨treeCheck_iff.1 (Decidable.not_not.1 h1), ?_, rfl⟩
  have h2 := Decidable.not_not.1 h2
  unfold pathOf at h2; split at h2
  · cases h2
  · rename_i hc; simpa using hc
theorem own_get {l : List EntD} {name : List UInt8} (h : TreeOk l) (hn : pathName name = true) : treeGet (ownE l (way name)) name = treeGet l name ∧ (treeGet l name).2.2 = 0 := by
  refine ⟨treeGet_eq (ownE_ok h) h fun y hy => ?_, ?_⟩
  · rw [ownE_mem]; exact ⟨fun hc => hc.1, fun hc => ⟨hc, by rw [hy]⟩⟩
  · by_cases hx : ∃ x ∈ l, x.name = name
    · obtain ⟨x, hx, rfl⟩ := hx; rw [treeGet_in h hx hn]
    · rw [treeGet_no h hn (fun y hy e => hx ⟨y, hy, e⟩)]
theorem holds_law {l : List EntD} {name : List UInt8} (h : (proofMake l name).2 = 0) : (treeAtE l []).2 = 0 ∧ proofTell (treeAtE l []).1 (proofMake l name).1 = treeGet l name ∧ (treeGet l name).2.2 = 0 ∧ proofRight (proofMake l name).1 = 0 := by
  obtain ⟨h1, h2, h3⟩ := make_ok h
  have h4 := new_ok h1 h2
  have h5 := own_get h1 h2
  rw [h3]
  refine ⟨by rw [treeAtE_of h1 (by simp) (by simp)], ?_, h5.2, proofRight_iff.2 h4⟩
  rw [tell_of h4 (by rw [new_root h1 h2])]
  exact h5.1
end Go.Proofs.YtmpakffajpnffaaGreatDoor
