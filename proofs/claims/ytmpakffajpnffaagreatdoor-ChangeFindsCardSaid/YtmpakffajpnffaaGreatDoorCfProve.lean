import Derived.Test.YtmpakffajpnffaaGreatDoorCfMake
import Derived.Test.YtmpakffajpnffaaGreatDoorCfSee
import Derived.Test.YtmpakffajpnffaaGreatDoorCfWireL
namespace Go.Proofs.YtmpakffajpnffaaGreatDoor
open Go.Tx
set_option linter.unusedVariables false
set_option linter.unusedSimpArgs false
theorem putC_inj {p q r s : List UInt8} (hp : p.length ≤ 600) (hq : q.length ≤ 600) (h : putC p ++ r = putC q ++ s) : p = q ∧ r = s := by
  have e1 := putC_first p r hp
  rw [h, putC_first q s hq] at e1
  simp only [Prod.mk.injEq] at e1
  exact ⟨e1.1.symm, e1.2.1.symm⟩
theorem right_bd {n v : List UInt8} (h : treeRight n v = 0) : n.length ≤ 12 ∧ v.length ≤ 20 ∧ pathName n = true := by
  unfold treeRight at h
  split at h
  · cases h
  rename_i h1
  split at h
  · cases h
  have h2 : pathName n = true := by simpa using h1
  have := (pathName_iff.1 h2).2.1
  exact ⟨this, by omega, h2⟩
theorem entT_eq {x : EntD} (h : treeRight x.name x.value = 0) : entT x = putC x.name ++ putC x.value := by
  obtain ⟨h1, h2, _⟩ := right_bd h
  have e : (putT [x.name, x.value]) = putC x.name ++ putC x.value := by simp [putT]
  have l : ∀ p : List UInt8, (putC p).length = 2 + p.length := fun p => by simp [putC]; omega
  unfold entT
  rw [wPut_of (by simp) (by rw [e, List.length_append, l, l]; omega), e]
theorem entT_inj {x y : EntD} {r s : List UInt8} (hx : treeRight x.name x.value = 0) (hy : treeRight y.name y.value = 0) (h : entT x ++ r = entT y ++ s) : x = y ∧ r = s := by
  rw [entT_eq hx, entT_eq hy, List.append_assoc, List.append_assoc] at h
  have hx' := right_bd hx; have hy' := right_bd hy
  obtain ⟨e1, h⟩ := putC_inj (by omega) (by omega) h
  obtain ⟨e2, h⟩ := putC_inj (by omega) (by omega) h
  exact ⟨EntD_ne.2 ⟨e1, e2⟩, h⟩
theorem entT_ne {x : EntD} (hx : treeRight x.name x.value = 0) (r : List UInt8) : entT x ++ r ≠ [] := by
  rw [entT_eq hx]; simp [putC]
theorem ents_inj : ∀ (l m : List EntD), (∀ x ∈ l, treeRight x.name x.value = 0) → (∀ x ∈ m, treeRight x.name x.value = 0) → (l.map entT).flatten = (m.map entT).flatten → l = m
  | [], [], _, _, _ => rfl
  | [], y :: m, _, hm, h => by
    rw [List.map_cons, List.flatten_cons] at h
    exact absurd h.symm (entT_ne (hm y (List.mem_cons_self ..)) _)
  | x :: l, [], hl, _, h => by
    rw [List.map_cons, List.flatten_cons] at h
    exact absurd h (entT_ne (hl x (List.mem_cons_self ..)) _)
  | x :: l, y :: m, hl, hm, h => by
    simp only [List.map_cons, List.flatten_cons] at h
    obtain ⟨e, h⟩ := entT_inj (hl x (List.mem_cons_self ..)) (hm y (List.mem_cons_self ..)) h
    rw [e, ents_inj l m (fun z hz => hl z (List.mem_cons_of_mem _ hz)) (fun z hz => hm z (List.mem_cons_of_mem _ hz)) h]
theorem said_inj {l m : List EntD} (hl : TreeOk l) (hm : TreeOk m) (h : treeSaid l = treeSaid m) : l = m := by
  unfold treeSaid at h
  by_cases h1 : l.length = 0 <;> by_cases h2 : m.length = 0
  · rw [List.eq_nil_of_length_eq_zero h1, List.eq_nil_of_length_eq_zero h2]
  · rw [if_pos h1, if_neg h2] at h; simp at h
  · rw [if_neg h1, if_pos h2] at h; simp at h
  · rw [if_neg h1, if_neg h2] at h
    simp only [List.singleton_append, List.cons.injEq, true_and] at h
    exact ents_inj l m hl.ok hm.ok h
theorem leaf_said {l : List EntD} {w : List UInt8} (h : TreeOk l) (hw : ∀ x ∈ l, way x.name = w) : treeLeaf l = (treeSaid l, 0) := by
  unfold treeLeaf
  rw [if_neg (by rw [ne_eq, Decidable.not_not]; exact treeCheck_iff.2 h), if_neg]
  rintro ⟨h1, h2⟩
  have e1 : l[0]? = some (l[0]'(by omega)) := List.getElem?_eq_getElem _
  have e2 : l[l.length - 1]? = some (l[l.length - 1]'(by omega)) := List.getElem?_eq_getElem _
  rw [← firstN_get e1, ← lastN_get e2, hw _ (List.mem_of_getElem? e1), hw _ (List.mem_of_getElem? e2)] at h2
  exact h2 rfl
theorem pSay_mark (a b : Int) : markOf (pSay a b) = if a = noneM ∧ b = noneM then noneM else markOf (markSaid 2 a b) := by
  have e : markOf noneT = noneM := by unfold noneT; rw [treeLeaf_nil]; rfl
  unfold pSay; rw [e]; split
  · exact e
  · rfl
theorem pSay_inj {a b c d : Int} (ha : 0 ≤ a ∧ a < 2305843009213693951) (hb : 0 ≤ b ∧ b < 2305843009213693951) (hc : 0 ≤ c ∧ c < 2305843009213693951) (hd : 0 ≤ d ∧ d < 2305843009213693951) (h : pSay a b = pSay c d) : a = c ∧ b = d := by
  unfold pSay at h
  have e : noneT = [0] := by unfold noneT; rw [treeLeaf_nil]
  split at h <;> split at h
  · rename_i h1 h2; exact ⟨h1.1.trans h2.1.symm, h1.2.trans h2.2.symm⟩
  · have := congrArg List.length h; rw [markSaid_length, e] at this; simp at this
  · have := congrArg List.length h; rw [markSaid_length, e] at this; simp at this
  · have q := markSaid_inj (k := 2) (a := a) (b := b) (j := 2) (c := c) (d := d) (by omega) (by omega) (by omega) (by omega) (by omega) (by omega)
    rw [beq_iff_eq.2 h] at q
    simpa using q.symm
theorem pStep_inj {w s t : List UInt8} {i : Nat} {q r : Int} (hq : 0 ≤ q ∧ q < 2305843009213693951) (hr : 0 ≤ r ∧ r < 2305843009213693951) (h : pStep w i s q = pStep w i t r) : markOf s = markOf t ∧ q = r := by
  unfold pStep at h
  split at h
  · obtain ⟨h1, h2⟩ := pSay_inj hq (markOf_bd s) hr (markOf_bd t) h; exact ⟨h2, h1⟩
  · exact pSay_inj (markOf_bd s) hq (markOf_bd t) hr h
theorem pOut_get (w : List UInt8) : ∀ (qs : List Int) (i : Nat) (s : List UInt8) (k : Nat), k ≤ qs.length → ∃ a, (pOut w i s qs)[k]? = some a
  | qs, i, s, k, h => ⟨_, List.getElem?_eq_getElem (by rw [pOut_len]; omega)⟩
theorem said_of {p : ProofD} (h : ProofOk p) : proofSaid p = (pOut (way p.name) 0 (treeSaid p.entries) p.sides, 0) := by
  unfold proofSaid
  rw [if_neg (by rw [ne_eq, Decidable.not_not]; exact proofRight_iff.2 h), leaf_said h.ents h.ways]
theorem ownE_mem {l : List EntD} {p : List UInt8} {x : EntD} : x ∈ ownE l p ↔ x ∈ l ∧ way x.name = p := by unfold ownE; rw [List.mem_filter]; simp
theorem ownE_ok {l : List EntD} {p : List UInt8} (h : TreeOk l) : TreeOk (ownE l p) := treeOk_sub h List.filter_sublist
theorem way_names {l : List EntD} (h : TreeOk l) {x : EntD} (hx : x ∈ l) : (way x.name).length = 16 ∧ ∀ b ∈ way x.name, isB b = true := by
  have hn := (right_bd (h.ok x hx)).2.2
  refine ⟨way_16 hn, ?_⟩
  unfold way pathOf; rw [if_neg (by rw [hn]; simp)]; exact pathBits_B x.name
theorem pre_full {p w : List UInt8} (h : p.length = w.length) : p <+: w ↔ w = p := by
  constructor
  · intro hp; exact (hp.eq_of_length h).symm
  · intro e; rw [e]; exact List.prefix_refl _
theorem under_own {l : List EntD} {p : List UInt8} (h : TreeOk l) (hp : p.length = 16) : treeUnder l p = ownE l p := by
  unfold treeUnder ownE
  apply List.filter_congr
  intro x hx
  unfold under1
  rw [Bool.not_not, Bool.eq_iff_iff, decide_eq_true_eq, beq_iff_eq]
  exact pre_full (by rw [hp, (way_names h hx).1])
theorem treeAt_bd61 (l : List EntD) (q : List UInt8) : 0 ≤ treeAt l q ∧ treeAt l q < 2305843009213693951 := by
  unfold treeAt
  generalize 16 - q.length = n
  cases n with
  | zero => exact markOf_bd _
  | succ n =>
    rw [atG]
    split
    · exact markOf_bd _
    split
    · exact markOf_bd _
    · exact markOf_bd _
theorem flip_B {b : UInt8} (h : isB b = true) : isB (flipB b) = true := by
  unfold isB at h; simp only [Bool.or_eq_true, beq_iff_eq] at h
  rcases h with rfl | rfl <;> decide
structure WayOk (p : List UInt8) : Prop where
  len : p.length = 16
  bits : ∀ b ∈ p, isB b = true
theorem side_at {l : List EntD} {p : List UInt8} {k : Nat} {y : UInt8} (h : TreeOk l) (hp : WayOk p) (hk : p[k]? = some y) : sideAt l p k = treeAt (treeUnder l (p.take k ++ [flipB y])) (p.take k ++ [flipB y]) := by
  have hk16 : k < 16 := by have := (List.getElem?_eq_some_iff.1 hk).1; rw [hp.len] at this; exact this
  unfold sideAt
  rw [hk]
  show (treeAtE l (p.take k ++ [flipB y])).1 = _
  rw [treeAtE_of h (by simp; omega)]
  intro b hb
  rcases List.mem_append.1 hb with hb | hb
  · exact hp.bits b (List.mem_of_mem_take hb)
  · rw [List.mem_singleton] at hb; rw [hb]; exact flip_B (hp.bits y (List.mem_of_getElem? hk))
theorem sidesN_get {l : List EntD} {p : List UInt8} {n i : Nat} (h : i < n) : (sidesN l p n)[i]? = some (sideAt l p (15 - i)) := by
  unfold sidesN; simp [h]
theorem up_marks {l : List EntD} {p : List UInt8} (h : TreeOk l) (hp : WayOk p) : ∀ i, i ≤ 16 → ∃ s, (pOut p 0 (treeSaid (ownE l p)) (sidesN l p 16))[i]? = some s ∧ markOf s = treeAt (treeUnder l (p.take (16 - i))) (p.take (16 - i))
  | 0, _ => ⟨_, pOut_0 _ _ _ _, by
      rw [Nat.sub_zero, List.take_of_length_le (by rw [hp.len]; exact Nat.le_refl _), under_own h hp.len, treeAt_leaf (.inr (by rw [hp.len]; rfl))]⟩
  | i + 1, hi => by
    obtain ⟨s, hs, hm⟩ := up_marks h hp i (by omega)
    have hy : p[15 - i]? = some (p[15 - i]'(by rw [hp.len]; omega)) := List.getElem?_eq_getElem _
    generalize p[15 - i]'(by rw [hp.len]; omega) = y at hy
    have hs2 := pOut_step p (sidesN l p 16) 0 i _ s _ hs (sidesN_get (by omega))
    rw [Nat.zero_add] at hs2
    refine ⟨_, hs2, ?_⟩
    have e1 : p.take (16 - i) = p.take (15 - i) ++ [y] := by rw [show 16 - i = 15 - i + 1 by omega, List.take_add_one, hy]; rfl
    rw [show 16 - (i + 1) = 15 - i by omega, treeAt_parts (by rw [List.length_take, hp.len]; omega)]
    rw [e1] at hm
    have hsd := side_at h hp hy
    have hyb := hp.bits y (List.mem_of_getElem? hy)
    unfold isB at hyb
    simp only [Bool.or_eq_true, beq_iff_eq] at hyb
    unfold pStep
    rcases hyb with rfl | rfl
    · rw [hy, if_neg (by decide), pSay_mark, hm, hsd, show flipB 48 = 49 by decide]
    · rw [hy, if_pos rfl, pSay_mark, hm, hsd, show flipB 49 = 48 by decide]
theorem way_ok {name : List UInt8} (h : pathName name = true) : WayOk (way name) := ⟨way_16 h, by unfold way pathOf; rw [if_neg (by rw [h]; simp)]; exact pathBits_B name⟩
def proofNew (l : List EntD) (name : List UInt8) : ProofD := ⟨name, ownE l (way name), sidesN l (way name) 16⟩
theorem new_ok {l : List EntD} {name : List UInt8} (h : TreeOk l) (hn : pathName name = true) : ProofOk (proofNew l name) := by
  refine ⟨hn, ownE_ok h, fun x hx => (ownE_mem.1 hx).2, sidesN_len _ _ _, fun m hm => ?_⟩
  have hm : m ∈ sidesN l (way name) 16 := hm
  obtain ⟨i, hi⟩ := List.getElem?_of_mem hm
  have hlt := (List.getElem?_eq_some_iff.1 hi).1
  rw [sidesN_len] at hlt
  rw [sidesN_get hlt] at hi
  have hp := way_ok hn
  have hy : (way name)[15 - i]? = some ((way name)[15 - i]'(by rw [hp.len]; omega)) := List.getElem?_eq_getElem _
  rw [← Option.some.inj hi, side_at h hp hy]
  exact (treeAt_bd61 _ _).2
theorem own_get {l : List EntD} {name : List UInt8} (h : TreeOk l) (hn : pathName name = true) : treeGet (ownE l (way name)) name = treeGet l name ∧ (treeGet l name).2.2 = 0 := by
  refine ⟨treeGet_eq (ownE_ok h) h fun y hy => ?_, ?_⟩
  · rw [ownE_mem]; exact ⟨fun hc => hc.1, fun hc => ⟨hc, by rw [hy]⟩⟩
  · by_cases hx : ∃ x ∈ l, x.name = name
    · obtain ⟨x, hx, rfl⟩ := hx; rw [treeGet_in h hx hn]
    · rw [treeGet_no h hn (fun y hy e => hx ⟨y, hy, e⟩)]
end Go.Proofs.YtmpakffajpnffaaGreatDoor
