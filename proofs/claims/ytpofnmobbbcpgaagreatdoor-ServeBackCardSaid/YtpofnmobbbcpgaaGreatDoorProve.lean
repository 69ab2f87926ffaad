import Derived.Test.YtpofnmobbbcpgaaGreatDoorMake
import Derived.Test.YtpofnmobbbcpgaaGreatDoorSee
import Derived.Test.YtpofnmobbbcpgaaGreatDoorWireL
namespace Go.Proofs.YtpofnmobbbcpgaaGreatDoor
open Go.Tx
set_option linter.unusedVariables false
set_option linter.unusedSimpArgs false

theorem putC_inj {p q r s : List UInt8} (hp : p.length ≤ 600) (hq : q.length ≤ 600) (h : putC p ++ r = putC q ++ s) : p = q ∧ r = s := by
  have e1 := putC_first p r hp
  rw [h, putC_first q s hq] at e1
  simp only [Prod.mk.injEq] at e1
  exact ⟨e1.1.symm, e1.2.1.symm⟩
theorem right_bd {n v : List UInt8} (h : treeRight n v = 0) : n.length ≤ 12 ∧ v.length ≤ 20 ∧ pathName n = true := by
  unfold treeRight at h
  split at h
  · cases h
  rename_i h1
  split at h
  · cases h
  have h2 : pathName n = true := by simpa using h1
  have := (pathName_iff.1 h2).2.1
  exact ⟨this, by omega, h2⟩
theorem entT_eq {x : EntD} (h : treeRight x.name x.value = 0) : entT x = putC x.name ++ putC x.value := by
  obtain ⟨h1, h2, _⟩ := right_bd h
  have e : (putT [x.name, x.value]) = putC x.name ++ putC x.value := by simp [putT]
  have l : ∀ p : List UInt8, (putC p).length = 2 + p.length := fun p => by simp [putC]; omega
  unfold entT
  rw [wPut_of (by simp) (by rw [e, List.length_append, l, l]; omega), e]
theorem entT_inj {x y : EntD} {r s : List UInt8} (hx : treeRight x.name x.value = 0) (hy : treeRight y.name y.value = 0) (h : entT x ++ r = entT y ++ s) : x = y ∧ r = s := by
  rw [entT_eq hx, entT_eq hy, List.append_assoc, List.append_assoc] at h
  have hx' := right_bd hx; have hy' := right_bd hy
  obtain ⟨e1, h⟩ := putC_inj (by omega) (by omega) h
  obtain ⟨e2, h⟩ := putC_inj (by omega) (by omega) h
  exact ⟨EntD_ne.2 ⟨e1, e2⟩, h⟩
theorem entT_ne {x : EntD} (hx : treeRight x.name x.value = 0) (r : List UInt8) : entT x ++ r ≠ [] := by
  rw [entT_eq hx]; simp [putC]
theorem ents_inj : ∀ (l m : List EntD), (∀ x ∈ l, treeRight x.name x.value = 0) → (∀ x ∈ m, treeRight x.name x.value = 0) → (l.map entT).flatten = (m.map entT).flatten → l = m
  | [], [], _, _, _ => rfl
  | [], y :: m, _, hm, h => by
    rw [List.map_cons, List.flatten_cons] at h
    exact absurd h.symm (entT_ne (hm y (List.mem_cons_self ..)) _)
  | x :: l, [], hl, _, h => by
    rw [List.map_cons, List.flatten_cons] at h
    exact absurd h (entT_ne (hl x (List.mem_cons_self ..)) _)
  | x :: l, y :: m, hl, hm, h => by
    simp only [List.map_cons, List.flatten_cons] at h
    obtain ⟨e, h⟩ := entT_inj (hl x (List.mem_cons_self ..)) (hm y (List.mem_cons_self ..)) h
    rw [e, ents_inj l m (fun z hz => hl z (List.mem_cons_of_mem _ hz)) (fun z hz => hm z (List.mem_cons_of_mem _ hz)) h]
theorem said_inj {l m : List EntD} (hl : TreeOk l) (hm : TreeOk m) (h : treeSaid l = treeSaid m) : l = m := by
  unfold treeSaid at h
  by_cases h1 : l.length = 0 <;> by_cases h2 : m.length = 0
  · rw [List.eq_nil_of_length_eq_zero h1, List.eq_nil_of_length_eq_zero h2]
  · rw [if_pos h1, if_neg h2] at h; simp at h
  · rw [if_neg h1, if_pos h2] at h; simp at h
  · rw [if_neg h1, if_neg h2] at h
    simp only [List.singleton_append, List.cons.injEq, true_and] at h
    exact ents_inj l m hl.ok hm.ok h
theorem leaf_said {l : List EntD} {w : List UInt8} (h : TreeOk l) (hw : ∀ x ∈ l, way x.name = w) : treeLeaf l = (treeSaid l, 0) := by
  unfold treeLeaf
  rw [if_neg (by rw [ne_eq, Decidable.not_not]; exact treeCheck_iff.2 h), if_neg]
  rintro ⟨h1, h2⟩
  have e1 : l[0]? = some (l[0]'(by omega)) := List.getElem?_eq_getElem _
  have e2 : l[l.length - 1]? = some (l[l.length - 1]'(by omega)) := List.getElem?_eq_getElem _
  rw [← firstN_get e1, ← lastN_get e2, hw _ (List.mem_of_getElem? e1), hw _ (List.mem_of_getElem? e2)] at h2
  exact h2 rfl
/-- the marks on the way up -/
theorem pSay_mark (a b : Int) : markOf (pSay a b) = if a = noneM ∧ b = noneM then noneM else markOf (markSaid 2 a b) := by
  have e : markOf noneT = noneM := by unfold noneT; rw [treeLeaf_nil]; rfl
  unfold pSay; rw [e]; split
  · exact e
  · rfl
theorem noneM_eq : markOf noneT = noneM := by unfold noneT; rw [treeLeaf_nil]; rfl
theorem pSay_inj {a b c d : Int} (ha : 0 ≤ a ∧ a < 2305843009213693951) (hb : 0 ≤ b ∧ b < 2305843009213693951) (hc : 0 ≤ c ∧ c < 2305843009213693951) (hd : 0 ≤ d ∧ d < 2305843009213693951) (h : pSay a b = pSay c d) : a = c ∧ b = d := by
  unfold pSay at h
  have e : noneT = [0] := by unfold noneT; rw [treeLeaf_nil]
  split at h <;> split at h
  · rename_i h1 h2; exact ⟨h1.1.trans h2.1.symm, h1.2.trans h2.2.symm⟩
  · have := congrArg List.length h; rw [markSaid_length, e] at this; simp at this
  · have := congrArg List.length h; rw [markSaid_length, e] at this; simp at this
  · have q := markSaid_inj (k := 2) (a := a) (b := b) (j := 2) (c := c) (d := d) (by omega) (by omega) (by omega) (by omega) (by omega) (by omega)
    rw [beq_iff_eq.2 h] at q
    simpa using q.symm
theorem pStep_inj {w s t : List UInt8} {i : Nat} {q r : Int} (hq : 0 ≤ q ∧ q < 2305843009213693951) (hr : 0 ≤ r ∧ r < 2305843009213693951) (h : pStep w i s q = pStep w i t r) : markOf s = markOf t ∧ q = r := by
  unfold pStep at h
  split at h
  · obtain ⟨h1, h2⟩ := pSay_inj hq (markOf_bd s) hr (markOf_bd t) h; exact ⟨h2, h1⟩
  · exact pSay_inj (markOf_bd s) hq (markOf_bd t) hr h
theorem pOut_get (w : List UInt8) : ∀ (qs : List Int) (i : Nat) (s : List UInt8) (k : Nat), k ≤ qs.length → ∃ a, (pOut w i s qs)[k]? = some a
  | qs, i, s, k, h => ⟨_, List.getElem?_eq_getElem (by rw [pOut_len]; omega)⟩
/-- two runs up with one mark at the top: all texts alike, or the topmost unlike ones have one mark -/
theorem tGo_top {w : List UInt8} {p q : List Int} {s t : List UInt8} (hl : p.length = q.length) (hp : ∀ m ∈ p, 0 ≤ m ∧ m < 2305843009213693951) (hq : ∀ m ∈ q, 0 ≤ m ∧ m < 2305843009213693951) :
    ∀ k, k ≤ p.length → (∀ a b, (pOut w 0 s p)[k]? = some a → (pOut w 0 t q)[k]? = some b → markOf a = markOf b) → (tGo (pOut w 0 s p) (pOut w 0 t q) (k + 1)).2.2 = 0 ∨ s = t
  | k, hk, hm => by
    obtain ⟨a, ha⟩ := pOut_get w p 0 s k hk
    obtain ⟨b, hb⟩ := pOut_get w q 0 t k (by omega)
    by_cases e : a = b
    · rw [tGo_skip ha hb e]
      cases k with
      | zero =>
        rw [pOut_0] at ha hb
        exact .inr (by rw [Option.some.inj ha, Option.some.inj hb, e])
      | succ k =>
        refine tGo_top hl hp hq k (by omega) fun c d hc hd => ?_
        have hpk : p[k]? = some (p[k]'(by omega)) := List.getElem?_eq_getElem _
        have hqk : q[k]? = some (q[k]'(by omega)) := List.getElem?_eq_getElem _
        have e1 := pOut_step w p 0 k s c _ hc hpk
        have e2 := pOut_step w q 0 k t d _ hd hqk
        rw [ha] at e1; rw [hb] at e2
        have e3 := Option.some.inj e1; have e4 := Option.some.inj e2
        rw [e3, e4] at e
        exact (pStep_inj (hp _ (List.mem_of_getElem? hpk)) (hq _ (List.mem_of_getElem? hqk)) e).1
    · left
      rw [tGo_at ha hb e, if_pos]
      unfold alikeB
      simp only [Bool.and_eq_true, decide_eq_true_eq]
      exact ⟨by simpa using e, hm a b ha hb⟩
theorem lastT_pOut (w : List UInt8) (qs : List Int) (s : List UInt8) : (pOut w 0 s qs)[qs.length]? = some (lastT (pOut w 0 s qs)) := by
  obtain ⟨a, ha⟩ := pOut_get w qs 0 s qs.length (Nat.le_refl _)
  rw [ha, lastT_get (by rw [pOut_len]; omega) ha]
theorem said_of {p : ProofD} (h : ProofOk p) : proofSaid p = (pOut (way p.name) 0 (treeSaid p.entries) p.sides, 0) := by
  unfold proofSaid
  rw [if_neg (by rw [ne_eq, Decidable.not_not]; exact proofRight_iff.2 h), leaf_said h.ents h.ways]
theorem said_ok {p : ProofD} (h : (proofSaid p).2 = 0) : ProofOk p := by
  unfold proofSaid at h
  split at h
  · contradiction
  · rename_i h1; exact proofRight_iff.1 (Decidable.not_not.1 h1)
theorem root_of {p : ProofD} (h : ProofOk p) : proofRoot p = (markOf (lastT (pOut (way p.name) 0 (treeSaid p.entries) p.sides)), 0) := by
  unfold proofRoot; rw [said_of h, if_neg (by simp)]
theorem tell_ok {root : Int} {p : ProofD} (h : (proofTell root p).2.2 = 0) : ProofOk p ∧ (proofRoot p).1 = root ∧ proofTell root p = treeGet p.entries p.name := by
  unfold proofTell at h ⊢
  split at h
  · contradiction
  rename_i h1
  rw [if_neg h1]
  have h1 := Decidable.not_not.1 h1
  unfold proofHeld at h1
  split at h1
  · cases h1
  rename_i h2
  have h3 : (proofSaid p).2 = 0 := by
    unfold proofRoot at h1; split at h1
    · contradiction
    · rename_i h4; exact Decidable.not_not.1 h4
  exact ⟨said_ok h3, Decidable.not_not.1 fun hc => h2 ⟨h1, hc⟩, rfl⟩
theorem tell_of {root : Int} {p : ProofD} (h : ProofOk p) (h2 : (proofRoot p).1 = root) : proofTell root p = treeGet p.entries p.name := by
  unfold proofTell
  rw [if_neg]
  rw [Decidable.not_not]
  unfold proofHeld
  rw [if_neg (fun hc => hc.2 h2), root_of h]
theorem binds_law {root : Int} {p q : ProofD} (hp0 : ∀ m ∈ p.sides, 0 ≤ m) (hq0 : ∀ m ∈ q.sides, 0 ≤ m) (h1 : (proofTell root p).2.2 = 0) (h2 : (proofTell root q).2.2 = 0) (h3 : p.name = q.name) (h4 : ¬ ((proofTell root p).1 = (proofTell root q).1 ∧ (proofTell root p).2.1 = (proofTell root q).2.1)) : (clashProofs p q).2.2 = 0 ∧ alikeB (clashProofs p q).1 (clashProofs p q).2.1 = true := by
  obtain ⟨p1, p2, p3⟩ := tell_ok h1
  obtain ⟨q1, q2, q3⟩ := tell_ok h2
  have hk : (clashProofs p q).2.2 = 0 := by
    unfold clashProofs
    rw [said_of p1, said_of q1, if_neg (by simp), if_neg (by simp), if_neg (by simp [h3])]
    unfold clashTexts
    rw [root_of p1] at p2; rw [root_of q1] at q2
    have hl : p.sides.length = q.sides.length := by rw [p1.sides, q1.sides]
    simp only at p2 q2 ⊢
    rw [if_neg (by rw [pOut_len, pOut_len, hl]; omega), if_neg (by rw [p2, q2]; simp), pOut_len]
    rw [← h3] at q2 ⊢
    rcases tGo_top (w := way p.name) (s := treeSaid p.entries) (t := treeSaid q.entries) hl (fun m hm => ⟨hp0 m hm, p1.marks m hm⟩) (fun m hm => ⟨hq0 m hm, q1.marks m hm⟩) p.sides.length (Nat.le_refl _)
      (fun a b ha hb => by rw [lastT_pOut] at ha; rw [hl, lastT_pOut] at hb; rw [← Option.some.inj ha, ← Option.some.inj hb, p2, q2]) with h | h
    · exact h
    · have := said_inj p1.ents q1.ents h
      exact absurd (by rw [p3, q3, this, h3]; exact ⟨rfl, rfl⟩) h4
  have := proofs_ok p q
  unfold isClash at this
  rw [if_pos hk] at this
  exact ⟨hk, this⟩
theorem others_law {root : Int} {p : ProofD} {name : List UInt8} (h : (proofTell root p).2.2 = 0) : (pathOf p.name).2 = 0 ∧
    ((pathOf name).2 = 0 → (pathOf name).1 = (pathOf p.name).1 → (proofTell root ⟨name, p.entries, p.sides⟩).2.2 = 0 ∧ (treeGet p.entries name).2.2 = 0 ∧ proofTell root ⟨name, p.entries, p.sides⟩ = treeGet p.entries name) := by
  obtain ⟨p1, p2, p3⟩ := tell_ok h
  have g1 : ∀ {n : List UInt8}, pathName n = true → (pathOf n).2 = 0 := fun {n} hn => by unfold pathOf; rw [if_neg (by rw [hn]; simp)]
  have g2 : ∀ {n : List UInt8}, (pathOf n).2 = 0 → pathName n = true := fun {n} hn => by
    unfold pathOf at hn; split at hn
    · cases hn
    · rename_i hc; simpa using hc
  refine ⟨g1 p1.name, fun h1 h2 => ?_⟩
  have hn := g2 h1
  have hw : way name = way p.name := h2
  have q1 : ProofOk ⟨name, p.entries, p.sides⟩ := ⟨hn, p1.ents, fun x hx => (p1.ways x hx).trans hw.symm, p1.sides, p1.marks⟩
  have q2 : (proofRoot ⟨name, p.entries, p.sides⟩).1 = root := by
    rw [root_of q1, ← p2, root_of p1]
    show markOf (lastT (pOut (way name) 0 _ _)) = _
    rw [hw]
  have q3 := tell_of q1 q2
  have q4 : (treeGet p.entries name).2.2 = 0 := by
    by_cases hx : ∃ x ∈ p.entries, x.name = name
    · obtain ⟨x, hx, rfl⟩ := hx; rw [treeGet_in p1.ents hx hn]
    · rw [treeGet_no p1.ents hn (fun y hy e => hx ⟨y, hy, e⟩)]
  exact ⟨by rw [q3]; exact q4, q4, q3⟩
/-- what Make makes -/
theorem ownE_mem {l : List EntD} {p : List UInt8} {x : EntD} : x ∈ ownE l p ↔ x ∈ l ∧ way x.name = p := by unfold ownE; rw [List.mem_filter]; simp
theorem ownE_ok {l : List EntD} {p : List UInt8} (h : TreeOk l) : TreeOk (ownE l p) := treeOk_sub h List.filter_sublist
theorem way_names {l : List EntD} (h : TreeOk l) {x : EntD} (hx : x ∈ l) : (way x.name).length = 16 ∧ ∀ b ∈ way x.name, isB b = true := by
  have hn := (right_bd (h.ok x hx)).2.2
  refine ⟨way_16 hn, ?_⟩
  unfold way pathOf; rw [if_neg (by rw [hn]; simp)]; exact pathBits_B x.name
theorem pre_full {p w : List UInt8} (h : p.length = w.length) : p <+: w ↔ w = p := by
  constructor
  · intro hp; exact (hp.eq_of_length h).symm
  · intro e; rw [e]; exact List.prefix_refl _
theorem under_own {l : List EntD} {p : List UInt8} (h : TreeOk l) (hp : p.length = 16) : treeUnder l p = ownE l p := by
  unfold treeUnder ownE
  apply List.filter_congr
  intro x hx
  unfold under1
  rw [Bool.not_not, Bool.eq_iff_iff, decide_eq_true_eq, beq_iff_eq]
  exact pre_full (by rw [hp, (way_names h hx).1])
theorem treeAt_bd61 (l : List EntD) (q : List UInt8) : 0 ≤ treeAt l q ∧ treeAt l q < 2305843009213693951 := by
  unfold treeAt
  generalize 16 - q.length = n
  cases n with
  | zero => exact markOf_bd _
  | succ n =>
    rw [atG]
    split
    · exact markOf_bd _
    split
    · exact markOf_bd _
    · exact markOf_bd _
theorem flip_B {b : UInt8} (h : isB b = true) : isB (flipB b) = true := by
  unfold isB at h; simp only [Bool.or_eq_true, beq_iff_eq] at h
  rcases h with rfl | rfl <;> decide
structure WayOk (p : List UInt8) : Prop where
  len : p.length = 16
  bits : ∀ b ∈ p, isB b = true
theorem side_at {l : List EntD} {p : List UInt8} {k : Nat} {y : UInt8} (h : TreeOk l) (hp : WayOk p) (hk : p[k]? = some y) : sideAt l p k = treeAt (treeUnder l (p.take k ++ [flipB y])) (p.take k ++ [flipB y]) := by
  have hk16 : k < 16 := by have := (List.getElem?_eq_some_iff.1 hk).1; rw [hp.len] at this; exact this
  unfold sideAt
  rw [hk]
  show (treeAtE l (p.take k ++ [flipB y])).1 = _
  rw [treeAtE_of h (by simp; omega)]
  intro b hb
  rcases List.mem_append.1 hb with hb | hb
  · exact hp.bits b (List.mem_of_mem_take hb)
  · rw [List.mem_singleton] at hb; rw [hb]; exact flip_B (hp.bits y (List.mem_of_getElem? hk))
theorem sidesN_get {l : List EntD} {p : List UInt8} {n i : Nat} (h : i < n) : (sidesN l p n)[i]? = some (sideAt l p (15 - i)) := by
  unfold sidesN; simp [h]
theorem up_marks {l : List EntD} {p : List UInt8} (h : TreeOk l) (hp : WayOk p) : ∀ i, i ≤ 16 → ∃ s, (pOut p 0 (treeSaid (ownE l p)) (sidesN l p 16))[i]? = some s ∧ markOf s = treeAt (treeUnder l (p.take (16 - i))) (p.take (16 - i))
  | 0, _ => ⟨_, pOut_0 _ _ _ _, by
      rw [Nat.sub_zero, List.take_of_length_le (by rw [hp.len]; exact Nat.le_refl _), under_own h hp.len, treeAt_leaf (.inr (by rw [hp.len]; rfl))]⟩
  | i + 1, hi => by
    obtain ⟨s, hs, hm⟩ := up_marks h hp i (by omega)
    have hy : p[15 - i]? = some (p[15 - i]'(by rw [hp.len]; omega)) := List.getElem?_eq_getElem _
    generalize p[15 - i]'(by rw [hp.len]; omega) = y at hy
    have hs2 := pOut_step p (sidesN l p 16) 0 i _ s _ hs (sidesN_get (by omega))
    rw [Nat.zero_add] at hs2
    refine ⟨_, hs2, ?_⟩
    have e1 : p.take (16 - i) = p.take (15 - i) ++ [y] := by rw [show 16 - i = 15 - i + 1 by omega, List.take_add_one, hy]; rfl
    rw [show 16 - (i + 1) = 15 - i by omega, treeAt_parts (by rw [List.length_take, hp.len]; omega)]
    rw [e1] at hm
    have hsd := side_at h hp hy
    have hyb := hp.bits y (List.mem_of_getElem? hy)
    unfold isB at hyb
    simp only [Bool.or_eq_true, beq_iff_eq] at hyb
    unfold pStep
    rcases hyb with rfl | rfl
    · rw [hy, if_neg (by decide), pSay_mark, hm, hsd, show flipB 48 = 49 by decide]
    · rw [hy, if_pos rfl, pSay_mark, hm, hsd, show flipB 49 = 48 by decide]
theorem way_ok {name : List UInt8} (h : pathName name = true) : WayOk (way name) := ⟨way_16 h, by unfold way pathOf; rw [if_neg (by rw [h]; simp)]; exact pathBits_B name⟩
def proofNew (l : List EntD) (name : List UInt8) : ProofD := ⟨name, ownE l (way name), sidesN l (way name) 16⟩
theorem new_ok {l : List EntD} {name : List UInt8} (h : TreeOk l) (hn : pathName name = true) : ProofOk (proofNew l name) := by
  refine ⟨hn, ownE_ok h, fun x hx => (ownE_mem.1 hx).2, sidesN_len _ _ _, fun m hm => ?_⟩
  have hm : m ∈ sidesN l (way name) 16 := hm
  obtain ⟨i, hi⟩ := List.getElem?_of_mem hm
  have hlt := (List.getElem?_eq_some_iff.1 hi).1
  rw [sidesN_len] at hlt
  rw [sidesN_get hlt] at hi
  have hp := way_ok hn
  have hy : (way name)[15 - i]? = some ((way name)[15 - i]'(by rw [hp.len]; omega)) := List.getElem?_eq_getElem _
  rw [← Option.some.inj hi, side_at h hp hy]
  exact (treeAt_bd61 _ _).2
theorem new_root {l : List EntD} {name : List UInt8} (h : TreeOk l) (hn : pathName name = true) : proofRoot (proofNew l name) = treeAtE l [] := by
  have hp := way_ok hn
  rw [root_of (new_ok h hn), treeAtE_of h (by simp) (by simp)]
  obtain ⟨s, hs, hm⟩ := up_marks h hp 16 (Nat.le_refl _)
  have hl := lastT_pOut (way name) (sidesN l (way name) 16) (treeSaid (ownE l (way name)))
  rw [sidesN_len, hs] at hl
  have hl := Option.some.inj hl
  show (markOf (lastT (pOut (way name) 0 (treeSaid (ownE l (way name))) (sidesN l (way name) 16))), 0) = _
  rw [← hl, hm]; rfl
theorem make_ok {l : List EntD} {name : List UInt8} (h : (proofMake l name).2 = 0) : TreeOk l ∧ pathName name = true ∧ (proofMake l name).1 = proofNew l name := by
  unfold proofMake at h ⊢
  split at h
  · contradiction
  rename_i h1
  split at h
  · contradiction
  rename_i h2
  rw [if_neg h1, if_neg h2]
  refine ⟨treeCheck_iff.1 (Decidable.not_not.1 h1), ?_, rfl⟩
  have h2 := Decidable.not_not.1 h2
  unfold pathOf at h2; split at h2
  · cases h2
  · rename_i hc; simpa using hc
theorem make_err {l : List EntD} {name : List UInt8} (h : ¬ (proofMake l name).2 = 0) : (proofMake l name).1 = proofZ := by
  revert h; unfold proofMake; split
  · simp
  split <;> simp
theorem make_len (l : List EntD) (name : List UInt8) : (proofMake l name).1.entries.length ≤ 24 ∧ (proofMake l name).1.sides.length ≤ 16 := by
  by_cases h : (proofMake l name).2 = 0
  · obtain ⟨h1, _, h3⟩ := make_ok h
    rw [h3]
    exact ⟨Nat.le_trans (ownE_le _ _) h1.len, Nat.le_of_eq (sidesN_len _ _ _)⟩
  · rw [make_err h]; exact ⟨by decide, by decide⟩
theorem own_get {l : List EntD} {name : List UInt8} (h : TreeOk l) (hn : pathName name = true) : treeGet (ownE l (way name)) name = treeGet l name ∧ (treeGet l name).2.2 = 0 := by
  refine ⟨treeGet_eq (ownE_ok h) h fun y hy => ?_, ?_⟩
  · rw [ownE_mem]; exact ⟨fun hc => hc.1, fun hc => ⟨hc, by rw [hy]⟩⟩
  · by_cases hx : ∃ x ∈ l, x.name = name
    · obtain ⟨x, hx, rfl⟩ := hx; rw [treeGet_in h hx hn]
    · rw [treeGet_no h hn (fun y hy e => hx ⟨y, hy, e⟩)]
theorem holds_law {l : List EntD} {name : List UInt8} (h : (proofMake l name).2 = 0) : (treeAtE l []).2 = 0 ∧ proofTell (treeAtE l []).1 (proofMake l name).1 = treeGet l name ∧ (treeGet l name).2.2 = 0 ∧ proofRight (proofMake l name).1 = 0 := by
  obtain ⟨h1, h2, h3⟩ := make_ok h
  have h4 := new_ok h1 h2
  have h5 := own_get h1 h2
  rw [h3]
  refine ⟨by rw [treeAtE_of h1 (by simp) (by simp)], ?_, h5.2, proofRight_iff.2 h4⟩
  rw [tell_of h4 (by rw [new_root h1 h2])]
  exact h5.1
def proofAfter (root : Int) (p : ProofD) (value : List UInt8) : Int × Int := if ¬ proofHeld root p = 0 then (0, proofHeld root p) else if ¬ (treeSet p.entries p.name value).2 = 0 then (0, (treeSet p.entries p.name value).2) else proofRoot ⟨p.name, (treeSet p.entries p.name value).1, p.sides⟩
theorem side_pre {p : List UInt8} {k : Nat} {y : UInt8} (hy : p[k]? = some y) (hb : isB y = true) : ¬ (p.take k ++ [flipB y]) <+: p := by
  intro h
  obtain ⟨t, ht⟩ := h
  have hk := (List.getElem?_eq_some_iff.1 hy).1
  have : p[k]? = some (flipB y) := by
    rw [← ht, List.append_assoc, List.getElem?_append_right (by rw [List.length_take]; omega), List.length_take, Nat.min_eq_left (by omega), Nat.sub_self]; rfl
  rw [hy] at this
  have := Option.some.inj this
  unfold isB at hb; simp only [Bool.or_eq_true, beq_iff_eq] at hb
  rcases hb with rfl | rfl
  · exact absurd this (by decide)
  · exact absurd this (by decide)
theorem after_law {l : List EntD} {name value : List UInt8} (h : (proofMake l name).2 = 0) (h2 : (treeSet l name value).2 = 0) : (treeAtE l []).2 = 0 ∧ (proofAfter (treeAtE l []).1 (proofMake l name).1 value) = treeAtE (treeSet l name value).1 [] ∧ (treeAtE (treeSet l name value).1 []).2 = 0 := by
  obtain ⟨g1, g2, g3⟩ := make_ok h
  obtain ⟨_, _, s3, s4⟩ := treeSet_ok h2
  have g4 := new_ok g1 g2
  have hw := way_ok g2
  have he : (treeSet (ownE l (way name)) name value).2 = 0 := by
    obtain ⟨t1, t2, t3⟩ := treeSet_e h2
    have f1 := treeFind_ok t1
    have hfo : ∀ m, TreeOk m → treeFind m name = ((bsF m name entOrd).1, (bsF m name entOrd).2, 0) := fun m hm => by
      unfold treeFind; rw [if_neg (by rw [ne_eq, Decidable.not_not]; exact treeCheck_iff.2 hm), if_neg (by rw [g2]; simp)]
    have e1 := hfo _ (ownE_ok (p := way name) g1)
    by_cases hb : (treeFind (ownE l (way name)) name).2.1 = true
    · obtain ⟨k, hk⟩ : ∃ k : Nat, (treeFind (ownE l (way name)) name).1 = (k : Int) := ⟨_, by rw [e1]; rfl⟩
      rw [treeSet_d (by rw [e1]) t2 hb hk]
    · obtain ⟨k, hk⟩ : ∃ k : Nat, (treeFind (ownE l (way name)) name).1 = (k : Int) := ⟨_, by rw [e1]; rfl⟩
      have hb : (treeFind (ownE l (way name)) name).2.1 = false := by simpa using hb
      rw [treeSet_f (by rw [e1]) t2 hb (fun _ hc => ?_) hk]
      have hle := ownE_le l (way name)
      rcases t3 with t3 | t3
      · have h24 := g1.len
        have heq : ownE l (way name) = l := by
          have : (ownE l (way name)).length = l.length := by omega
          exact List.filter_eq_self.2 (List.length_filter_eq_length_iff.1 this)
        rw [heq] at hb; rw [hb] at t3; cases t3
      · omega
  obtain ⟨_, _, o3, o4⟩ := treeSet_ok he
  have hent : (treeSet (ownE l (way name)) name value).1 = ownE (treeSet l name value).1 (way name) := by
    refine o3.ext (ownE_ok s3) fun y => ?_
    rw [o4, ownE_mem, ownE_mem, s4]
    constructor
    · rintro (rfl | ⟨⟨a, b⟩, c⟩)
      · exact ⟨.inl rfl, rfl⟩
      · exact ⟨.inr ⟨a, c⟩, b⟩
    · rintro ⟨rfl | ⟨a, b⟩, c⟩
      · exact .inl rfl
      · exact .inr ⟨⟨a, c⟩, b⟩
  have hsid : sidesN l (way name) 16 = sidesN (treeSet l name value).1 (way name) 16 := by
    unfold sidesN
    apply List.map_congr_left
    intro i hi
    rw [List.mem_range] at hi
    have hy : (way name)[15 - i]? = some ((way name)[15 - i]'(by rw [hw.len]; omega)) := List.getElem?_eq_getElem _
    generalize (way name)[15 - i]'(by rw [hw.len]; omega) = y at hy
    have hyb := hw.bits y (List.mem_of_getElem? hy)
    rw [side_at g1 hw hy, side_at s3 hw hy]
    have hu : treeUnder l ((way name).take (15 - i) ++ [flipB y]) = treeUnder (treeSet l name value).1 ((way name).take (15 - i) ++ [flipB y]) := by
      refine (treeOk_sub g1 List.filter_sublist : TreeOk (treeUnder l _)).ext (treeOk_sub s3 List.filter_sublist) fun z => ?_
      rw [under_mem, under_mem, s4]
      constructor
      · rintro ⟨a, b⟩
        exact ⟨.inr ⟨a, fun e => side_pre hy hyb (by rw [e] at b; exact b)⟩, b⟩
      · rintro ⟨rfl | ⟨a, _⟩, b⟩
        · exact absurd b (side_pre hy hyb)
        · exact ⟨a, b⟩
    rw [hu]
  have hr := treeAtE_of s3 (q := []) (by simp) (by simp)
  refine ⟨by rw [treeAtE_of g1 (by simp) (by simp)], ?_, by rw [hr]⟩
  rw [g3]
  unfold proofAfter
  rw [if_neg, if_neg]
  · show proofRoot ⟨name, (treeSet (ownE l (way name)) name value).1, sidesN l (way name) 16⟩ = _
    rw [hent, hsid]
    exact new_root s3 g2
  · rw [Decidable.not_not]; exact he
  · rw [Decidable.not_not]
    unfold proofHeld
    rw [new_root g1 g2, if_neg (fun hc => hc.2 rfl), treeAtE_of g1 (by simp) (by simp)]
theorem own_law (p : ProofD) : ((proofSaid p).1.length : Int) = 0 ∨ ((proofSaid p).1.length : Int) = 17 := by
  by_cases h : (proofSaid p).2 = 0
  · exact .inr (by have := proofSaid_len h; omega)
  · left
    unfold proofSaid at h ⊢
    split
    · simp
    · rename_i h1; rw [if_neg h1] at h; exact absurd rfl h
theorem proofs_law : (proofMake [] [97]).2 = 0 ∧ (proofMake [] [97]).1.sides.length = 16 := by decide +kernel
theorem rsU_nonneg {G : Mem} {a : Option Addr} {c : Nat} {l : List Int} (h : RS EU G a c l) : ∀ m ∈ l, 0 ≤ m := by
  intro m hm
  obtain ⟨k, hk⟩ := List.getElem?_of_mem hm
  cases a with
  | none => have := h.nil rfl; have := (List.getElem?_eq_some_iff.1 hk).1; have := h.le; omega
  | some ad =>
    obtain ⟨cs, h1, _⟩ := h.elem _ rfl k m hk
    exact h1.2.1


end Go.Proofs.YtpofnmobbbcpgaaGreatDoor
