import Derived.Test.YtpofnmobbbcpgaaGreatDoorIns
namespace Go.Proofs.YtpofnmobbbcpgaaGreatDoor
open Go.Tx
set_option linter.unusedVariables false
set_option linter.unusedSimpArgs false

theorem sorted_ext {R : EntD → EntD → Prop} (hi : ∀ x, ¬ R x x) (ha : ∀ x y, R x y → ¬ R y x) : ∀ (l m : List EntD), l.Pairwise R → m.Pairwise R → (∀ y, y ∈ l ↔ y ∈ m) → l = m
  | [], m, _, _, h => by
    cases m with
    | nil => rfl
    | cons y m => exact absurd ((h y).2 (List.mem_cons_self ..)) (List.not_mem_nil)
  | x :: l, [], _, _, h => absurd ((h x).1 (List.mem_cons_self ..)) (List.not_mem_nil)
  | x :: l, y :: m, h1, h2, h => by
    rw [List.pairwise_cons] at h1 h2
    have e : x = y := by
      rcases List.mem_cons.1 ((h x).1 (List.mem_cons_self ..)) with e | e
      · exact e
      rcases List.mem_cons.1 ((h y).2 (List.mem_cons_self ..)) with e' | e'
      · exact e'.symm
      · exact absurd (h1.1 _ e') (ha _ _ (h2.1 _ e))
    subst e
    congr 1
    refine sorted_ext hi ha l m h1.2 h2.2 fun z => ⟨fun hz => ?_, fun hz => ?_⟩
    · rcases List.mem_cons.1 ((h z).1 (List.mem_cons_of_mem _ hz)) with e | e
      · subst e; exact absurd (h1.1 _ hz) (hi _)
      · exact e
    · rcases List.mem_cons.1 ((h z).2 (List.mem_cons_of_mem _ hz)) with e | e
      · subst e; exact absurd (h2.1 _ hz) (hi _)
      · exact e
theorem TreeOk.pair {l : List EntD} (h : TreeOk l) : l.Pairwise fun x y => ordN x.name y.name < 0 := by
  rw [List.pairwise_iff_getElem]
  intro i j hi hj hij
  exact h.ord i j _ _ hij (List.getElem?_eq_getElem hi) (List.getElem?_eq_getElem hj)
theorem TreeOk.ext {l m : List EntD} (h1 : TreeOk l) (h2 : TreeOk m) (h : ∀ y, y ∈ l ↔ y ∈ m) : l = m := by
  refine sorted_ext (R := fun x y => ordN x.name y.name < 0) (fun x hx => ?_) (fun x y hx hy => ?_) l m h1.pair h2.pair h
  · have := ordN_zero.2 (rfl : x.name = x.name); omega
  · have := ordN_trans hx hy; have := ordN_zero.2 (rfl : x.name = x.name); omega
theorem treeOk_sub {l m : List EntD} (h : TreeOk l) (hs : m.Sublist l) : TreeOk m := by
  have hp := h.pair.sublist hs
  rw [List.pairwise_iff_getElem] at hp
  refine ⟨by have := hs.length_le; have := h.len; omega, fun x hx => h.ok x (hs.subset hx), fun i j x y hij hx hy => ?_⟩
  obtain ⟨hi, rfl⟩ := List.getElem?_eq_some_iff.1 hx
  obtain ⟨hj, rfl⟩ := List.getElem?_eq_some_iff.1 hy
  exact hp i j hi hj hij
theorem treeOk_uni {l : List EntD} (h : TreeOk l) {p q : Nat} {x y : EntD} (hx : l[p]? = some x) (hy : l[q]? = some y) (e : x.name = y.name) : p = q := by
  rcases Nat.lt_trichotomy p q with hc | hc | hc
  · have := h.ord p q x y hc hx hy; rw [ordN_zero.2 e] at this; omega
  · exact hc
  · have := h.ord q p y x hc hy hx; rw [ordN_zero.2 e.symm] at this; omega
def treeDrop (l : List EntD) (name : List UInt8) : List EntD × Int := if ¬ (treeFind l name).2.2 = 0 then ([], (treeFind l name).2.2) else if (treeFind l name).2.1 = false then ([], 5) else (l.take (treeFind l name).1.toNat ++ l.drop ((treeFind l name).1.toNat + 1), 0)
theorem treeDrop_in {l : List EntD} {name : List UInt8} (h : TreeOk l) (hp : pathName name = true) (hx : ∃ x ∈ l, x.name = name) : (treeDrop l name).2 = 0 ∧ TreeOk (treeDrop l name).1 ∧ ∀ y, y ∈ (treeDrop l name).1 ↔ y ∈ l ∧ y.name ≠ name := by
  have hb := (bsF_is h name).2 hx
  have hf : treeFind l name = ((bsF l name entOrd).1, true, 0) := by
    unfold treeFind
    rw [if_neg (fun hc => hc (treeCheck_iff.2 h)), if_neg (by rw [hp]; simp), hb]
  obtain ⟨x, hk, hxn⟩ := bsF_at hb
  have hi : (treeFind l name).1.toNat = bsI (fun x => entOrd x name) l := by rw [hf]; unfold bsF; simp
  have hval : treeDrop l name = (l.take (treeFind l name).1.toNat ++ l.drop ((treeFind l name).1.toNat + 1), 0) := by
    unfold treeDrop; rw [if_neg (by rw [hf]; simp), if_neg (by rw [hf]; simp)]
  rw [hval, hi]
  generalize bsI (fun x => entOrd x name) l = k at *
  have hkl := (List.getElem?_eq_some_iff.1 hk).1
  have hsub : (l.take k ++ l.drop (k + 1)).Sublist l := by
    conv => rhs; rw [← List.take_append_drop k l]
    exact List.Sublist.append (List.Sublist.refl _) (by rw [← List.drop_drop]; exact List.drop_sublist _ _)
  refine ⟨rfl, treeOk_sub h hsub, fun y => ?_⟩
  simp only
  constructor
  · intro hy
    refine ⟨hsub.subset hy, fun e => ?_⟩
    rcases List.mem_append.1 hy with hy | hy
    · obtain ⟨p, hpy⟩ := List.getElem?_of_mem hy
      rw [List.getElem?_take] at hpy
      split at hpy
      · have := treeOk_uni h hpy hk (e.trans hxn.symm); omega
      · cases hpy
    · obtain ⟨p, hpy⟩ := List.getElem?_of_mem hy
      rw [List.getElem?_drop] at hpy
      have := treeOk_uni h hpy hk (e.trans hxn.symm); omega
  · rintro ⟨hy, hne⟩
    obtain ⟨p, hpy⟩ := List.getElem?_of_mem hy
    rcases Nat.lt_trichotomy p k with hc | hc | hc
    · exact List.mem_append.2 (.inl (List.mem_of_getElem? (i := p) (by rw [List.getElem?_take, if_pos hc]; exact hpy)))
    · subst hc; rw [hk] at hpy; exact absurd (Option.some.inj hpy ▸ hxn) hne
    · exact List.mem_append.2 (.inr (List.mem_of_getElem? (i := p - (k + 1)) (by rw [List.getElem?_drop, show k + 1 + (p - (k + 1)) = p by omega]; exact hpy)))
theorem treeDrop_no {l : List EntD} {name : List UInt8} (h : TreeOk l) (hp : pathName name = true) (hx : ¬ ∃ x ∈ l, x.name = name) : treeDrop l name = ([], 5) := by
  have hb : (bsF l name entOrd).2 = false := by
    cases e : (bsF l name entOrd).2 with
    | false => rfl
    | true => exact absurd ((bsF_is h name).1 e) hx
  have hf : treeFind l name = ((bsF l name entOrd).1, false, 0) := by
    unfold treeFind
    rw [if_neg (fun hc => hc (treeCheck_iff.2 h)), if_neg (by rw [hp]; simp), hb]
  unfold treeDrop; rw [if_neg (by rw [hf]; simp), if_pos (by rw [hf])]
theorem treeDrop_len (l : List EntD) (name : List UInt8) : (treeDrop l name).1.length ≤ 24 := by
  unfold treeDrop
  split
  · simp
  split
  · simp
  · rename_i h _
    have h1 := (treeFind_le (Decidable.not_not.1 h)).2.2
    simp; omega
theorem treeBack_law {l : List EntD} {name value : List UInt8} (h : (treeSet l name value).2 = 0) : (treeDrop (treeSet l name value).1 name).2 = 0 ∧ treeCheck (treeDrop (treeSet l name value).1 name).1 = 0 ∧
    (((treeDrop l name).2 = 5 ∧ (treeDrop (treeSet l name value).1 name).1 = l) ∨ ((treeDrop l name).2 = 0 ∧ (treeDrop (treeSet l name value).1 name).1 = (treeDrop l name).1)) := by
  obtain ⟨h1, h2, h3, h4⟩ := treeSet_ok h
  obtain ⟨a1, a2, a3⟩ := treeDrop_in h3 h2 ⟨⟨name, value⟩, (h4 _).2 (.inl rfl), rfl⟩
  have key : ∀ y, y ∈ (treeDrop (treeSet l name value).1 name).1 ↔ y ∈ l ∧ y.name ≠ name := by
    intro y
    rw [a3, h4]
    constructor
    · rintro ⟨rfl | hy, hn⟩
      · exact absurd rfl hn
      · exact hy
    · intro hy; exact ⟨.inr hy, hy.2⟩
  refine ⟨a1, treeCheck_iff.2 a2, ?_⟩
  by_cases hx : ∃ x ∈ l, x.name = name
  · obtain ⟨b1, b2, b3⟩ := treeDrop_in h1 h2 hx
    exact .inr ⟨b1, a2.ext b2 fun y => (key y).trans (b3 y).symm⟩
  · refine .inl ⟨by rw [treeDrop_no h1 h2 hx], a2.ext h1 fun y => (key y).trans ⟨fun hy => hy.1, fun hy => ⟨hy, fun e => hx ⟨y, hy, e⟩⟩⟩⟩


end Go.Proofs.YtpofnmobbbcpgaaGreatDoor
