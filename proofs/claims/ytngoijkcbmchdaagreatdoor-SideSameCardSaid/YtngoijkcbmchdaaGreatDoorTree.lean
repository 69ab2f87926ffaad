import Derived.Test.YtngoijkcbmchdaaGreatDoorPath
namespace Go.Proofs.YtngoijkcbmchdaaGreatDoor
open Go.Tx
set_option linter.unusedVariables false
set_option linter.unusedSimpArgs false

def treeRight (name value : List UInt8) : Int := if pathName name = false then 3 else if 20 < value.length then 2 else 0
def treeCk (l : List EntD) : Nat → List EntD → Int
  | _, [] => 0
  | i, x :: r => if treeRight x.name x.value ≠ 0 then treeRight x.name x.value else if 0 < i ∧ 0 ≤ ordN ((l[i - 1]?.getD x).name) x.name then 3 else treeCk l (i + 1) r
def treeCheck (l : List EntD) : Int := if 24 < l.length then 2 else treeCk l 0 l
theorem treeCk_step {l : List EntD} {i : Nat} {x : EntD} (hx : l[i]? = some x) (h : treeRight x.name x.value = 0) (h2 : ¬ (0 < i ∧ 0 ≤ ordN ((l[i - 1]?.getD x).name) x.name)) : treeCk l i (l.drop i) = treeCk l (i + 1) (l.drop (i + 1)) := by
  obtain ⟨h1, rfl⟩ := List.getElem?_eq_some_iff.1 hx
  rw [List.drop_eq_getElem_cons h1]
  show (if _ then _ else if _ then _ else _) = _
  rw [if_neg (by omega), if_neg h2]
theorem treeCk_a {l : List EntD} {i : Nat} {x : EntD} (hx : l[i]? = some x) (h : ¬ treeRight x.name x.value = 0) : treeCk l i (l.drop i) = treeRight x.name x.value := by
  obtain ⟨h1, rfl⟩ := List.getElem?_eq_some_iff.1 hx
  rw [List.drop_eq_getElem_cons h1]
  show (if _ then _ else if _ then _ else _) = _
  rw [if_pos h]
theorem treeCk_b {l : List EntD} {i : Nat} {x y : EntD} (hx : l[i]? = some x) (h : treeRight x.name x.value = 0) (hi : 0 < i) (hy : l[i - 1]? = some y) (h2 : 0 ≤ ordN y.name x.name) : treeCk l i (l.drop i) = 3 := by
  obtain ⟨h1, rfl⟩ := List.getElem?_eq_some_iff.1 hx
  rw [List.drop_eq_getElem_cons h1]
  show (if _ then _ else if _ then _ else _) = _
  rw [if_neg (by omega), if_pos ⟨hi, by rw [hy]; exact h2⟩]
structure TreeOk (l : List EntD) : Prop where
  len : l.length ≤ 24
  ok : ∀ x ∈ l, treeRight x.name x.value = 0
  ord : ∀ (i j : Nat) x y, i < j → l[i]? = some x → l[j]? = some y → ordN x.name y.name < 0
theorem treeCk_iff {l : List EntD} : ∀ (n i : Nat), l.length ≤ i + n → (treeCk l i (l.drop i) = 0 ↔ (∀ j x, i ≤ j → l[j]? = some x → treeRight x.name x.value = 0) ∧ ∀ j x y, i ≤ j + 1 → l[j]? = some x → l[j + 1]? = some y → ordN x.name y.name < 0)
  | 0, i, h => by
    rw [List.drop_eq_nil_of_le (by omega)]
    refine ⟨fun _ => ⟨fun j x hj hx => ?_, fun j x y hj hx hy => ?_⟩, fun _ => rfl⟩
    · have := (List.getElem?_eq_some_iff.1 hx).1; omega
    · have := (List.getElem?_eq_some_iff.1 hy).1; omega
  | n + 1, i, h => by
    by_cases hi : i < l.length
    · have hx : l[i]? = some l[i] := List.getElem?_eq_getElem hi
      by_cases h1 : treeRight l[i].name l[i].value = 0
      · by_cases h2 : 0 < i ∧ 0 ≤ ordN ((l[i - 1]?.getD l[i]).name) l[i].name
        · have hy : l[i - 1]? = some (l[i - 1]'(by omega)) := List.getElem?_eq_getElem (by omega)
          have h3 := h2.2
          rw [hy] at h3
          rw [treeCk_b hx h1 h2.1 hy h3]
          constructor
          · intro hc; cases hc
          · rintro ⟨_, h4⟩
            have := h4 (i - 1) _ _ (by omega) hy (by rw [show i - 1 + 1 = i by omega]; exact hx)
            simp at h3; omega
        · rw [treeCk_step hx h1 h2, treeCk_iff n (i + 1) (by omega)]
          constructor
          · rintro ⟨a, b⟩
            refine ⟨fun j x hj hjx => ?_, fun j x y hj hjx hjy => ?_⟩
            · by_cases e : j = i
              · subst e; rw [hx] at hjx; rw [← Option.some.inj hjx]; exact h1
              · exact a j x (by omega) hjx
            · by_cases e : j + 1 = i
              · have : 0 < i := by omega
                have hy : l[i - 1]? = some x := by rw [← e]; exact hjx
                rw [hy] at h2
                rw [e, hx] at hjy
                rw [← Option.some.inj hjy]
                have := fun hc => h2 ⟨by omega, hc⟩
                simp at this; omega
              · exact b j x y (by omega) hjx hjy
          · rintro ⟨a, b⟩
            exact ⟨fun j x hj => a j x (by omega), fun j x y hj => b j x y (by omega)⟩
      · rw [treeCk_a hx h1]
        exact ⟨fun hc => absurd hc h1, fun hc => absurd (hc.1 i _ (Nat.le_refl _) hx) h1⟩
    · rw [List.drop_eq_nil_of_le (by omega)]
      refine ⟨fun _ => ⟨fun j x hj hx => ?_, fun j x y hj hx hy => ?_⟩, fun _ => rfl⟩
      · have := (List.getElem?_eq_some_iff.1 hx).1; omega
      · have := (List.getElem?_eq_some_iff.1 hy).1; omega
theorem ord_far {l : List EntD} (h : ∀ j x y, l[j]? = some x → l[j + 1]? = some y → ordN x.name y.name < 0) : ∀ (d i : Nat) x y, l[i]? = some x → l[i + d + 1]? = some y → ordN x.name y.name < 0
  | 0, i, x, y, hx, hy => h i x y hx hy
  | d + 1, i, x, y, hx, hy => by
    have hj := (List.getElem?_eq_some_iff.1 hy).1
    have hz : l[i + d + 1]? = some (l[i + d + 1]'(by omega)) := List.getElem?_eq_getElem (by omega)
    exact ordN_trans (ord_far h d i x _ hx hz) (h _ _ _ hz hy)
theorem treeCheck_iff {l : List EntD} : treeCheck l = 0 ↔ TreeOk l := by
  unfold treeCheck
  have e := treeCk_iff (l := l) l.length 0 (by omega)
  rw [List.drop_zero] at e
  constructor
  · intro h
    split at h
    · cases h
    · have h2 := e.1 h
      refine ⟨by omega, fun x hx => ?_, fun i j x y hij hx hy => ?_⟩
      · obtain ⟨k, hk⟩ := List.getElem?_of_mem hx
        exact h2.1 k x (Nat.zero_le _) hk
      · obtain ⟨d, rfl⟩ : ∃ d, j = i + d + 1 := ⟨j - i - 1, by omega⟩
        exact ord_far (fun j x y hx hy => h2.2 j x y (by omega) hx hy) d i x y hx hy
  · rintro ⟨h1, h2, h3⟩
    rw [if_neg (by omega)]
    exact e.2 ⟨fun j x _ hx => h2 x (List.mem_of_getElem? hx), fun j x y _ hx hy => h3 j (j + 1) x y (by omega) hx hy⟩
/-- the place that a search by halves comes to -/
def bsGo (c : EntD → Int) (l : List EntD) : Nat → Nat → Nat → Nat
  | 0, i, _ => i
  | f + 1, i, j => if i < j then match l[(i + j) / 2]? with
      | some x => if c x < 0 then bsGo c l f ((i + j) / 2 + 1) j else bsGo c l f i ((i + j) / 2)
      | none => i
    else i
theorem bsGo_fuel (c : EntD → Int) (l : List EntD) : ∀ (f g i j : Nat), j ≤ i + f → j ≤ i + g → bsGo c l f i j = bsGo c l g i j
  | 0, 0, _, _, _, _ => rfl
  | 0, g + 1, i, j, h, _ => by unfold bsGo; rw [if_neg (by omega)]
  | f + 1, 0, i, j, _, h => by unfold bsGo; rw [if_neg (by omega)]
  | f + 1, g + 1, i, j, h1, h2 => by
    unfold bsGo
    split
    · split
      · split
        · exact bsGo_fuel c l f g _ _ (by omega) (by omega)
        · exact bsGo_fuel c l f g _ _ (by omega) (by omega)
      · rfl
    · rfl
def bsI (c : EntD → Int) (l : List EntD) : Nat := bsGo c l l.length 0 l.length
theorem bs_lt {c : EntD → Int} {l : List EntD} {i j : Nat} {x : EntD} (h : i < j) (hj : j ≤ l.length) (hx : l[(i + j) / 2]? = some x) (hc : c x < 0) : bsGo c l l.length i j = bsGo c l l.length ((i + j) / 2 + 1) j := by
  rw [bsGo_fuel c l l.length (l.length + 1) i j (by omega) (by omega)]
  conv => lhs; unfold bsGo
  rw [if_pos h, hx]
  simp only
  rw [if_pos hc]
theorem bs_ge {c : EntD → Int} {l : List EntD} {i j : Nat} {x : EntD} (h : i < j) (hj : j ≤ l.length) (hx : l[(i + j) / 2]? = some x) (hc : ¬ c x < 0) : bsGo c l l.length i j = bsGo c l l.length i ((i + j) / 2) := by
  rw [bsGo_fuel c l l.length (l.length + 1) i j (by omega) (by omega)]
  conv => lhs; unfold bsGo
  rw [if_pos h, hx]
  simp only
  rw [if_neg hc]
theorem bs_end {c : EntD → Int} {l : List EntD} {i j n : Nat} (h : ¬ i < j) : bsGo c l n i j = i := by
  cases n with
  | zero => rfl
  | succ n => unfold bsGo; rw [if_neg h]
theorem bsGo_spec (c : EntD → Int) (l : List EntD) (hm : ∀ (p q : Nat) x y, p < q → l[p]? = some x → l[q]? = some y → c y < 0 → c x < 0) : ∀ (f i j : Nat), j ≤ i + f → i ≤ j → j ≤ l.length → (∀ p x, p < i → l[p]? = some x → c x < 0) → (∀ p x, j ≤ p → l[p]? = some x → ¬ c x < 0) →
    i ≤ bsGo c l f i j ∧ bsGo c l f i j ≤ j ∧ (∀ p x, p < bsGo c l f i j → l[p]? = some x → c x < 0) ∧ (∀ p x, bsGo c l f i j ≤ p → l[p]? = some x → ¬ c x < 0)
  | 0, i, j, h1, h2, h3, h4, h5 => by
    have : i = j := by omega
    subst this
    exact ⟨Nat.le_refl _, Nat.le_refl _, h4, h5⟩
  | f + 1, i, j, h1, h2, h3, h4, h5 => by
    unfold bsGo
    by_cases h : i < j
    · rw [if_pos h]
      have hx : l[(i + j) / 2]? = some (l[(i + j) / 2]'(by omega)) := List.getElem?_eq_getElem (by omega)
      rw [hx]
      simp only
      split
      · rename_i hc
        have := bsGo_spec c l hm f ((i + j) / 2 + 1) j (by omega) (by omega) h3 (fun p x hp hpx => by
          by_cases e : p = (i + j) / 2
          · subst e; rw [hx] at hpx; rw [← Option.some.inj hpx]; exact hc
          · exact hm p ((i + j) / 2) x _ (by omega) hpx hx hc) h5
        exact ⟨by omega, this.2.1, this.2.2⟩
      · rename_i hc
        have := bsGo_spec c l hm f i ((i + j) / 2) (by omega) (by omega) (by omega) h4 (fun p x hp hpx hcx => by
          by_cases e : p = (i + j) / 2
          · subst e; rw [hx] at hpx; rw [← Option.some.inj hpx] at hcx; exact hc hcx
          · exact hc (hm ((i + j) / 2) p _ x (by omega) hx hpx hcx))
        exact ⟨this.1, by omega, this.2.2⟩
    · rw [if_neg h]
      have : i = j := by omega
      subst this
      exact ⟨Nat.le_refl _, Nat.le_refl _, h4, h5⟩
def bsF (l : List EntD) (t : List UInt8) (c : EntD → List UInt8 → Int) : Int × Bool := (((bsI (fun x => c x t) l : Nat) : Int), match l[bsI (fun x => c x t) l]? with
  | some x => decide (c x t = 0)
  | none => false)
def entOrd (x : EntD) (name : List UInt8) : Int := ordN x.name name
def treeFind (l : List EntD) (name : List UInt8) : Int × Bool × Int := if treeCheck l ≠ 0 then (0, false, treeCheck l) else if pathName name = false then (0, false, 3) else ((bsF l name entOrd).1, (bsF l name entOrd).2, 0)
theorem bsI_bd (c : EntD → Int) (l : List EntD) : bsI c l ≤ l.length := by
  have : ∀ (f i j : Nat), i ≤ j → bsGo c l f i j ≤ j := by
    intro f
    induction f with
    | zero => intro i j h; exact h
    | succ f ih =>
      intro i j h
      unfold bsGo
      split
      · split
        · split
          · exact ih _ _ (by omega)
          · exact Nat.le_trans (ih _ _ (by omega)) (by omega)
        · exact h
      · exact h
  exact this _ _ _ (Nat.zero_le _)
/-- the place of a name in a book that is right -/
theorem place_spec {l : List EntD} (h : TreeOk l) (name : List UInt8) : (∀ p x, p < bsI (fun x => entOrd x name) l → l[p]? = some x → ordN x.name name < 0) ∧ (∀ p x, bsI (fun x => entOrd x name) l ≤ p → l[p]? = some x → ¬ ordN x.name name < 0) := by
  have := bsGo_spec (fun x => entOrd x name) l (fun p q x y hpq hx hy hc => ordN_trans (h.ord p q x y hpq hx hy) hc) l.length 0 l.length (by omega) (Nat.zero_le _) (Nat.le_refl _) (fun p x hp => absurd hp (Nat.not_lt_zero _)) (fun p x hp hx => by have := (List.getElem?_eq_some_iff.1 hx).1; omega)
  exact this.2.2
theorem bsF_is {l : List EntD} (h : TreeOk l) (name : List UInt8) : (bsF l name entOrd).2 = true ↔ ∃ x ∈ l, x.name = name := by
  have hs := place_spec h name
  unfold bsF
  simp only
  constructor
  · intro e
    cases hx : l[bsI (fun x => entOrd x name) l]? with
    | none => rw [hx] at e; cases e
    | some x =>
      rw [hx] at e
      exact ⟨x, List.mem_of_getElem? hx, ordN_zero.1 (of_decide_eq_true e)⟩
  · rintro ⟨x, hx, rfl⟩
    obtain ⟨k, hk⟩ := List.getElem?_of_mem hx
    have h1 : ¬ ordN x.name x.name < 0 := by have : ordN x.name x.name = 0 := ordN_zero.2 rfl; omega
    have h2 : bsI (fun y => entOrd y x.name) l ≤ k := by
      apply Nat.le_of_not_lt; intro hc; exact h1 (hs.1 k x hc hk)
    have h3 : bsI (fun y => entOrd y x.name) l = k := by
      apply Classical.byContradiction; intro hne
      have hl := (List.getElem?_eq_some_iff.1 hk).1
      have hy : l[bsI (fun y => entOrd y x.name) l]? = some (l[bsI (fun y => entOrd y x.name) l]'(by omega)) := List.getElem?_eq_getElem (by omega)
      exact hs.2 _ _ (Nat.le_refl _) hy (h.ord _ k _ x (by omega) hy hk)
    rw [h3, hk]
    simp only [decide_eq_true_eq]
    exact ordN_zero.2 rfl
theorem bsF_at {l : List EntD} {name : List UInt8} (e : (bsF l name entOrd).2 = true) : ∃ x, l[bsI (fun x => entOrd x name) l]? = some x ∧ x.name = name := by
  unfold bsF at e
  simp only at e
  cases hx : l[bsI (fun x => entOrd x name) l]? with
  | none => rw [hx] at e; cases e
  | some x => rw [hx] at e; exact ⟨x, rfl, ordN_zero.1 (of_decide_eq_true e)⟩
def treeGet (l : List EntD) (name : List UInt8) : List UInt8 × Bool × Int := if (treeFind l name).2.1 = false then ([], false, (treeFind l name).2.2) else ((l[(treeFind l name).1.toNat]?.map (·.value)).getD [], true, (treeFind l name).2.2)
theorem treeFind_is {l : List EntD} {name : List UInt8} (h : (treeFind l name).2.1 = true) : TreeOk l ∧ pathName name = true ∧ treeFind l name = ((bsF l name entOrd).1, true, 0) ∧ (bsF l name entOrd).2 = true := by
  unfold treeFind at h ⊢
  split at h
  · cases h
  split at h
  · cases h
  · rename_i h1 h2
    rw [if_neg h1, if_neg h2]
    have h3 : (bsF l name entOrd).2 = true := h
    exact ⟨treeCheck_iff.1 (Decidable.not_not.1 h1), by simpa using h2, by rw [h3], h3⟩
theorem treeFind_bd {l : List EntD} {name : List UInt8} (h : (treeFind l name).2.1 = true) : 0 ≤ (treeFind l name).1 ∧ (treeFind l name).1 < l.length := by
  obtain ⟨h1, h2, h3, h4⟩ := treeFind_is h
  obtain ⟨x, hx, _⟩ := bsF_at h4
  have := (List.getElem?_eq_some_iff.1 hx).1
  rw [h3]; unfold bsF; simp only; omega

theorem treeRight_con (G : Mem) (name : List UInt8) (value : List UInt8)  : ConV 54 #[Sr name, Sr value] G (I (treeRight name value)) := by
  refine con_of Tryz.func54 13 [(0, Sr name), (1, Sr value)] rfl (fun w0 G0 => ?_)
  refine tc_rbn [0] [] ?_
  refine tc_seq ?_
  refine tc_block ?_
  refine tc_seq ?_
  refine tc_region ?_
  refine runL_bn [0] [(6, Sr name)] ?_
  refine runL_callV 7 (Bo (pathName name)) (pathName_con G name) ?_
  refine runL_bn [0,0] [(5, Bo (!(pathName name)))] ?_
  refine runL_nil ?_
  refine tq_then ?_
  refine tc_condP (!(pathName name)) (fun h1 => ?_) (fun h1 => ?_)
  ·
    refine tc_rbn [0] [(4, I 3)] ?_
    refine tc_ret ?_
    refine tq_block_ret ?_
    refine tq_then_ret ?_
    refine tq_ret [0] [I 3] (bp_ret (Mem.le_refl _) (congrArg I (?_ : (treeRight name value) = 3).symm))
    unfold treeRight; simp_all; try omega
  ·
    refine tc_rbn [0,0,0,0] [(9, Bo (decide (((value).length : Int) > 20)))] ?_
    refine tc_condP (decide (((value).length : Int) > 20)) (fun h2 => ?_) (fun h2 => ?_)
    ·
      refine tc_rbn [0] [(4, I 2)] ?_
      refine tc_ret ?_
      refine tq_block_ret ?_
      refine tq_then_ret ?_
      refine tq_ret [0] [I 2] (bp_ret (Mem.le_refl _) (congrArg I (?_ : (treeRight name value) = 2).symm))
      unfold treeRight; simp_all; try omega
    ·
      refine tc_skip ?_
      refine tq_block ?_
      refine tq_then ?_
      refine tc_rbn [0] [(4, I 0)] ?_
      refine tc_ret ?_
      refine tq_ret [0] [I 0] (bp_ret (Mem.le_refl _) (congrArg I (?_ : (treeRight name value) = 0).symm))
      unfold treeRight; simp_all; try omega

theorem treeCheck_con (G : Mem) (a_l : Option Addr) (c_l : Nat) (l : List EntD) (h_l : RS EEnt G a_l c_l l)  : ConV 43 #[Sl a_l l.length c_l] G (I (treeCheck l)) := by
  refine con_of Tryz.func43 39 [(0, Sl a_l l.length c_l)] rfl (fun w0 G0 => ?_)
  refine tc_rbn [0] [] ?_
  refine tc_seq ?_
  refine tc_rbn [0,0,0] [(8, Bo (decide (((l.length : Nat) : Int) > 24)))] ?_
  refine tc_condP (decide (((l.length : Nat) : Int) > 24)) (fun h1 => ?_) (fun h1 => ?_)
  ·
    refine tc_rbn [0] [(2, I 2)] ?_
    refine tc_ret ?_
    refine tq_then_ret ?_
    refine tq_ret [0] [I 2] (bp_ret (Mem.le_refl _) (congrArg I (?_ : (treeCheck l) = 2).symm))
    unfold treeCheck; first | (rw [if_pos (by omega)]; done) | (rw [if_neg (by omega), hn]; first | exact treeCk_a hx1 (by assumption) | exact treeCk_b hx1 (by assumption) (by omega) (by assumption) (by omega) | (rw [List.drop_eq_nil_of_le (by omega)]; rfl))
  ·
    refine tc_skip ?_
    refine tq_then ?_
    refine tc_seq ?_
    refine tc_rbn [0,0,0] [(9, Sl a_l l.length c_l), (10, I (((l.length : Nat) : Int))), (11, I 0)] ?_
    refine tc_block ?_
    have hlm_h_l : l.length ≤ 9223372036854775807 := Nat.le_trans (h_l).le (h_l).max
    refine tc_loop (σ := Nat) (fun q_ => (q_ ≤ l.length) ∧ (treeCk l 0 l = treeCk l q_ (l.drop q_))) (fun q_ => [(0, Sl a_l l.length c_l), (9, Sl a_l l.length c_l), (10, I (((l.length : Nat) : Int))), (11, I ((q_ : Int)))]) (fun q_ => G) (fun q_ => []) (fun q_ => l.length - q_) 0 ⟨(by (try dsimp only); first | exact Nat.zero_le _ | omega | simp), rfl⟩ (fun q_ hs => ?_)
    revert hs; revert q_; intro i hs
    obtain ⟨hi, hn⟩ := hs
    refine tc_eq (fr' := [(0, Sl a_l l.length c_l), (9, Sl a_l l.length c_l), (10, I (((l.length : Nat) : Int))), (11, I ((i : Int)))]) (L' := []) rfl rfl ?_
    refine tc_rbn [0] [(12, Bo (decide ((i : Int) < ((l.length : Nat) : Int))))] ?_
    refine tc_seq ?_
    refine tc_condP (decide ((i : Int) < ((l.length : Nat) : Int))) (fun h2 => ?_) (fun h2 => ?_)
    ·
      refine tc_skip ?_
      refine tq_then ?_
      refine tc_seq ?_
      refine tc_block ?_
      refine tc_seq ?_
      refine tc_region ?_
      refine runL_bn [0] [(13, I ((i : Int)))] ?_
      obtain ⟨b1, o1, rfl⟩ := RS.addr h_l (k := i) (by omega)
      obtain ⟨x1, hx1⟩ := getX (l := l) (k := i) (by omega)
      obtain ⟨_, ⟨rfl, w1, w2⟩, hc1⟩ := RS.get h_l hx1
      refine runL_idx (b := b1) (off := o1) (len := l.length) (cap := c_l) (ik := .i64) 14 106 2 i (by omega) ?_
      refine runL_ldG 15 106 (cs := [Sr x1.name, Sr x1.value]) 0 (.agg #[Sr x1.name, Sr x1.value]) hc1 ?_
      refine runL_box 4 #[Sr ([]), Sr ([])] 106 (fun b2 => ?_)
      refine runL_bsn [0,3] [(3, I ((i : Int)))] [[Sg b2 0 [Sr x1.name, Sr x1.value]]] ?_
      refine runL_nil ?_
      refine tq_then ?_
      refine tc_seq ?_
      refine tc_seq ?_
      refine tc_region ?_
      refine runL_bn [0,2,0,2] [(17, Sr x1.name), (19, Sr x1.value)] ?_
      refine runL_callV 20 (I (treeRight x1.name x1.value)) (treeRight_con G x1.name x1.value) ?_
      refine runL_bn [0] [(5, I (treeRight x1.name x1.value))] ?_
      refine runL_nil ?_
      refine tq_then ?_
      refine tc_rbn [0,0] [(22, Bo (!decide (treeRight x1.name x1.value = 0)))] ?_
      refine tc_condP (!decide (treeRight x1.name x1.value = 0)) (fun h3 => ?_) (fun h3 => ?_)
      ·
        refine tc_rbn [0,0] [(2, I (treeRight x1.name x1.value))] ?_
        refine tc_ret ?_
        refine tq_then_ret ?_
        refine tq_block_ret ?_
        refine tq_then_ret ?_
        refine tq_rnd_ret ?_
        refine tq_block_ret ?_
        refine tq_then_ret ?_
        refine tq_ret [0] [I (treeRight x1.name x1.value)] (bp_ret (Mem.le_refl _) (congrArg I (?_ : (treeCheck l) = (treeRight x1.name x1.value)).symm))
        unfold treeCheck; first | (rw [if_pos (by omega)]; done) | (rw [if_neg (by omega), hn]; first | exact treeCk_a hx1 (by assumption) | exact treeCk_b hx1 (by assumption) (by omega) (by assumption) (by omega) | (rw [List.drop_eq_nil_of_le (by omega)]; rfl))
      ·
        refine tc_skip ?_
        refine tq_then ?_
        refine tc_seq ?_
        rcases Bool.eq_false_or_eq_true (decide ((i : Int) > 0)) with h4 | h4
        ·
          have h4d := h4
          try simp only [decide_eq_true_eq, decide_eq_false_iff_not, Bool.and_eq_true, Bool.or_eq_true, Bool.and_eq_false_imp, Bool.or_eq_false_iff, Bool.not_eq_true', Bool.not_eq_false', Bool.not_eq_true, Bool.not_eq_false, beq_iff_eq, beq_eq_false_iff_ne, bne_iff_ne, ne_eq, Decidable.not_not, Int.not_lt, Int.not_le] at h4d
          have e1 : IntKind.i64.wrap (((i : Int)) - 1) = ((i - 1 : Nat) : Int) := (IntWalk.i64_in _ (by omega)).trans (show ((i : Int)) - 1 = ((i - 1 : Nat) : Int) by omega)
          obtain ⟨x2, hx2⟩ := getX (l := l) (k := i - 1) (by omega)
          obtain ⟨_, ⟨rfl, w3, w4⟩, hc2⟩ := RS.get h_l hx2
          refine tc_draw [] ?_
          refine dr_V [(0, I ((i : Int))), (1, Bo true), (2, Bo true), (3, Sl (At b1 o1) l.length c_l), (4, I ((i : Int))), (5, I (((i - 1 : Nat) : Int))), (6, Pt b1 (o1 + (i - 1) * 2)), (7, Pt b1 (o1 + (i - 1) * 2)), (8, Sr x2.name), (9, Pt b2 0), (10, Sr x1.name), (11, I (ordN x2.name x1.name)), (12, Bo (decide (ordN x2.name x1.name ≥ 0))), (13, Bo (decide (ordN x2.name x1.name ≥ 0)))] ?_
          refine dr_end [] [(0,0), (2,0), (3,0), (4,0), (7,0), (9,0), (10,2), (12,0), (13,0)] [1, 5, 6, 8, 11] [(0, Sl (At b1 o1) l.length c_l), (9, Sl (At b1 o1) l.length c_l), (10, I (((l.length : Nat) : Int))), (11, I ((i : Int))), (37, Bo (decide (ordN x2.name x1.name ≥ 0)))] (fmc ?_ (fmc ?_ (fmc ?_ (fmc ?_ (fmc ?_ fm0))))) ?_
          · refine stab_of 1 25 (Bo true) [(24, I ((i : Int)))] (fun X => ?_)
            exact runL_p1 25 (Bo (decide ((i : Int) > 0))) (Bo true) (by rw [h4]) stab_end
          · refine stab_of 5 29 (I (((i - 1 : Nat) : Int))) [(26, Bo true), (28, I ((i : Int)))] (fun X => ?_)
            exact runL_p1 29 (I (IntKind.i64.wrap (((i : Int)) - 1))) (I (((i - 1 : Nat) : Int))) (by simp only [e1]) stab_end
          · refine stab_of 6 30 (Pt b1 (o1 + (i - 1) * 2)) [(26, Bo true), (27, Sl (At b1 o1) l.length c_l), (29, I (((i - 1 : Nat) : Int)))] (fun X => ?_)
            exact runL_idx (b := b1) (off := o1) (len := l.length) (cap := c_l) (ik := .i64) 30 106 2 (i - 1) (by omega) stab_end
          · refine stab_of 8 32 (Sr x2.name) [(26, Bo true), (31, Pt b1 (o1 + (i - 1) * 2))] (fun X => ?_)
            exact runL_ldG 32 9 (cs := [Sr x2.name, Sr x2.value]) 0 (Sr x2.name) hc2 stab_end
          · refine stab_of 11 35 (I (ordN x2.name x1.name)) [(26, Bo true), (32, Sr x2.name), (34, Sr x1.name)] (fun X => ?_)
            exact runL_callV 35 (I (ordN x2.name x1.name)) (ordN_con G x2.name w3 x1.name w1) stab_end
          refine tq_then ?_
          refine tc_condP (decide (ordN x2.name x1.name ≥ 0)) (fun h5 => ?_) (fun h5 => ?_)
          ·
            refine tc_rbn [0] [(2, I 3)] ?_
            refine tc_ret ?_
            refine tq_block_ret ?_
            refine tq_then_ret ?_
            refine tq_rnd_ret ?_
            refine tq_block_ret ?_
            refine tq_then_ret ?_
            refine tq_ret [0] [I 3] (bp_ret (Mem.le_refl _) (congrArg I (?_ : (treeCheck l) = 3).symm))
            unfold treeCheck; first | (rw [if_pos (by omega)]; done) | (rw [if_neg (by omega), hn]; first | exact treeCk_a hx1 (by assumption) | exact treeCk_b hx1 (by assumption) (by omega) (by assumption) (by omega) | (rw [List.drop_eq_nil_of_le (by omega)]; rfl))
          ·
            refine tc_skip ?_
            refine tq_block ?_
            refine tq_then ?_
            refine tc_region ?_
            refine runL_bn [0,0] [(11, I (IntKind.i64.wrap (((i : Int)) + 1)))] ?_
            refine runL_wi64 11 (((i : Int)) + 1) (by omega) ?_
            refine runL_nil ?_
            refine tq_ownsA [] ?_
            exact tq_rnd (i + 1) ⟨(by omega), (by rw [hn]; exact treeCk_step hx1 (by assumption) (by first | (intro hc_; omega) | (intro hc_; simp_all; done) | (intro hc_; simp_all; omega)))⟩ (by (try dsimp only); omega)
        ·
          have h4d := h4
          try simp only [decide_eq_true_eq, decide_eq_false_iff_not, Bool.and_eq_true, Bool.or_eq_true, Bool.and_eq_false_imp, Bool.or_eq_false_iff, Bool.not_eq_true', Bool.not_eq_false', Bool.not_eq_true, Bool.not_eq_false, beq_iff_eq, beq_eq_false_iff_ne, bne_iff_ne, ne_eq, Decidable.not_not, Int.not_lt, Int.not_le] at h4d
          refine tc_draw [] ?_
          refine dr_V [(0, I ((i : Int))), (1, Bo false), (2, Bo false), (3, undef), (4, undef), (5, undef), (6, undef), (7, undef), (8, undef), (9, undef), (10, undef), (11, undef), (12, undef), (13, Bo false)] ?_
          refine dr_end [] [(0,0), (2,0), (3,1), (4,1), (5,1), (6,1), (7,1), (8,1), (9,1), (10,1), (11,1), (12,1), (13,0)] [1] [(0, Sl (At b1 o1) l.length c_l), (9, Sl (At b1 o1) l.length c_l), (10, I (((l.length : Nat) : Int))), (11, I ((i : Int))), (37, Bo false)] (fmc ?_ fm0) ?_
          · refine stab_of 1 25 (Bo false) [(24, I ((i : Int)))] (fun X => ?_)
            exact runL_p1 25 (Bo (decide ((i : Int) > 0))) (Bo false) (by rw [h4]) stab_end
          refine tq_then ?_
          refine tc_cond_false ?_
          refine tc_skip ?_
          refine tq_block ?_
          refine tq_then ?_
          refine tc_region ?_
          refine runL_bn [0,0] [(11, I (IntKind.i64.wrap (((i : Int)) + 1)))] ?_
          refine runL_wi64 11 (((i : Int)) + 1) (by omega) ?_
          refine runL_nil ?_
          refine tq_ownsA [] ?_
          exact tq_rnd (i + 1) ⟨(by omega), (by rw [hn]; exact treeCk_step hx1 (by assumption) (by first | (intro hc_; omega) | (intro hc_; simp_all; done) | (intro hc_; simp_all; omega)))⟩ (by (try dsimp only); omega)
    ·
      refine tc_exit ?_
      refine tq_then_exit ?_
      refine tq_rnd_exit ?_
      refine tq_block_here ?_
      refine tq_then ?_
      refine tc_rbn [0] [(2, I 0)] ?_
      refine tc_ret ?_
      refine tq_ret [0] [I 0] (bp_ret (Mem.le_refl _) (congrArg I (?_ : (treeCheck l) = 0).symm))
      unfold treeCheck; first | (rw [if_pos (by omega)]; done) | (rw [if_neg (by omega), hn]; first | exact treeCk_a hx1 (by assumption) | exact treeCk_b hx1 (by assumption) (by omega) (by assumption) (by omega) | (rw [List.drop_eq_nil_of_le (by omega)]; rfl))

theorem entOrd_con (G : Mem) (vs_x : List Value) (x : EntD) (h_x : EEnt.R G vs_x x) (name : List UInt8) (hw_name : (name).length ≤ 140737488351232)  : ConV 88 #[.agg vs_x.toArray, Sr name] G (I (entOrd x name)) := by
  obtain ⟨rfl, w1, w2⟩ := h_x
  refine con_of Tryz.func88 9 [(0, .agg #[Sr x.name, Sr x.value]), (1, Sr name)] rfl (fun w0 G0 => ?_)
  refine tc_seq ?_
  refine tc_region ?_
  refine runL_box 2 #[Sr x.name, Sr x.value] 106 (fun b1 => ?_)
  refine runL_bn [0] [] ?_
  refine runL_nil ?_
  refine tq_then ?_
  refine tc_seq ?_
  refine tc_region ?_
  refine runL_bn [0,2,0] [(6, Sr x.name), (7, Sr name)] ?_
  refine runL_callV 8 (I (ordN x.name name)) (ordN_con G x.name w1 name hw_name) ?_
  refine runL_bn [0] [(4, I (ordN x.name name))] ?_
  refine runL_nil ?_
  refine tq_then ?_
  refine tc_ret ?_
  refine tq_ret [0] [I (ordN x.name name)] (bp_ret (Mem.le_refl _) (congrArg I (?_ : (entOrd x name) = (ordN x.name name)).symm))
  rfl

theorem bsF_con (G : Mem) (a_l : Option Addr) (c_l : Nat) (l : List EntD) (h_l : RS EEnt G a_l c_l l) (target : List UInt8) (hw_target : (target).length ≤ 140737488351232) (k_cmp : FuncId) (caps_cmp : Array Value) (p_cmp : EntD → (List UInt8) → Int) (hk_cmp : isFn Tryz.prog k_cmp) (h_cmp : ∀ (vs0 : List Value) (x0 : EntD) (hx0 : EEnt.R G vs0 x0) (x1 : List UInt8) (hx1 : (x1).length ≤ 140737488351232), Con Tryz.prog k_cmp (#[.agg vs0.toArray, Sr x1] ++ caps_cmp) G [] (fun u _ _ => u = I (p_cmp x0 x1)))  : ConV 87 #[Sl a_l l.length c_l, Sr target, Fv k_cmp caps_cmp] G (.tuple #[I ((bsF l target p_cmp).1), Bo ((bsF l target p_cmp).2)]) := by
  refine con_of Tryz.func87 49 [(0, Sl a_l l.length c_l), (1, Sr target), (2, Fv k_cmp caps_cmp)] rfl (fun w0 G0 => ?_)
  refine tc_rbn [0,0] [] ?_
  refine tc_rbn [0,0,0] [(8, I (((l.length : Nat) : Int)))] ?_
  refine tc_rbn [0,0,0] [(9, I 0), (10, I (((l.length : Nat) : Int)))] ?_
  refine tc_seq ?_
  refine tc_block ?_
  have hlm_h_l : l.length ≤ 9223372036854775807 := Nat.le_trans (h_l).le (h_l).max
  refine tc_loop (σ := Nat × Nat) (fun q_ => (q_.1 ≤ q_.2 ∧ q_.2 ≤ l.length) ∧ (bsI (fun x => p_cmp x target) l = bsGo (fun x => p_cmp x target) l l.length q_.1 q_.2)) (fun q_ => [(0, Sl a_l l.length c_l), (1, Sr target), (2, Fv k_cmp caps_cmp), (8, I (((l.length : Nat) : Int))), (9, I ((q_.1 : Int))), (10, I ((q_.2 : Int)))]) (fun q_ => G) (fun q_ => []) (fun q_ => q_.2 - q_.1) ((0, l.length)) ⟨⟨Nat.zero_le _, Nat.le_refl _⟩, rfl⟩ (fun q_ hs => ?_)
  obtain ⟨i, j⟩ := q_
  obtain ⟨hj, hn⟩ := hs
  dsimp only at hj hn
  refine tc_eq (fr' := [(0, Sl a_l l.length c_l), (1, Sr target), (2, Fv k_cmp caps_cmp), (8, I (((l.length : Nat) : Int))), (9, I ((i : Int))), (10, I ((j : Int)))]) (L' := []) rfl rfl ?_
  refine tc_seq ?_
  refine tc_rbn [0,0,0] [(17, Bo (decide ((i : Int) < (j : Int))))] ?_
  refine tc_condP (decide ((i : Int) < (j : Int))) (fun h1 => ?_) (fun h1 => ?_)
  ·
    refine tc_skip ?_
    refine tq_then ?_
    refine tc_block ?_
    refine tc_rbn [0,0,0,0,0,0,0] [(11, I (IntKind.i64.wrap ((IntKind.u64.wrap (IntKind.i64.wrap (((i : Int)) + ((j : Int))))).fdiv (2 ^ 1))))] ?_
    have e1 : IntKind.i64.wrap (((i : Int)) + ((j : Int))) = ((i : Int)) + ((j : Int)) := IntWalk.i64_in _ (by first | omega | (have hle_ := h_l.le; have hmx_ := h_l.max; omega) | (have hf_ := h_l.fit; simp only [EEnt] at hf_; omega))
    have e2 : IntKind.u64.wrap (((i : Int)) + ((j : Int))) = ((i : Int)) + ((j : Int)) := IntWalk.u64_in _ (by first | omega | (have hle_ := h_l.le; have hmx_ := h_l.max; omega) | (have hf_ := h_l.fit; simp only [EEnt] at hf_; omega))
    have e3 : (((i : Int)) + ((j : Int))).fdiv (2 ^ 1) = (((i + j) / 2 : Nat) : Int) := by rw [Int.fdiv_eq_ediv_of_nonneg _ (by decide)]; omega
    have e4 : IntKind.i64.wrap ((((i + j) / 2 : Nat) : Int)) = (((i + j) / 2 : Nat) : Int) := IntWalk.i64_in _ (by first | omega | (have hle_ := h_l.le; have hmx_ := h_l.max; omega) | (have hf_ := h_l.fit; simp only [EEnt] at hf_; omega))
    refine tc_put 11 (I ((((i + j) / 2 : Nat) : Int))) ((show (I (IntKind.i64.wrap ((IntKind.u64.wrap (IntKind.i64.wrap (((i : Int)) + ((j : Int))))).fdiv (2 ^ 1))) : Value) = I ((((i + j) / 2 : Nat) : Int)) by simp only [e1, e2, e3, e4])) ?_
    clear e4 e3 e2 e1
    refine tc_seq ?_
    refine tc_region ?_
    refine runL_bn [0,0,0] [(24, Fv k_cmp caps_cmp), (25, Sl a_l l.length c_l), (26, I ((((i + j) / 2 : Nat) : Int)))] ?_
    obtain ⟨b1, o1, rfl⟩ := RS.addr h_l (k := (i + j) / 2) (by first | omega | (have hle_ := h_l.le; have hmx_ := h_l.max; omega) | (have hf_ := h_l.fit; simp only [EEnt] at hf_; omega))
    obtain ⟨x1, hx1⟩ := getX (l := l) (k := (i + j) / 2) (by first | omega | (have hle_ := h_l.le; have hmx_ := h_l.max; omega) | (have hf_ := h_l.fit; simp only [EEnt] at hf_; omega))
    obtain ⟨_, ⟨rfl, w1, w2⟩, hc1⟩ := RS.get h_l hx1
    refine runL_idx (b := b1) (off := o1) (len := l.length) (cap := c_l) (ik := .i64) 27 106 2 ((i + j) / 2) (by first | omega | (have hle_ := h_l.le; have hmx_ := h_l.max; omega) | (have hf_ := h_l.fit; simp only [EEnt] at hf_; omega)) ?_
    refine runL_ldG 28 106 (cs := [Sr x1.name, Sr x1.value]) 0 (.agg #[Sr x1.name, Sr x1.value]) hc1 ?_
    refine runL_bn [0] [(29, Sr target)] ?_
    refine runL_callF (k := k_cmp) (caps := caps_cmp) (args := #[.agg #[Sr x1.name, Sr x1.value], Sr target]) 30 (I (p_cmp x1 target)) hk_cmp (h_cmp [Sr x1.name, Sr x1.value] x1 (⟨rfl, w1, w2⟩) target (by first | assumption | omega | (simp; done) | (simp; omega))) ?_
    refine runL_bn [0] [(31, Bo (decide (p_cmp x1 target < 0)))] ?_
    refine runL_nil ?_
    refine tq_then ?_
    refine tc_condP (decide (p_cmp x1 target < 0)) (fun h2 => ?_) (fun h2 => ?_)
    ·
      refine tc_region ?_
      refine runL_bn [0,0,0] [(9, I (IntKind.i64.wrap (((((i + j) / 2 : Nat) : Int)) + 1)))] ?_
      refine runL_wi64 9 (((((i + j) / 2 : Nat) : Int)) + 1) (by first | omega | (have hle_ := h_l.le; have hmx_ := h_l.max; omega) | (have hf_ := h_l.fit; simp only [EEnt] at hf_; omega)) ?_
      refine runL_nil ?_
      refine tq_block ?_
      exact tq_rnd (((i + j) / 2 + 1, j)) ⟨(by (try dsimp only); omega), (by (try dsimp only); rw [hn]; first | exact bs_lt (by omega) hj.2 hx1 (by assumption) | exact bs_ge (by omega) hj.2 hx1 (by omega))⟩ (by (try dsimp only); omega)
    ·
      refine tc_region ?_
      refine runL_bn [0,0] [(10, I ((((i + j) / 2 : Nat) : Int)))] ?_
      refine runL_nil ?_
      refine tq_block ?_
      exact tq_rnd ((i, (i + j) / 2)) ⟨(by (try dsimp only); omega), (by (try dsimp only); rw [hn]; first | exact bs_lt (by omega) hj.2 hx1 (by assumption) | exact bs_ge (by omega) hj.2 hx1 (by omega))⟩ (by (try dsimp only); omega)
  ·
    refine tc_exit ?_
    refine tq_then_exit ?_
    refine tq_rnd_exit ?_
    refine tq_block_here ?_
    refine tq_then ?_
    refine tc_seq ?_
    refine tc_region ?_
    refine runL_bn [0,0,0,0,0] [(35, I ((i : Int))), (39, Bo (decide ((i : Int) < ((l.length : Nat) : Int))))] ?_
    refine runL_casesT [39] (decide ((i : Int) < ((l.length : Nat) : Int))) (fun h3 => ?_) (fun h3 => ?_)
    ·
      refine runL_bn [0,0,0] [(40, Fv k_cmp caps_cmp), (41, Sl a_l l.length c_l), (42, I ((i : Int)))] ?_
      obtain ⟨b2, o2, rfl⟩ := RS.addr h_l (k := i) (by first | omega | (have hle_ := h_l.le; have hmx_ := h_l.max; omega) | (have hf_ := h_l.fit; simp only [EEnt] at hf_; omega))
      obtain ⟨x2, hx2⟩ := getX (l := l) (k := i) (by first | omega | (have hle_ := h_l.le; have hmx_ := h_l.max; omega) | (have hf_ := h_l.fit; simp only [EEnt] at hf_; omega))
      obtain ⟨_, ⟨rfl, w3, w4⟩, hc2⟩ := RS.get h_l hx2
      refine runL_idx (b := b2) (off := o2) (len := l.length) (cap := c_l) (ik := .i64) 43 106 2 i (by first | omega | (have hle_ := h_l.le; have hmx_ := h_l.max; omega) | (have hf_ := h_l.fit; simp only [EEnt] at hf_; omega)) ?_
      refine runL_ldG 44 106 (cs := [Sr x2.name, Sr x2.value]) 0 (.agg #[Sr x2.name, Sr x2.value]) hc2 ?_
      refine runL_bn [0] [(45, Sr target)] ?_
      refine runL_callF (k := k_cmp) (caps := caps_cmp) (args := #[.agg #[Sr x2.name, Sr x2.value], Sr target]) 46 (I (p_cmp x2 target)) hk_cmp (h_cmp [Sr x2.name, Sr x2.value] x2 (⟨rfl, w3, w4⟩) target hw_target) ?_
      refine runL_bn [0,0,0,0] [(6, I ((i : Int))), (7, Bo (decide (p_cmp x2 target = 0)))] ?_
      refine runL_nil ?_
      refine tq_then ?_
      refine tc_ret ?_
      refine tq_ret [0, 0] [I ((i : Int)), Bo (decide (p_cmp x2 target = 0))] (bp_ret (Mem.le_refl _) ?_)
      have hf_ : (bsF l target p_cmp) = (((i : Int)), (decide (p_cmp x2 target = 0))) := by
        unfold bsF; rw [hn, bs_end (by omega)]; first | (have e_ := hx1; simp_all; done) | (rw [List.getElem?_eq_none (by omega)]; simp_all; done) | (simp_all; done)
      (try rw [hf_]); first | with_reducible rfl | (simp only [packR]; done) | rfl
    ·
      refine runL_bn [1,1,1,1,1,1,1,1,0,0,0] [(6, I ((i : Int))), (7, Bo false)] ?_
      refine runL_nil ?_
      refine tq_then ?_
      refine tc_ret ?_
      refine tq_ret [0, 0] [I ((i : Int)), Bo false] (bp_ret (Mem.le_refl _) ?_)
      have hf_ : (bsF l target p_cmp) = (((i : Int)), false) := by
        unfold bsF; rw [hn, bs_end (by omega)]; first | (have e_ := hx1; simp_all; done) | (rw [List.getElem?_eq_none (by omega)]; simp_all; done) | (simp_all; done)
      (try rw [hf_]); first | with_reducible rfl | (simp only [packR]; done) | rfl

theorem treeFind_con (G : Mem) (a_l : Option Addr) (c_l : Nat) (l : List EntD) (h_l : RS EEnt G a_l c_l l) (name : List UInt8) (hw_name : (name).length ≤ 140737488351232)  : ConV 72 #[Sl a_l l.length c_l, Sr name] G (.tuple #[I ((treeFind l name).1), Bo ((treeFind l name).2.1), I ((treeFind l name).2.2)]) := by
  refine con_of Tryz.func72 26 [(0, Sl a_l l.length c_l), (1, Sr name)] rfl (fun w0 G0 => ?_)
  refine tc_rbn [0,0,0] [] ?_
  refine tc_seq ?_
  refine tc_seq ?_
  refine tc_region ?_
  refine runL_bn [0] [(10, Sl a_l l.length c_l)] ?_
  refine runL_callV 11 (I (treeCheck l)) (treeCheck_con G a_l c_l l h_l) ?_
  refine runL_bn [0] [(7, I (treeCheck l))] ?_
  refine runL_nil ?_
  refine tq_then ?_
  refine tc_rbn [0,0] [(13, Bo (!decide (treeCheck l = 0)))] ?_
  refine tc_condP (!decide (treeCheck l = 0)) (fun h1 => ?_) (fun h1 => ?_)
  ·
    refine tc_rbn [0,0,0,0] [(4, I 0), (5, Bo false), (6, I (treeCheck l))] ?_
    refine tc_ret ?_
    refine tq_then_ret ?_
    refine tq_ret [0, 0, 0] [I 0, Bo false, I (treeCheck l)] (bp_ret (Mem.le_refl _) ?_)
    have hf_ : (treeFind l name) = (0, false, (treeCheck l)) := by
      unfold treeFind; simp_all
    (try rw [hf_]); first | with_reducible rfl | (simp only [packR]; done) | rfl
  ·
    refine tc_skip ?_
    refine tq_then ?_
    refine tc_seq ?_
    refine tc_seq ?_
    refine tc_region ?_
    refine runL_bn [0] [(15, Sr name)] ?_
    refine runL_callV 16 (Bo (pathName name)) (pathName_con G name) ?_
    refine runL_bn [0] [(17, Bo (!(pathName name)))] ?_
    refine runL_nil ?_
    refine tq_then ?_
    refine tc_condP (!(pathName name)) (fun h2 => ?_) (fun h2 => ?_)
    ·
      refine tc_rbn [0,0,0] [(4, I 0), (5, Bo false), (6, I 3)] ?_
      refine tc_ret ?_
      refine tq_then_ret ?_
      refine tq_ret [0, 0, 0] [I 0, Bo false, I 3] (bp_ret (Mem.le_refl _) ?_)
      have hf_ : (treeFind l name) = (0, false, 3) := by
        unfold treeFind; simp_all
      (try rw [hf_]); first | with_reducible rfl | (simp only [packR]; done) | rfl
    ·
      refine tc_skip ?_
      refine tq_then ?_
      refine tc_seq ?_
      refine tc_region ?_
      refine runL_bn [0,0] [(19, Sl a_l l.length c_l), (20, Sr name)] ?_
      refine runL_callV 21 (.tuple #[I ((bsF l name ((fun x0 x1 => entOrd x0 x1))).1), Bo ((bsF l name ((fun x0 x1 => entOrd x0 x1))).2)]) (bsF_con G a_l c_l l h_l name hw_name 88 #[] ((fun x0 x1 => entOrd x0 x1)) ((fun _ => ⟨fun _ => by kernel_rfl, by kernel_rfl⟩)) ((fun vs0 x0 hx0 x1 hx1 => by obtain ⟨rfl, w1, w2⟩ := hx0; exact entOrd_con G [Sr x0.name, Sr x0.value] x0 (⟨rfl, w1, w2⟩) x1 hx1))) ?_
      refine runL_bn [0,0,0,0,0] [(8, I ((bsF l name ((fun x0 x1 => entOrd x0 x1))).1)), (9, Bo ((bsF l name ((fun x0 x1 => entOrd x0 x1))).2))] ?_
      refine runL_nil ?_
      refine tq_then ?_
      refine tc_rbn [0,0,0,0,0] [(4, I ((bsF l name ((fun x0 x1 => entOrd x0 x1))).1)), (5, Bo ((bsF l name ((fun x0 x1 => entOrd x0 x1))).2)), (6, I 0)] ?_
      refine tc_ret ?_
      refine tq_ret [0, 0, 0] [I ((bsF l name ((fun x0 x1 => entOrd x0 x1))).1), Bo ((bsF l name ((fun x0 x1 => entOrd x0 x1))).2), I 0] (bp_ret (Mem.le_refl _) ?_)
      have hf_ : (treeFind l name) = (((bsF l name ((fun x0 x1 => entOrd x0 x1))).1), ((bsF l name ((fun x0 x1 => entOrd x0 x1))).2), 0) := by
        unfold treeFind; simp_all
      (try rw [hf_]); first | with_reducible rfl | (simp only [packR]; done) | rfl

theorem treeGet_con (G : Mem) (a_l : Option Addr) (c_l : Nat) (l : List EntD) (h_l : RS EEnt G a_l c_l l) (name : List UInt8) (hw_name : (name).length ≤ 140737488351232)  : ConP 48 #[Sl a_l l.length c_l, Sr name] G [] (fun u G' L' => u = .tuple #[Sr ((treeGet l name).1), Bo ((treeGet l name).2.1), I ((treeGet l name).2.2)] ∧ (((treeGet l name).1).length ≤ 140737488351232) ∧ L' = []) := by
  refine con_of Tryz.func48 26 [(0, Sl a_l l.length c_l), (1, Sr name)] rfl (fun w0 G0 => ?_)
  refine tc_rbn [0,0,0] [] ?_
  refine tc_seq ?_
  refine tc_region ?_
  refine runL_bn [0,0] [(11, Sl a_l l.length c_l), (12, Sr name)] ?_
  refine runL_callV 13 (.tuple #[I ((treeFind l name).1), Bo ((treeFind l name).2.1), I ((treeFind l name).2.2)]) (treeFind_con G a_l c_l l h_l name hw_name) ?_
  refine runL_bn [0,0,0,0,0,0,0] [(7, I ((treeFind l name).1)), (8, Bo ((treeFind l name).2.1)), (9, I ((treeFind l name).2.2))] ?_
  refine runL_nil ?_
  refine tq_then ?_
  refine tc_seq ?_
  refine tc_rbn [0,0] [(18, Bo (!((treeFind l name).2.1)))] ?_
  refine tc_condP (!((treeFind l name).2.1)) (fun h1 => ?_) (fun h1 => ?_)
  ·
    refine tc_rbn [0,0,0,0] [(4, Sr ([])), (5, Bo false), (6, I ((treeFind l name).2.2))] ?_
    refine tc_ret ?_
    refine tq_then_ret ?_
    have hf1 : treeGet l name = ([], false, (treeFind l name).2.2) := by
      unfold treeGet; first | (simp_all; done) | (rw [if_neg (by simp_all), hkn1, Int.toNat_natCast, hx1]; simp_all)
    refine tq_ret [0, 0, 0] [Sr ([]), Bo false, I ((treeFind l name).2.2)] (bp_rowsA [] (Mem.le_refl _) ?_)
    rw [hf1]
    try dsimp only
    exact ⟨rfl, (Nat.le_of_ble_eq_true rfl), rfl⟩
  ·
    refine tc_skip ?_
    refine tq_then ?_
    refine tc_seq ?_
    refine tc_region ?_
    refine runL_bn [0,0] [(20, Sl a_l l.length c_l), (21, I ((treeFind l name).1))] ?_
    obtain ⟨kn1, hkn1⟩ : ∃ k_ : Nat, (treeFind l name).1 = (k_ : Int) := ⟨((treeFind l name).1).toNat, by first | omega | (have q_ := treeFind_bd (l := l) (name := name) (by assumption); omega)⟩
    have e1 : (treeFind l name).1 = (kn1 : Int) := hkn1
    refine runL_put 21 (I ((kn1 : Int))) (congrArg I e1) ?_
    obtain ⟨b1, o1, rfl⟩ := RS.addr h_l (k := kn1) (by first | omega | (have q_ := treeFind_bd (l := l) (name := name) (by assumption); omega))
    obtain ⟨x1, hx1⟩ := getX (l := l) (k := kn1) (by first | omega | (have q_ := treeFind_bd (l := l) (name := name) (by assumption); omega))
    obtain ⟨_, ⟨rfl, w1, w2⟩, hc1⟩ := RS.get h_l hx1
    refine runL_idx (b := b1) (off := o1) (len := l.length) (cap := c_l) (ik := .i64) 22 106 2 kn1 (by first | omega | (have q_ := treeFind_bd (l := l) (name := name) (by assumption); omega)) ?_
    refine runL_bn [0] [(23, Pt b1 (o1 + kn1 * 2 + 1))] ?_
    refine runL_ldG 24 9 (cs := [Sr x1.name, Sr x1.value]) 1 (Sr x1.value) hc1 ?_
    refine runL_bn [0,0,0,0] [(4, Sr x1.value), (5, Bo true), (6, I ((treeFind l name).2.2))] ?_
    refine runL_nil ?_
    refine tq_then ?_
    refine tc_ret ?_
    have hf2 : treeGet l name = (x1.value, true, (treeFind l name).2.2) := by
      unfold treeGet; first | (simp_all; done) | (rw [if_neg (by simp_all), hkn1, Int.toNat_natCast, hx1]; simp_all)
    refine tq_ret [0, 0, 0] [Sr x1.value, Bo true, I ((treeFind l name).2.2)] (bp_rowsA [] (Mem.le_refl _) ?_)
    rw [hf2]
    try dsimp only
    exact ⟨rfl, w2, rfl⟩
end Go.Proofs.YtngoijkcbmchdaaGreatDoor
