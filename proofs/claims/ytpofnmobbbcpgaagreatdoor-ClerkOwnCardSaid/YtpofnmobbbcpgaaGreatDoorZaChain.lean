import Derived.Test.YtpofnmobbbcpgaaGreatDoorZaHeadN
namespace Go.Proofs.YtpofnmobbbcpgaaGreatDoor
open Go.Tx
set_option linter.unusedVariables false
set_option linter.unusedSimpArgs false
def linkB (x y : HeadD) : Bool := decide (headNext x y.root y.at_ = (y, 0))
theorem linkB_iff {x y : HeadD} : linkB x y = true ↔ (headNext x y.root y.at_).2 = 0 ∧ (headNext x y.root y.at_).1.epoch = y.epoch ∧ (headNext x y.root y.at_).1.root = y.root ∧ (headNext x y.root y.at_).1.prev = y.prev ∧ (headNext x y.root y.at_).1.at_ = y.at_ := by
  unfold linkB
  rw [decide_eq_true_eq]
  constructor
  · intro h; rw [h]; simp
  · rintro ⟨h1, h2⟩
    exact Prod.ext (HeadD_ne.2 h2) h1
def lnk : List HeadD → Nat → Int
  | x :: y :: r, i => if linkB x y then lnk (y :: r) (i + 1) else (i : Int)
  | _, _ => -1
def linkedI (l : List HeadD) : Int := lnk l 1
theorem lnk_end {l : List HeadD} {i : Nat} (h : l.length ≤ 1) : lnk l i = -1 := by
  match l, h with
  | [], _ => rfl
  | [_], _ => rfl
theorem lnk_step {l : List HeadD} {i : Nat} {x y : HeadD} (hi : 1 ≤ i) (hx : l[i - 1]? = some x) (hy : l[i]? = some y) (h : linkB x y = true) : lnk (l.drop (i - 1)) i = lnk (l.drop (i + 1 - 1)) (i + 1) := by
  obtain ⟨h1, rfl⟩ := List.getElem?_eq_some_iff.1 hx
  obtain ⟨h2, rfl⟩ := List.getElem?_eq_some_iff.1 hy
  rw [List.drop_eq_getElem_cons h1, show i - 1 + 1 = i by omega, show i + 1 - 1 = i by omega, List.drop_eq_getElem_cons h2]
  show (if linkB _ _ = true then _ else _) = _
  rw [if_pos h]
theorem lnk_at {l : List HeadD} {i : Nat} {x y : HeadD} (hi : 1 ≤ i) (hx : l[i - 1]? = some x) (hy : l[i]? = some y) (h : ¬ linkB x y = true) : lnk (l.drop (i - 1)) i = (i : Int) := by
  obtain ⟨h1, rfl⟩ := List.getElem?_eq_some_iff.1 hx
  obtain ⟨h2, rfl⟩ := List.getElem?_eq_some_iff.1 hy
  rw [List.drop_eq_getElem_cons h1, show i - 1 + 1 = i by omega, List.drop_eq_getElem_cons h2]
  show (if linkB _ _ = true then _ else _) = _
  rw [if_neg h]
theorem lnk_iff : ∀ (l : List HeadD) (i : Nat), lnk l i < 0 ↔ ∀ (k : Nat) x y, l[k]? = some x → l[k + 1]? = some y → linkB x y = true
  | [], i => by simp [lnk]
  | [a], i => by simp [lnk]
  | a :: b :: r, i => by
    have ih := lnk_iff (b :: r) (i + 1)
    unfold lnk
    split
    · rename_i h
      rw [ih]
      constructor
      · intro hh k x y hx hy
        cases k with
        | zero => simp at hx hy; subst hx hy; exact h
        | succ k => exact hh k x y hx hy
      · intro hh k x y hx hy
        exact hh (k + 1) x y hx hy
    · rename_i h
      constructor
      · intro hh; omega
      · intro hh; exact absurd (hh 0 a b rfl rfl) h
def headsE : List HeadD → Nat → Int × Int
  | [], _ => (0, 0)
  | h :: l, i => if headCheck h = 0 then headsE l (i + 1) else (headCheck h, (i : Int))
theorem headsE_step {l : List HeadD} {i : Nat} {x : HeadD} (hx : l[i]? = some x) (h : headCheck x = 0) : headsE (l.drop i) i = headsE (l.drop (i + 1)) (i + 1) := by
  obtain ⟨h1, rfl⟩ := List.getElem?_eq_some_iff.1 hx
  rw [List.drop_eq_getElem_cons h1]
  show (if headCheck _ = 0 then _ else _) = _
  rw [if_pos h]
theorem headsE_at {l : List HeadD} {i : Nat} {x : HeadD} (hx : l[i]? = some x) (h : ¬ headCheck x = 0) : headsE (l.drop i) i = (headCheck x, (i : Int)) := by
  obtain ⟨h1, rfl⟩ := List.getElem?_eq_some_iff.1 hx
  rw [List.drop_eq_getElem_cons h1]
  show (if headCheck _ = 0 then _ else _) = _
  rw [if_neg h]
theorem headsE_iff : ∀ (l : List HeadD) (i : Nat), (headsE l i).1 = 0 ↔ ∀ h ∈ l, headCheck h = 0
  | [], i => by simp [headsE]
  | h :: l, i => by
    have ih := headsE_iff l (i + 1)
    unfold headsE
    split
    · rename_i e; rw [ih]; simp [e]
    · rename_i e; simp [e]
def chainCheck (l : List HeadD) : Int × Int := if l.length = 0 then (5, 0) else if 40 < l.length then (2, 0) else if (headsE l 0).1 ≠ 0 then headsE l 0 else if 0 ≤ linkedI l then (8, linkedI l) else (0, 0)
structure ChainOk (l : List HeadD) : Prop where
  len1 : 1 ≤ l.length
  len : l.length ≤ 40
  ok : ∀ h ∈ l, headCheck h = 0
  lnk : ∀ (k : Nat) x y, l[k]? = some x → l[k + 1]? = some y → linkB x y = true
theorem chainCheck_iff {l : List HeadD} : (chainCheck l).1 = 0 ↔ ChainOk l := by
  unfold chainCheck
  have e1 := headsE_iff l 0
  have e2 := lnk_iff l 1
  constructor
  · intro h
    split at h
    · cases h
    split at h
    · cases h
    split at h
    · contradiction
    split at h
    · cases h
    · rename_i h1 h2 h3 h4
      exact ⟨by omega, by omega, e1.1 (Decidable.not_not.1 h3), e2.1 (by unfold linkedI at h4; omega)⟩
  · rintro ⟨h1, h2, h3, h4⟩
    rw [if_neg (by omega), if_neg (by omega), if_neg (by have := e1.2 h3; omega), if_neg (by have := e2.2 h4; unfold linkedI; omega)]
def checkAll : List (List HeadD) → Int
  | [] => 0
  | l :: r => if (chainCheck l).1 = 0 then checkAll r else (chainCheck l).1
theorem checkAll_step {l : List (List HeadD)} {i : Nat} {x : List HeadD} (hx : l[i]? = some x) (h : (chainCheck x).1 = 0) : checkAll (l.drop i) = checkAll (l.drop (i + 1)) := by
  obtain ⟨h1, rfl⟩ := List.getElem?_eq_some_iff.1 hx
  rw [List.drop_eq_getElem_cons h1]
  show (if (chainCheck _).1 = 0 then _ else _) = _
  rw [if_pos h]
theorem checkAll_at {l : List (List HeadD)} {i : Nat} {x : List HeadD} (hx : l[i]? = some x) (h : ¬ (chainCheck x).1 = 0) : checkAll (l.drop i) = (chainCheck x).1 := by
  obtain ⟨h1, rfl⟩ := List.getElem?_eq_some_iff.1 hx
  rw [List.drop_eq_getElem_cons h1]
  show (if (chainCheck _).1 = 0 then _ else _) = _
  rw [if_neg h]
theorem checkAll_iff : ∀ (l : List (List HeadD)), checkAll l = 0 ↔ ∀ x ∈ l, ChainOk x
  | [] => by simp [checkAll]
  | a :: l => by
    have ih := checkAll_iff l
    unfold checkAll
    split
    · rename_i e; rw [ih]; simp [chainCheck_iff.1 e]
    · rename_i e; constructor
      · intro h; exact absurd h e
      · intro h; exact absurd (chainCheck_iff.2 (h a (by simp))) e
theorem check1_iff {l : List HeadD} : checkAll [l] = 0 ↔ ChainOk l := by rw [checkAll_iff]; simp
def lastH (l : List HeadD) : HeadD := l[l.length - 1]?.getD headZ
def firstH (l : List HeadD) : HeadD := l[0]?.getD headZ
theorem lastH_get {l : List HeadD} {k : Nat} {x : HeadD} (hk : k = l.length - 1) (h : l[k]? = some x) : x = lastH l := by unfold lastH; rw [← hk, h]; rfl
theorem firstH_get {l : List HeadD} {x : HeadD} (h : l[0]? = some x) : x = firstH l := by unfold firstH; rw [h]; rfl
def chainGrowE (l : List HeadD) (root at_ : Int) : Int := if checkAll [l] ≠ 0 then checkAll [l] else if (l.length : Int) = 40 then 7 else (headNext (lastH l) root at_).2
def chainGrow (l : List HeadD) (root at_ : Int) : List HeadD × Int := if chainGrowE l root at_ ≠ 0 then ([], chainGrowE l root at_) else (l ++ [(headNext (lastH l) root at_).1], 0)
theorem ChainOk.first {l : List HeadD} (h : ChainOk l) : l[0]? = some (firstH l) := by
  have := h.len1
  have e : l[0]? = some (l[0]'(by omega)) := List.getElem?_eq_getElem (by omega)
  rw [e]; unfold firstH; rw [e]; rfl
theorem ChainOk.last {l : List HeadD} (h : ChainOk l) : l[l.length - 1]? = some (lastH l) := by
  have := h.len1
  have e : l[l.length - 1]? = some (l[l.length - 1]'(by omega)) := List.getElem?_eq_getElem (by omega)
  rw [e]; unfold lastH; rw [e]; rfl
theorem linkB_epoch {x y : HeadD} (h : linkB x y = true) : y.epoch = x.epoch + 1 := by
  unfold linkB at h
  rw [decide_eq_true_eq] at h
  have h0 : (headNext x y.root y.at_).2 = 0 := by rw [h]
  have := (headNext_ok h0).2.2.2.1
  rw [h] at this
  have := congrArg (fun p => p.1.epoch) this
  simpa using this
theorem ChainOk.epoch {l : List HeadD} (h : ChainOk l) : ∀ (k : Nat) x, l[k]? = some x → x.epoch = (firstH l).epoch + k
  | 0, x, hx => by rw [h.first] at hx; rw [← Option.some.inj hx]; simp
  | k + 1, x, hx => by
    have hk := (List.getElem?_eq_some_iff.1 hx).1
    have e : l[k]? = some (l[k]'(by omega)) := List.getElem?_eq_getElem (by omega)
    have := h.epoch k _ e
    have := linkB_epoch (h.lnk k _ _ e hx)
    omega
theorem ChainOk.lastE {l : List HeadD} (h : ChainOk l) : (lastH l).epoch = (firstH l).epoch + l.length - 1 := by
  have := h.epoch _ _ h.last
  have := h.len1
  omega
theorem ChainOk.fb {l : List HeadD} (h : ChainOk l) : 0 ≤ (firstH l).epoch ∧ (firstH l).epoch ≤ 1000000 := by
  have := headCheck_ok (h.ok _ (List.mem_of_getElem? h.first)); omega
theorem ChainOk.lb {l : List HeadD} (h : ChainOk l) : 0 ≤ (lastH l).epoch ∧ (lastH l).epoch ≤ 1000000 := by
  have := headCheck_ok (h.ok _ (List.mem_of_getElem? h.last)); omega
theorem chainGrow_ok {l : List HeadD} {r t : Int} (h : (chainGrow l r t).2 = 0) : ChainOk l ∧ l.length < 40 ∧ (headNext (lastH l) r t).2 = 0 ∧ chainGrow l r t = (l ++ [(headNext (lastH l) r t).1], 0) := by
  unfold chainGrow at h ⊢
  split at h
  · contradiction
  · rename_i h1
    rw [if_neg h1]
    unfold chainGrowE at h1
    by_cases e1 : checkAll [l] = 0
    · rw [if_neg (by omega)] at h1
      have hc := check1_iff.1 e1
      by_cases e2 : (l.length : Int) = 40
      · rw [if_pos e2] at h1; omega
      · rw [if_neg e2] at h1
        exact ⟨hc, by have := hc.len; omega, Decidable.not_not.1 h1, rfl⟩
    · rw [if_pos e1] at h1; omega
theorem chainGrow_err {l : List HeadD} {r t : Int} (h : ¬ (chainGrow l r t).2 = 0) : (chainGrow l r t).1 = [] := by
  revert h; unfold chainGrow; split <;> simp
theorem ChainOk.snoc {l : List HeadD} (h : ChainOk l) (hl : l.length < 40) {n : HeadD} (hn : headCheck n = 0) (hk : linkB (lastH l) n = true) : ChainOk (l ++ [n]) := by
  refine ⟨by simp, by simp; omega, fun x hx => ?_, fun k x y hx hy => ?_⟩
  · rcases List.mem_append.1 hx with hx | hx
    · exact h.ok x hx
    · rw [List.mem_singleton.1 hx]; exact hn
  · by_cases e : k + 1 < l.length
    · rw [List.getElem?_append_left (by omega)] at hx hy
      exact h.lnk k x y hx hy
    · have hy1 := (List.getElem?_eq_some_iff.1 hy).1
      simp at hy1
      have e2 : k = l.length - 1 := by have := h.len1; omega
      have := h.len1
      rw [List.getElem?_append_left (by omega), e2, h.last] at hx
      rw [List.getElem?_append_right (by omega), show k + 1 - l.length = 0 by omega] at hy
      simp at hy
      rw [← Option.some.inj hx, ← hy]; exact hk
theorem linkB_next {x : HeadD} {r t : Int} (h : (headNext x r t).2 = 0) : linkB x (headNext x r t).1 = true ∧ headCheck (headNext x r t).1 = 0 := by
  obtain ⟨h1, h2, h3, h4, h5⟩ := headNext_ok h
  have e1 : (headNext x r t).1.root = r := by rw [h4]
  have e2 : (headNext x r t).1.at_ = t := by rw [h4]
  refine ⟨?_, by rw [h4]; exact h5⟩
  unfold linkB
  rw [decide_eq_true_eq, e1, e2]
  exact Prod.ext rfl h
theorem headNext_bd {x : HeadD} {r t : Int} (hr : 0 ≤ r) (h : (headNext x r t).2 = 0) : (0 ≤ (headNext x r t).1.epoch ∧ (headNext x r t).1.epoch ≤ 1000000) ∧ (0 ≤ (headNext x r t).1.root ∧ (headNext x r t).1.root < 2305843009213693951) ∧ (0 ≤ (headNext x r t).1.prev ∧ (headNext x r t).1.prev < 2305843009213693951) ∧ 0 ≤ (headNext x r t).1.at_ ∧ (headNext x r t).1.at_ ≤ 1000000000 := by
  obtain ⟨h1, h2, h3, h4, h5⟩ := headNext_ok h
  have := headCheck_ok h5
  have := markOf_bd (headText x)
  rw [h4]
  simp only at *
  omega
theorem linkedI_con (G : Mem) (a_l : Option Addr) (c_l : Nat) (l : List HeadD) (h_l : RS EHead G a_l c_l l)  : ConV 75 #[Sl a_l l.length c_l] G (I (linkedI l)) := by
 refine con_of Tryz.func75 42 [(0, Sl a_l l.length c_l)] rfl (fun w0 G0 => ?_)
 refine tc_rbn [0] [] (tc_seq ?_)
 refine tc_rbn [0] [(3, I 1)] (tc_block ?_)
 have hlm_h_l : l.length ≤ 9223372036854775807 := Nat.le_trans (h_l).le (h_l).max
 refine tc_loop (σ := Nat) (fun q_ => (1 ≤ q_ ∧ (q_ ≤ l.length ∨ q_ = 1)) ∧ (linkedI l = lnk (l.drop (q_ - 1)) q_)) (fun q_ => [(0, Sl a_l l.length c_l), (3, I (q_ : Int))]) (fun q_ => G) (fun q_ => []) (fun q_ => l.length - q_) 1 ⟨⟨Nat.le_refl _, .inr rfl⟩, rfl⟩ (fun q_ hs => ?_)
 revert hs; revert q_; intro i hs
 obtain ⟨hi, hn⟩ := hs
 refine tc_eq (fr' := [(0, Sl a_l l.length c_l), (3, I (i : Int))]) (L' := []) rfl rfl ?_
 refine tc_seq ?_
 refine tc_rbn [0,0,0,0] [(9, Bo (decide ((i : Int) < (l.length : Int))))] ?_
 refine tc_condP (decide ((i : Int) < (l.length : Int))) (fun h1 => ?_) (fun h1 => ?_)
 ·
  refine tc_skip (tq_then (tc_seq (tc_block (tc_seq ?_))))
  have e1 : IntKind.i64.wrap ((i : Int) - 1) = ((i - 1 : Nat) : Int) := (IntWalk.i64_in _ (by first | omega | (have hle_ := h_l.le; have hmx_ := h_l.max; omega))).trans (show (i : Int) - 1 = ((i - 1 : Nat) : Int) by omega)
  obtain ⟨b1, o1, rfl⟩ := RS.addr h_l (k := i - 1) (by first | omega | (have hle_ := h_l.le; have hmx_ := h_l.max; omega))
  obtain ⟨x1, hx1⟩ := getX (l := l) (k := i - 1) (by first | omega | (have hle_ := h_l.le; have hmx_ := h_l.max; omega))
  obtain ⟨_, ⟨rfl, w1, w2, w3, w4⟩, hc1⟩ := RS.get h_l hx1
  obtain ⟨x2, hx2⟩ := getX (l := l) (k := i) (by first | omega | (have hle_ := h_l.le; have hmx_ := h_l.max; omega))
  obtain ⟨_, ⟨rfl, w5, w6, w7, w8⟩, hc2⟩ := RS.get h_l hx2
  refine tc_draw [19, 20] ?_
  refine dr_V [(0, Sl (At b1 o1) l.length c_l), (1, I (i : Int)), (2, I ((i - 1 : Nat) : Int)), (3, Pt b1 (o1 + (i - 1) * 4)), (4, .agg #[I x1.epoch, U x1.root, U x1.prev, I x1.at_]), (5, Sl (At b1 o1) l.length c_l), (6, I (i : Int)), (7, Pt b1 (o1 + i * 4)), (8, Pt b1 (o1 + i * 4 + 1)), (9, U x2.root), (10, Sl (At b1 o1) l.length c_l), (11, I (i : Int)), (12, Pt b1 (o1 + i * 4)), (13, Pt b1 (o1 + i * 4 + 3)), (14, I x2.at_), (15, .tuple #[.agg #[I (((headNext x1 x2.root x2.at_).1).epoch), U (((headNext x1 x2.root x2.at_).1).root), U (((headNext x1 x2.root x2.at_).1).prev), I (((headNext x1 x2.root x2.at_).1).at_)], I ((headNext x1 x2.root x2.at_).2)]), (16, .tuple #[.agg #[I (((headNext x1 x2.root x2.at_).1).epoch), U (((headNext x1 x2.root x2.at_).1).root), U (((headNext x1 x2.root x2.at_).1).prev), I (((headNext x1 x2.root x2.at_).1).at_)], I ((headNext x1 x2.root x2.at_).2)]), (17, .agg #[I (((headNext x1 x2.root x2.at_).1).epoch), U (((headNext x1 x2.root x2.at_).1).root), U (((headNext x1 x2.root x2.at_).1).prev), I (((headNext x1 x2.root x2.at_).1).at_)]), (18, I ((headNext x1 x2.root x2.at_).2))] ?_
  refine dr_mid [] [(0,0), (1,0), (5,0), (6,0), (8,0), (10,0), (11,0), (13,0), (16,0), (17,0), (18,0)] [2, 3, 4, 7, 9, 12, 14, 15] [19] (fmc ?_ (fmc ?_ (fmc ?_ (fmc ?_ (fmc ?_ (fmc ?_ (fmc ?_ (fmc ?_ fm0)))))))) (fmc ?_ fm0)
  ·
   refine stab_of 2 15 (I ((i - 1 : Nat) : Int)) [(14, I (i : Int))] (fun X => ?_)
   exact runL_p1 15 (I (IntKind.i64.wrap ((i : Int) - 1))) (I ((i - 1 : Nat) : Int)) (by simp only [e1]) stab_end
  ·
   refine stab_of 3 16 (Pt b1 (o1 + (i - 1) * 4)) [(13, Sl (At b1 o1) l.length c_l), (15, I ((i - 1 : Nat) : Int))] (fun X => ?_)
   exact runL_idx (b := b1) (off := o1) (len := l.length) (cap := c_l) (ik := .i64) 16 24 4 (i - 1) (by first | omega | (have hle_ := h_l.le; have hmx_ := h_l.max; omega)) stab_end
  ·
   refine stab_of 4 17 (.agg #[I x1.epoch, U x1.root, U x1.prev, I x1.at_]) [(16, Pt b1 (o1 + (i - 1) * 4))] (fun X => ?_)
   exact runL_ldG 17 24 (cs := [I x1.epoch, U x1.root, U x1.prev, I x1.at_]) 0 (.agg #[I x1.epoch, U x1.root, U x1.prev, I x1.at_]) hc1 stab_end
  ·
   refine stab_of 7 20 (Pt b1 (o1 + i * 4)) [(18, Sl (At b1 o1) l.length c_l), (19, I (i : Int))] (fun X => ?_)
   exact runL_idx (b := b1) (off := o1) (len := l.length) (cap := c_l) (ik := .i64) 20 24 4 i (by first | omega | (have hle_ := h_l.le; have hmx_ := h_l.max; omega)) stab_end
  ·
   refine stab_of 9 22 (U x2.root) [(21, Pt b1 (o1 + i * 4 + 1))] (fun X => ?_)
   exact runL_ldG 22 22 (cs := [I x2.epoch, U x2.root, U x2.prev, I x2.at_]) 1 (U x2.root) hc2 stab_end
  ·
   refine stab_of 12 25 (Pt b1 (o1 + i * 4)) [(23, Sl (At b1 o1) l.length c_l), (24, I (i : Int))] (fun X => ?_)
   exact runL_idx (b := b1) (off := o1) (len := l.length) (cap := c_l) (ik := .i64) 25 24 4 i (by first | omega | (have hle_ := h_l.le; have hmx_ := h_l.max; omega)) stab_end
  ·
   refine stab_of 14 27 (I x2.at_) [(26, Pt b1 (o1 + i * 4 + 3))] (fun X => ?_)
   exact runL_ldG 27 2 (cs := [I x2.epoch, U x2.root, U x2.prev, I x2.at_]) 3 (I x2.at_) hc2 stab_end
  ·
   refine stab_of 15 28 (.tuple #[.agg #[I (((headNext x1 x2.root x2.at_).1).epoch), U (((headNext x1 x2.root x2.at_).1).root), U (((headNext x1 x2.root x2.at_).1).prev), I (((headNext x1 x2.root x2.at_).1).at_)], I ((headNext x1 x2.root x2.at_).2)]) [(17, .agg #[I x1.epoch, U x1.root, U x1.prev, I x1.at_]), (22, U x2.root), (27, I x2.at_)] (fun X => ?_)
   exact runL_callV 28 (.tuple #[.agg #[I (((headNext x1 x2.root x2.at_).1).epoch), U (((headNext x1 x2.root x2.at_).1).root), U (((headNext x1 x2.root x2.at_).1).prev), I (((headNext x1 x2.root x2.at_).1).at_)], I ((headNext x1 x2.root x2.at_).2)]) (headNext_con G [I x1.epoch, U x1.root, U x1.prev, I x1.at_] x1 (⟨rfl, w1, w2, w3, w4⟩) x2.root w6 x2.at_ w8) stab_end
  refine act_of 19 [] (fun X => ?_)
  refine runL_box 4 #[I 0, U 0, U 0, I 0] 24 (fun b2 => ?_)
  have e2 : IntKind.i64.wrap ((i : Int) - 1) = ((i - 1 : Nat) : Int) := (IntWalk.i64_in _ (by first | omega | (have hle_ := h_l.le; have hmx_ := h_l.max; omega))).trans (show (i : Int) - 1 = ((i - 1 : Nat) : Int) by omega)
  refine act_endN [(19, Pt b2 0)] ?_
  refine dr_mid [] [(0,0), (1,0), (5,0), (6,0), (8,0), (10,0), (11,0), (13,0), (16,0), (17,0), (18,0)] [2, 3, 4, 7, 9, 12, 14, 15] [20] (fmc ?_ (fmc ?_ (fmc ?_ (fmc ?_ (fmc ?_ (fmc ?_ (fmc ?_ (fmc ?_ fm0)))))))) (fmc ?_ fm0)
  ·
   refine stab_of 2 15 (I ((i - 1 : Nat) : Int)) [(14, I (i : Int))] (fun X => ?_)
   exact runL_p1 15 (I (IntKind.i64.wrap ((i : Int) - 1))) (I ((i - 1 : Nat) : Int)) (by simp only [e2]) stab_end
  ·
   refine stab_of 3 16 (Pt b1 (o1 + (i - 1) * 4)) [(13, Sl (At b1 o1) l.length c_l), (15, I ((i - 1 : Nat) : Int))] (fun X => ?_)
   exact runL_idx (b := b1) (off := o1) (len := l.length) (cap := c_l) (ik := .i64) 16 24 4 (i - 1) (by first | omega | (have hle_ := h_l.le; have hmx_ := h_l.max; omega)) stab_end
  ·
   refine stab_of 4 17 (.agg #[I x1.epoch, U x1.root, U x1.prev, I x1.at_]) [(16, Pt b1 (o1 + (i - 1) * 4))] (fun X => ?_)
   exact runL_ldG 17 24 (cs := [I x1.epoch, U x1.root, U x1.prev, I x1.at_]) 0 (.agg #[I x1.epoch, U x1.root, U x1.prev, I x1.at_]) hc1 stab_end
  ·
   refine stab_of 7 20 (Pt b1 (o1 + i * 4)) [(18, Sl (At b1 o1) l.length c_l), (19, I (i : Int))] (fun X => ?_)
   exact runL_idx (b := b1) (off := o1) (len := l.length) (cap := c_l) (ik := .i64) 20 24 4 i (by first | omega | (have hle_ := h_l.le; have hmx_ := h_l.max; omega)) stab_end
  ·
   refine stab_of 9 22 (U x2.root) [(21, Pt b1 (o1 + i * 4 + 1))] (fun X => ?_)
   exact runL_ldG 22 22 (cs := [I x2.epoch, U x2.root, U x2.prev, I x2.at_]) 1 (U x2.root) hc2 stab_end
  ·
   refine stab_of 12 25 (Pt b1 (o1 + i * 4)) [(23, Sl (At b1 o1) l.length c_l), (24, I (i : Int))] (fun X => ?_)
   exact runL_idx (b := b1) (off := o1) (len := l.length) (cap := c_l) (ik := .i64) 25 24 4 i (by first | omega | (have hle_ := h_l.le; have hmx_ := h_l.max; omega)) stab_end
  ·
   refine stab_of 14 27 (I x2.at_) [(26, Pt b1 (o1 + i * 4 + 3))] (fun X => ?_)
   exact runL_ldG 27 2 (cs := [I x2.epoch, U x2.root, U x2.prev, I x2.at_]) 3 (I x2.at_) hc2 stab_end
  ·
   refine stab_of 15 28 (.tuple #[.agg #[I (((headNext x1 x2.root x2.at_).1).epoch), U (((headNext x1 x2.root x2.at_).1).root), U (((headNext x1 x2.root x2.at_).1).prev), I (((headNext x1 x2.root x2.at_).1).at_)], I ((headNext x1 x2.root x2.at_).2)]) [(17, .agg #[I x1.epoch, U x1.root, U x1.prev, I x1.at_]), (22, U x2.root), (27, I x2.at_)] (fun X => ?_)
   exact runL_callV 28 (.tuple #[.agg #[I (((headNext x1 x2.root x2.at_).1).epoch), U (((headNext x1 x2.root x2.at_).1).root), U (((headNext x1 x2.root x2.at_).1).prev), I (((headNext x1 x2.root x2.at_).1).at_)], I ((headNext x1 x2.root x2.at_).2)]) (headNext_con G [I x1.epoch, U x1.root, U x1.prev, I x1.at_] x1 (⟨rfl, w1, w2, w3, w4⟩) x2.root w6 x2.at_ w8) stab_end
  refine act_of 20 [(4, Pt b2 0), (29, .agg #[I (((headNext x1 x2.root x2.at_).1).epoch), U (((headNext x1 x2.root x2.at_).1).root), U (((headNext x1 x2.root x2.at_).1).prev), I (((headNext x1 x2.root x2.at_).1).at_)])] (fun X => ?_)
  refine runL_st 0 [[Sg b2 0 [I (((headNext x1 x2.root x2.at_).1).epoch), U (((headNext x1 x2.root x2.at_).1).root), U (((headNext x1 x2.root x2.at_).1).prev), I (((headNext x1 x2.root x2.at_).1).at_)]]] ?_
  refine act_endN0 [(21, I ((headNext x1 x2.root x2.at_).2))] ?_
  refine dr_end [0, 1, 2, 3, 4, 5, 6, 7, 8, 9, 10, 11, 12, 13, 14, 15, 16, 17] [(18,0), (21,0)] [] [(0, Sl (At b1 o1) l.length c_l), (3, I (i : Int)), (4, Pt b2 0), (5, I ((headNext x1 x2.root x2.at_).2))] (List.forall_mem_nil _) ?_
  refine tq_then (tc_seq ?_)
  rcases Bool.eq_false_or_eq_true (!decide ((headNext x1 x2.root x2.at_).2 = 0)) with h2 | h2
  ·
   have h2d := h2
   try simp only [BB] at h2d
   refine tc_draw [] ?_
   refine dr_V [(0, I ((headNext x1 x2.root x2.at_).2)), (1, Bo true), (2, Bo true), (3, undef), (4, undef), (5, undef), (6, undef), (7, undef), (8, undef), (9, Bo true)] ?_
   refine dr_end [] [(0,0), (2,0), (3,1), (4,1), (5,1), (6,1), (7,1), (8,1), (9,0)] [1] [(0, Sl (At b1 o1) l.length c_l), (3, I (i : Int)), (40, Bo true)] (fmc ?_ fm0) ?_
   ·
    refine stab_of 1 32 (Bo true) [(31, I ((headNext x1 x2.root x2.at_).2))] (fun X => ?_)
    exact runL_p1 32 (Bo (!decide ((headNext x1 x2.root x2.at_).2 = 0))) (Bo true) (by rw [h2]) stab_end
   refine tq_then ?_
   refine tc_cond_true ?_
   refine tc_rbn [0,0] [(2, I (i : Int))] (tc_ret (tq_block_ret (tq_then_ret (tq_rnd_ret (tq_block_ret (tq_then_ret ?_))))))
   refine tq_ret [0] [I (i : Int)] (bp_ret (Mem.le_refl _) (congrArg I (?_ : (linkedI l) = (i : Int)).symm))
   rw [hn]; first | exact lnk_at (by omega) hx1 hx2 (by rw [linkB_iff]; simp_all) | exact lnk_end (by simp; omega)
  ·
   have h2d := h2
   try simp only [BB] at h2d
   refine tc_draw [] ?_
   refine dr_V [(0, I ((headNext x1 x2.root x2.at_).2)), (1, Bo false), (2, Bo false), (3, .agg #[I (((headNext x1 x2.root x2.at_).1).epoch), U (((headNext x1 x2.root x2.at_).1).root), U (((headNext x1 x2.root x2.at_).1).prev), I (((headNext x1 x2.root x2.at_).1).at_)]), (4, Sl (At b1 o1) l.length c_l), (5, I (i : Int)), (6, Pt b1 (o1 + i * 4)), (7, .agg #[I x2.epoch, U x2.root, U x2.prev, I x2.at_]), (8, Bo (!(decide (((headNext x1 x2.root x2.at_).1).epoch = x2.epoch) && decide (((headNext x1 x2.root x2.at_).1).root = x2.root) && decide (((headNext x1 x2.root x2.at_).1).prev = x2.prev) && decide (((headNext x1 x2.root x2.at_).1).at_ = x2.at_)))), (9, Bo (!(decide (((headNext x1 x2.root x2.at_).1).epoch = x2.epoch) && decide (((headNext x1 x2.root x2.at_).1).root = x2.root) && decide (((headNext x1 x2.root x2.at_).1).prev = x2.prev) && decide (((headNext x1 x2.root x2.at_).1).at_ = x2.at_))))] ?_
   refine dr_end [] [(0,0), (2,0), (3,2), (4,0), (5,0), (9,0)] [1, 6, 7, 8] [(0, Sl (At b1 o1) l.length c_l), (3, I (i : Int)), (40, Bo (!(decide (((headNext x1 x2.root x2.at_).1).epoch = x2.epoch) && decide (((headNext x1 x2.root x2.at_).1).root = x2.root) && decide (((headNext x1 x2.root x2.at_).1).prev = x2.prev) && decide (((headNext x1 x2.root x2.at_).1).at_ = x2.at_))))] (fmc ?_ (fmc ?_ (fmc ?_ (fmc ?_ fm0)))) ?_
   ·
    refine stab_of 1 32 (Bo false) [(31, I ((headNext x1 x2.root x2.at_).2))] (fun X => ?_)
    exact runL_p1 32 (Bo (!decide ((headNext x1 x2.root x2.at_).2 = 0))) (Bo false) (by rw [h2]) stab_end
   ·
    refine stab_of 6 37 (Pt b1 (o1 + i * 4)) [(33, Bo false), (35, Sl (At b1 o1) l.length c_l), (36, I (i : Int))] (fun X => ?_)
    exact runL_idx (b := b1) (off := o1) (len := l.length) (cap := c_l) (ik := .i64) 37 24 4 i (by first | omega | (have hle_ := h_l.le; have hmx_ := h_l.max; omega)) stab_end
   ·
    refine stab_of 7 38 (.agg #[I x2.epoch, U x2.root, U x2.prev, I x2.at_]) [(33, Bo false), (37, Pt b1 (o1 + i * 4))] (fun X => ?_)
    exact runL_ldG 38 24 (cs := [I x2.epoch, U x2.root, U x2.prev, I x2.at_]) 0 (.agg #[I x2.epoch, U x2.root, U x2.prev, I x2.at_]) hc2 stab_end
   ·
    refine stab_of 8 39 (Bo (!(decide (((headNext x1 x2.root x2.at_).1).epoch = x2.epoch) && decide (((headNext x1 x2.root x2.at_).1).root = x2.root) && decide (((headNext x1 x2.root x2.at_).1).prev = x2.prev) && decide (((headNext x1 x2.root x2.at_).1).at_ = x2.at_)))) [(33, Bo false), (34, .agg #[I (((headNext x1 x2.root x2.at_).1).epoch), U (((headNext x1 x2.root x2.at_).1).root), U (((headNext x1 x2.root x2.at_).1).prev), I (((headNext x1 x2.root x2.at_).1).at_)]), (38, .agg #[I x2.epoch, U x2.root, U x2.prev, I x2.at_])] (fun X => ?_)
    exact runL_eqv 39 (Bo (!(decide (((headNext x1 x2.root x2.at_).1).epoch = x2.epoch) && (decide (((headNext x1 x2.root x2.at_).1).root = x2.root) && (decide (((headNext x1 x2.root x2.at_).1).prev = x2.prev) && (decide (((headNext x1 x2.root x2.at_).1).at_ = x2.at_) && true)))))) (Bo (!(decide (((headNext x1 x2.root x2.at_).1).epoch = x2.epoch) && decide (((headNext x1 x2.root x2.at_).1).root = x2.root) && decide (((headNext x1 x2.root x2.at_).1).prev = x2.prev) && decide (((headNext x1 x2.root x2.at_).1).at_ = x2.at_)))) (by simp [B_toList, Bool.and_assoc]) stab_end
   refine tq_then ?_
   refine tc_condP (!(decide (((headNext x1 x2.root x2.at_).1).epoch = x2.epoch) && decide (((headNext x1 x2.root x2.at_).1).root = x2.root) && decide (((headNext x1 x2.root x2.at_).1).prev = x2.prev) && decide (((headNext x1 x2.root x2.at_).1).at_ = x2.at_))) (fun h3 => ?_) (fun h3 => ?_)
   ·
    refine tc_rbn [0,0] [(2, I (i : Int))] (tc_ret (tq_block_ret (tq_then_ret (tq_rnd_ret (tq_block_ret (tq_then_ret ?_))))))
    refine tq_ret [0] [I (i : Int)] (bp_ret (Mem.le_refl _) (congrArg I (?_ : (linkedI l) = (i : Int)).symm))
    rw [hn]; first | exact lnk_at (by omega) hx1 hx2 (by rw [linkB_iff]; simp_all) | exact lnk_end (by simp; omega)
   ·
    refine tc_skip (tq_block (tq_then (tc_region ?_)))
    refine runL_bn [0,0,0] [(3, I (IntKind.i64.wrap ((i : Int) + 1)))] ?_
    refine runL_wi64 3 ((i : Int) + 1) (by first | omega | (have hle_ := h_l.le; have hmx_ := h_l.max; omega)) ?_
    refine runL_nil ?_
    refine tq_ownsA [] ?_
    exact tq_rnd (i + 1) ⟨⟨by (try dsimp only); omega, .inl (by (try dsimp only); omega)⟩, (by rw [hn]; exact lnk_step (by omega) hx1 hx2 (linkB_iff.2 (by simp_all)))⟩ (by (try dsimp only); omega)
 ·
  refine tc_exit (tq_then_exit (tq_rnd_exit (tq_block_here (tq_then ?_))))
  refine tc_rbn [0] [(2, I (-1))] (tc_ret ?_)
  refine tq_ret [0] [I (-1)] (bp_ret (Mem.le_refl _) (congrArg I (?_ : (linkedI l) = (-1)).symm))
  rw [hn]; first | exact lnk_at (by omega) hx1 hx2 (by rw [linkB_iff]; simp_all) | exact lnk_end (by simp; omega)
theorem chainCheck_con (G : Mem) (a_l : Option Addr) (c_l : Nat) (l : List HeadD) (h_l : RS EHead G a_l c_l l)  : ConV 50 #[Sl a_l l.length c_l] G (.tuple #[I ((chainCheck l).1), I ((chainCheck l).2)]) := by
 refine con_of Tryz.func50 35 [(0, Sl a_l l.length c_l)] rfl (fun w0 G0 => ?_)
 refine tc_rbn [0,0] [] (tc_seq (tc_block ?_))
 refine tc_rbn [0,0,0,0] [(8, Bo (decide ((l.length : Int) = 0)))] ?_
 refine tc_condP (decide ((l.length : Int) = 0)) (fun h1 => ?_) (fun h1 => ?_)
 ·
  refine tc_rbn [0,0] [(2, I 5), (3, I 0)] (tc_ret (tq_block_ret (tq_then_ret ?_)))
  refine tq_ret [0, 0] [I 5, I 0] (bp_ret (Mem.le_refl _) ?_)
  have hf_ : (chainCheck l) = (5, 0) := by
   unfold chainCheck; first | (rw [if_pos (by omega)]; done) | (rw [if_neg (by omega), if_pos (by omega)]; done) | (rw [if_neg (by omega), if_neg (by omega)]; first | (have e_ := headsE_at hx1 (by assumption); rw [← hn] at e_; rw [if_pos (by rw [e_]; assumption), e_]; done) | (have e_ : headsE l 0 = (0, 0) := (by rw [hn, List.drop_eq_nil_of_le (by omega)]; rfl); rw [if_neg (by rw [e_]; simp)]; first | (rw [if_pos (by omega)]; done) | (rw [if_neg (by omega)]; done)))
  (try rw [hf_]); first | with_reducible rfl | (simp only [packR]; done) | rfl
 ·
  refine tc_rbn [0,0,0,0] [(12, Bo (decide ((l.length : Int) > 40)))] ?_
  refine tc_condP (decide ((l.length : Int) > 40)) (fun h2 => ?_) (fun h2 => ?_)
  ·
   refine tc_rbn [0,0] [(2, I 2), (3, I 0)] (tc_ret (tq_block_ret (tq_then_ret ?_)))
   refine tq_ret [0, 0] [I 2, I 0] (bp_ret (Mem.le_refl _) ?_)
   have hf_ : (chainCheck l) = (2, 0) := by
    unfold chainCheck; first | (rw [if_pos (by omega)]; done) | (rw [if_neg (by omega), if_pos (by omega)]; done) | (rw [if_neg (by omega), if_neg (by omega)]; first | (have e_ := headsE_at hx1 (by assumption); rw [← hn] at e_; rw [if_pos (by rw [e_]; assumption), e_]; done) | (have e_ : headsE l 0 = (0, 0) := (by rw [hn, List.drop_eq_nil_of_le (by omega)]; rfl); rw [if_neg (by rw [e_]; simp)]; first | (rw [if_pos (by omega)]; done) | (rw [if_neg (by omega)]; done)))
   (try rw [hf_]); first | with_reducible rfl | (simp only [packR]; done) | rfl
  ·
   refine tc_skip (tq_block (tq_then (tc_seq ?_)))
   refine tc_rbn [0,0,0] [(16, Sl a_l l.length c_l), (17, I (l.length : Int)), (18, I 0)] (tc_block ?_)
   have hlm_h_l : l.length ≤ 9223372036854775807 := Nat.le_trans (h_l).le (h_l).max
   refine tc_loop (σ := Nat) (fun q_ => (q_ ≤ l.length) ∧ (headsE l 0 = headsE (l.drop q_) q_)) (fun q_ => [(0, Sl a_l l.length c_l), (16, Sl a_l l.length c_l), (17, I (l.length : Int)), (18, I (q_ : Int))]) (fun q_ => G) (fun q_ => []) (fun q_ => l.length - q_) 0 ⟨(by (try dsimp only); first | exact Nat.zero_le _ | omega | simp), rfl⟩ (fun q_ hs => ?_)
   revert hs; revert q_; intro i hs
   obtain ⟨hi, hn⟩ := hs
   refine tc_eq (fr' := [(0, Sl a_l l.length c_l), (16, Sl a_l l.length c_l), (17, I (l.length : Int)), (18, I (i : Int))]) (L' := []) rfl rfl ?_
   refine tc_rbn [0] [(19, Bo (decide ((i : Int) < (l.length : Int))))] (tc_seq ?_)
   refine tc_condP (decide ((i : Int) < (l.length : Int))) (fun h3 => ?_) (fun h3 => ?_)
   ·
    refine tc_skip (tq_then (tc_seq (tc_block (tc_seq (tc_region ?_)))))
    refine runL_bn [0] [(20, I (i : Int))] ?_
    obtain ⟨b1, o1, rfl⟩ := RS.addr h_l (k := i) (by omega)
    obtain ⟨x1, hx1⟩ := getX (l := l) (k := i) (by omega)
    obtain ⟨_, ⟨rfl, w1, w2, w3, w4⟩, hc1⟩ := RS.get h_l hx1
    refine runL_idx (b := b1) (off := o1) (len := l.length) (cap := c_l) (ik := .i64) 21 24 4 i (by omega) ?_
    refine runL_ldG 22 24 (cs := [I x1.epoch, U x1.root, U x1.prev, I x1.at_]) 0 (.agg #[I x1.epoch, U x1.root, U x1.prev, I x1.at_]) hc1 ?_
    refine runL_box 5 #[I 0, U 0, U 0, I 0] 24 (fun b2 => ?_)
    refine runL_bsn [0,3] [(4, I (i : Int))] [[Sg b2 0 [I x1.epoch, U x1.root, U x1.prev, I x1.at_]]] (runL_nil (tq_then (tc_seq (tc_region ?_))))
    refine runL_bn [2] [(23, .agg #[I x1.epoch, U x1.root, U x1.prev, I x1.at_])] ?_
    refine runL_callV 24 (I (headCheck x1)) (headCheck_con x1 G) ?_
    refine runL_bn [0] [(6, I (headCheck x1))] (runL_nil (tq_then ?_))
    refine tc_rbn [0,0] [(26, Bo (!decide (headCheck x1 = 0)))] ?_
    refine tc_condP (!decide (headCheck x1 = 0)) (fun h4 => ?_) (fun h4 => ?_)
    ·
     refine tc_rbn [0,0,0,0] [(2, I (headCheck x1)), (3, I (i : Int))] (tc_ret (tq_block_ret (tq_then_ret (tq_rnd_ret (tq_block_ret (tq_then_ret ?_))))))
     refine tq_ret [0, 0] [I (headCheck x1), I (i : Int)] (bp_ret (Mem.le_refl _) ?_)
     have hf_ : (chainCheck l) = ((headCheck x1), (i : Int)) := by
      unfold chainCheck; first | (rw [if_pos (by omega)]; done) | (rw [if_neg (by omega), if_pos (by omega)]; done) | (rw [if_neg (by omega), if_neg (by omega)]; first | (have e_ := headsE_at hx1 (by assumption); rw [← hn] at e_; rw [if_pos (by rw [e_]; assumption), e_]; done) | (have e_ : headsE l 0 = (0, 0) := (by rw [hn, List.drop_eq_nil_of_le (by omega)]; rfl); rw [if_neg (by rw [e_]; simp)]; first | (rw [if_pos (by omega)]; done) | (rw [if_neg (by omega)]; done)))
     (try rw [hf_]); first | with_reducible rfl | (simp only [packR]; done) | rfl
    ·
     refine tc_skip (tq_block (tq_then (tc_region ?_)))
     refine runL_bn [0,0] [(18, I (IntKind.i64.wrap ((i : Int) + 1)))] ?_
     refine runL_wi64 18 ((i : Int) + 1) (by omega) ?_
     refine runL_nil ?_
     refine tq_ownsA [] ?_
     exact tq_rnd (i + 1) ⟨(by omega), (by rw [hn]; exact headsE_step hx1 (by assumption))⟩ (by (try dsimp only); omega)
   ·
    refine tc_exit (tq_then_exit (tq_rnd_exit (tq_block_here (tq_then (tc_seq (tc_seq (tc_region ?_)))))))
    refine runL_bn [0] [(30, Sl a_l l.length c_l)] ?_
    refine runL_callV 31 (I (linkedI l)) (linkedI_con G a_l c_l l h_l) ?_
    refine runL_bn [0] [(7, I (linkedI l))] (runL_nil (tq_then ?_))
    refine tc_rbn [0,0] [(33, Bo (decide (linkedI l ≥ 0)))] ?_
    refine tc_condP (decide (linkedI l ≥ 0)) (fun h5 => ?_) (fun h5 => ?_)
    ·
     refine tc_rbn [0,0,0] [(2, I 8), (3, I (linkedI l))] (tc_ret (tq_then_ret ?_))
     refine tq_ret [0, 0] [I 8, I (linkedI l)] (bp_ret (Mem.le_refl _) ?_)
     have hf_ : (chainCheck l) = (8, (linkedI l)) := by
      unfold chainCheck; first | (rw [if_pos (by omega)]; done) | (rw [if_neg (by omega), if_pos (by omega)]; done) | (rw [if_neg (by omega), if_neg (by omega)]; first | (have e_ := headsE_at hx1 (by assumption); rw [← hn] at e_; rw [if_pos (by rw [e_]; assumption), e_]; done) | (have e_ : headsE l 0 = (0, 0) := (by rw [hn, List.drop_eq_nil_of_le (by omega)]; rfl); rw [if_neg (by rw [e_]; simp)]; first | (rw [if_pos (by omega)]; done) | (rw [if_neg (by omega)]; done)))
     (try rw [hf_]); first | with_reducible rfl | (simp only [packR]; done) | rfl
    ·
     refine tc_skip (tq_then ?_)
     refine tc_rbn [0,0] [(2, I 0), (3, I 0)] (tc_ret ?_)
     refine tq_ret [0, 0] [I 0, I 0] (bp_ret (Mem.le_refl _) ?_)
     have hf_ : (chainCheck l) = (0, 0) := by
      unfold chainCheck; first | (rw [if_pos (by omega)]; done) | (rw [if_neg (by omega), if_pos (by omega)]; done) | (rw [if_neg (by omega), if_neg (by omega)]; first | (have e_ := headsE_at hx1 (by assumption); rw [← hn] at e_; rw [if_pos (by rw [e_]; assumption), e_]; done) | (have e_ : headsE l 0 = (0, 0) := (by rw [hn, List.drop_eq_nil_of_le (by omega)]; rfl); rw [if_neg (by rw [e_]; simp)]; first | (rw [if_pos (by omega)]; done) | (rw [if_neg (by omega)]; done)))
     (try rw [hf_]); first | with_reducible rfl | (simp only [packR]; done) | rfl
theorem checkAll_con (G : Mem) (a_l : Option Addr) (c_l : Nat) (l : List (List HeadD)) (h_l : RS ESlHead G a_l c_l l)  : ConV 61 #[Sl a_l l.length c_l] G (I (checkAll l)) := by
 refine con_of Tryz.func61 22 [(0, Sl a_l l.length c_l)] rfl (fun w0 G0 => ?_)
 refine tc_rbn [0] [] (tc_seq ?_)
 refine tc_rbn [0,0,0] [(7, Sl a_l l.length c_l), (8, I (l.length : Int)), (9, I 0)] (tc_block ?_)
 have hlm_h_l : l.length ≤ 9223372036854775807 := Nat.le_trans (h_l).le (h_l).max
 refine tc_loop (σ := Nat) (fun q_ => (q_ ≤ l.length) ∧ (checkAll l = checkAll (l.drop q_))) (fun q_ => [(7, Sl a_l l.length c_l), (8, I (l.length : Int)), (9, I (q_ : Int))]) (fun q_ => G) (fun q_ => []) (fun q_ => l.length - q_) 0 ⟨(by (try dsimp only); first | exact Nat.zero_le _ | omega | simp), rfl⟩ (fun q_ hs => ?_)
 revert hs; revert q_; intro i hs
 obtain ⟨hi, hn⟩ := hs
 refine tc_eq (fr' := [(7, Sl a_l l.length c_l), (8, I (l.length : Int)), (9, I (i : Int))]) (L' := []) rfl rfl ?_
 refine tc_rbn [0] [(10, Bo (decide ((i : Int) < (l.length : Int))))] (tc_seq ?_)
 refine tc_condP (decide ((i : Int) < (l.length : Int))) (fun h1 => ?_) (fun h1 => ?_)
 ·
  refine tc_skip (tq_then (tc_seq (tc_block (tc_seq (tc_region ?_)))))
  obtain ⟨b1, o1, rfl⟩ := RS.addr h_l (k := i) (by omega)
  obtain ⟨x1, hx1⟩ := getX (l := l) (k := i) (by omega)
  obtain ⟨_, ⟨a1, c1, rfl, hs1⟩, hc1⟩ := RS.get h_l hx1
  refine runL_idx (b := b1) (off := o1) (len := l.length) (cap := c_l) (ik := .i64) 11 42 1 i (by omega) ?_
  refine runL_ldG 12 42 (cs := [Sl a1 x1.length c1]) 0 (Sl a1 x1.length c1) hc1 ?_
  refine runL_bn [0] [(4, Sl a1 x1.length c1)] (runL_nil (tq_then (tc_seq (tc_region ?_))))
  refine runL_bn [0] [(14, Sl a1 x1.length c1)] ?_
  refine runL_callV 15 (.tuple #[I ((chainCheck x1).1), I ((chainCheck x1).2)]) (chainCheck_con G a1 c1 x1 hs1) ?_
  refine runL_bn [0,0,0,0,0] [(5, I ((chainCheck x1).1))] (runL_nil (tq_then ?_))
  refine tc_rbn [0,0] [(19, Bo (!decide ((chainCheck x1).1 = 0)))] ?_
  refine tc_condP (!decide ((chainCheck x1).1 = 0)) (fun h2 => ?_) (fun h2 => ?_)
  ·
   refine tc_rbn [0,0] [(2, I ((chainCheck x1).1))] (tc_ret (tq_block_ret (tq_then_ret (tq_rnd_ret (tq_block_ret (tq_then_ret ?_))))))
   refine tq_ret [0] [I ((chainCheck x1).1)] (bp_ret (Mem.le_refl _) (congrArg I (?_ : (checkAll l) = ((chainCheck x1).1)).symm))
   rw [hn]; first | exact checkAll_at hx1 (by assumption) | (rw [List.drop_eq_nil_of_le (by omega)]; rfl)
  ·
   refine tc_skip (tq_block (tq_then (tc_region ?_)))
   refine runL_bn [0,0] [(9, I (IntKind.i64.wrap ((i : Int) + 1)))] ?_
   refine runL_wi64 9 ((i : Int) + 1) (by omega) ?_
   refine runL_nil ?_
   exact tq_rnd (i + 1) ⟨(by omega), (by rw [hn]; exact checkAll_step hx1 (by assumption))⟩ (by (try dsimp only); omega)
 ·
  refine tc_exit (tq_then_exit (tq_rnd_exit (tq_block_here (tq_then ?_))))
  refine tc_rbn [0] [(2, I 0)] (tc_ret ?_)
  refine tq_ret [0] [I 0] (bp_ret (Mem.le_refl _) (congrArg I (?_ : (checkAll l) = 0).symm))
  rw [hn]; first | exact checkAll_at hx1 (by assumption) | (rw [List.drop_eq_nil_of_le (by omega)]; rfl)
theorem chainGrow_con (G : Mem) (a_l : Option Addr) (c_l : Nat) (l : List HeadD) (h_l : RS EHead G a_l c_l l) (root : Int) (hw_root : 0 ≤ root ∧ root < 18446744073709551616) (a : Int) (hw_a : -9223372036854775808 ≤ a ∧ a < 9223372036854775808)  : ConP 32 #[Sl a_l l.length c_l, U root, I a] G [] (fun u G' L' => ∃ (a1 : Option Addr) (c2 : Nat) (r3 : List Seg), u = .tuple #[Sl a1 (((chainGrow l root a).1).length) c2, I ((chainGrow l root a).2)] ∧ (TRow EHead G' a1 c2 ((chainGrow l root a).1) r3) ∧ L' = [r3]) := by
 refine con_of Tryz.func32 41 [(0, Sl a_l l.length c_l), (1, U root), (2, I a)] rfl (fun w0 G0 => ?_)
 refine tc_rbn [0,0] [] (tc_seq (tc_region ?_))
 refine runL_bn [0] [(10, Sl a_l l.length c_l)] ?_
 refine runL_bsl 11 1 #[Sl a_l l.length c_l] 42 (fun b1 => ?_)
 refine runL_frz1 (b := b1) (o := 0) (cs := [Sl a_l l.length c_l]) 0 (fun G1 hl1 hz1 => ?_)
 have hs1 : RS ESlHead G1 (At b1 0) 1 [l] := RS.lit [[Sl a_l l.length c_l]] [l] ⟨⟨a_l, c_l, rfl, (h_l.mono hl1)⟩, trivial⟩ hz1 (Nat.le_of_ble_eq_true rfl) (Nat.le_of_ble_eq_true rfl)
 refine runL_callV 12 (I (checkAll ([l]))) (checkAll_con G1 (At b1 0) 1 ([l]) hs1) ?_
 refine runL_bn [0] [(8, I (checkAll ([l])))] (runL_nil (tq_then (tc_seq (tc_block ?_))))
 refine tc_rbn [0,0,0] [(13, Bo (!decide (checkAll ([l]) = 0)))] ?_
 refine tc_condP (!decide (checkAll ([l]) = 0)) (fun h1 => ?_) (fun h1 => ?_)
 ·
  refine tc_rbn [0,0,0] [(6, Sl none 0 0), (7, I (checkAll ([l])))] (tc_ret (tq_block_ret (tq_then_ret ?_)))
  refine tq_empty ?_
  refine tq_front 0 ?_
  have hf1 : chainGrow l root a = ([], checkAll ([l])) := by
   unfold chainGrow chainGrowE; first | (simp_all; done) | (have hl_ := lastH_get (l := l) (k := l.length - 1) rfl (by assumption); subst hl_; first | (simp_all; done) | (rw [if_neg]; rw [if_neg (by omega), if_neg (by omega)]; omega))
  refine tq_ret [0, 0] [Sl none 0 0, I (checkAll ([l]))] (bp_rowsA [[]] hl1 ?_)
  rw [hf1]
  try dsimp only
  exact ⟨none, 0, ([]), rfl, (TRow.none EHead _), rfl⟩
 ·
  refine tc_rbn [0,0,0,0] [(17, Bo (decide ((l.length : Int) = 40)))] ?_
  refine tc_condP (decide ((l.length : Int) = 40)) (fun h2 => ?_) (fun h2 => ?_)
  ·
   refine tc_rbn [0,0] [(6, Sl none 0 0), (7, I 7)] (tc_ret (tq_block_ret (tq_then_ret ?_)))
   refine tq_empty ?_
   refine tq_front 0 ?_
   have hf2 : chainGrow l root a = ([], 7) := by
    unfold chainGrow chainGrowE; first | (simp_all; done) | (have hl_ := lastH_get (l := l) (k := l.length - 1) rfl (by assumption); subst hl_; first | (simp_all; done) | (rw [if_neg]; rw [if_neg (by omega), if_neg (by omega)]; omega))
   refine tq_ret [0, 0] [Sl none 0 0, I 7] (bp_rowsA [[]] hl1 ?_)
   rw [hf2]
   try dsimp only
   exact ⟨none, 0, ([]), rfl, (TRow.none EHead _), rfl⟩
  ·
   refine tc_skip (tq_block (tq_then (tc_seq (tc_region ?_))))
   refine runL_bn [0,0,0,0] [(22, Sl a_l l.length c_l), (25, I (IntKind.i64.wrap ((l.length : Int) - 1)))] ?_
   have e1 : IntKind.i64.wrap ((l.length : Int) - 1) = ((l.length - 1 : Nat) : Int) := (IntWalk.i64_in _ (by first | omega | (have q_ := check1_iff.1 (by assumption); have q1_ := q_.len1; have q2_ := q_.len; have q3_ := q_.lastE; have q4_ := q_.fb; have q5_ := q_.lb; omega))).trans (show (l.length : Int) - 1 = ((l.length - 1 : Nat) : Int) by first | omega | (have q_ := check1_iff.1 (by assumption); have q1_ := q_.len1; have q2_ := q_.len; have q3_ := q_.lastE; have q4_ := q_.fb; have q5_ := q_.lb; omega))
   refine runL_put 25 (I ((l.length - 1 : Nat) : Int)) (congrArg I e1) ?_
   clear e1
   obtain ⟨b2, o1, rfl⟩ := RS.addr (h_l.mono hl1) (k := l.length - 1) (by first | omega | (have q_ := check1_iff.1 (by assumption); have q1_ := q_.len1; have q2_ := q_.len; have q3_ := q_.lastE; have q4_ := q_.fb; have q5_ := q_.lb; omega))
   obtain ⟨x1, hx1⟩ := getX (l := l) (k := l.length - 1) (by first | omega | (have q_ := check1_iff.1 (by assumption); have q1_ := q_.len1; have q2_ := q_.len; have q3_ := q_.lastE; have q4_ := q_.fb; have q5_ := q_.lb; omega))
   obtain ⟨_, ⟨rfl, w1, w2, w3, w4⟩, hc1⟩ := RS.get (h_l.mono hl1) hx1
   refine runL_idx (b := b2) (off := o1) (len := l.length) (cap := c_l) (ik := .i64) 26 24 4 (l.length - 1) (by first | omega | (have q_ := check1_iff.1 (by assumption); have q1_ := q_.len1; have q2_ := q_.len; have q3_ := q_.lastE; have q4_ := q_.fb; have q5_ := q_.lb; omega)) ?_
   refine runL_ldG 27 24 (cs := [I x1.epoch, U x1.root, U x1.prev, I x1.at_]) 0 (.agg #[I x1.epoch, U x1.root, U x1.prev, I x1.at_]) hc1 ?_
   refine runL_bn [0,0] [(28, U root), (29, I a)] ?_
   refine runL_callV 30 (.tuple #[.agg #[I (((headNext x1 root a).1).epoch), U (((headNext x1 root a).1).root), U (((headNext x1 root a).1).prev), I (((headNext x1 root a).1).at_)], I ((headNext x1 root a).2)]) (headNext_con G1 [I x1.epoch, U x1.root, U x1.prev, I x1.at_] x1 (⟨rfl, w1, w2, w3, w4⟩) root (by first | assumption | omega | (simp; done) | (simp; omega)) a (by first | assumption | omega | (simp; done) | (simp; omega))) ?_
   refine runL_bn [0,0,0] [(31, .agg #[I (((headNext x1 root a).1).epoch), U (((headNext x1 root a).1).root), U (((headNext x1 root a).1).prev), I (((headNext x1 root a).1).at_)]), (32, I ((headNext x1 root a).2))] ?_
   refine runL_box 9 #[I 0, U 0, U 0, I 0] 24 (fun b3 => ?_)
   refine runL_bsn [3,0] [(8, I ((headNext x1 root a).2))] [[Sg b3 0 [I (((headNext x1 root a).1).epoch), U (((headNext x1 root a).1).root), U (((headNext x1 root a).1).prev), I (((headNext x1 root a).1).at_)]], []] (runL_nil (tq_then (tc_seq ?_)))
   refine tc_rbn [0,0] [(34, Bo (!decide ((headNext x1 root a).2 = 0)))] ?_
   refine tc_condP (!decide ((headNext x1 root a).2 = 0)) (fun h3 => ?_) (fun h3 => ?_)
   ·
    refine tc_rbn [0,0,0] [(6, Sl none 0 0), (7, I ((headNext x1 root a).2))] (tc_ret (tq_then_ret ?_))
    refine tq_empty ?_
    refine tq_front 0 ?_
    have hf3 : chainGrow l root a = ([], (headNext x1 root a).2) := by
     unfold chainGrow chainGrowE; first | (simp_all; done) | (have hl_ := lastH_get (l := l) (k := l.length - 1) rfl (by assumption); subst hl_; first | (simp_all; done) | (rw [if_neg]; rw [if_neg (by omega), if_neg (by omega)]; omega))
    refine tq_ret [0, 0] [Sl none 0 0, I ((headNext x1 root a).2)] (bp_rowsA [[]] hl1 ?_)
    rw [hf3]
    try dsimp only
    exact ⟨none, 0, ([]), rfl, (TRow.none EHead _), rfl⟩
   ·
    refine tc_skip (tq_then (tc_seq ?_))
    refine tc_draw [1, 3, 4] ?_
    refine dr_V [(0, Sl (At b2 o1) l.length c_l), (2, .agg #[I (((headNext x1 root a).1).epoch), U (((headNext x1 root a).1).root), U (((headNext x1 root a).1).prev), I (((headNext x1 root a).1).at_)])] ?_
    refine dr_mid [] [(0,0), (2,2)] [] [1, 3] (List.forall_mem_nil _) (fmc ?_ (fmc ?_ fm0))
    ·
     refine act_of 1 [(36, Sl (At b2 o1) l.length c_l)] (fun X => ?_)
     refine runL_callR 37 (sclone_EHead G1 (At b2 o1) c_l l (h_l.mono hl1)) (fun v G2 L1 hl2 hp => ?_)
     obtain ⟨a1, c1, r1, rfl, hr1, rfl⟩ := hp
     refine act_endN [(1, Sl a1 l.length c1)] ?_
     refine dr_mid [0] [(2,4)] [] [3] (List.forall_mem_nil _) (fmc ?_ fm0)
     refine act_of 3 [(38, .agg #[I (((headNext x1 root a).1).epoch), U (((headNext x1 root a).1).root), U (((headNext x1 root a).1).prev), I (((headNext x1 root a).1).at_)])] (fun X => ?_)
     refine runL_bsl 39 1 #[I (((headNext x1 root a).1).epoch), U (((headNext x1 root a).1).root), U (((headNext x1 root a).1).prev), I (((headNext x1 root a).1).at_)] 24 (fun b4 => ?_)
     refine act_endN [(3, Sl (At b4 0) 1 1)] ?_
     refine dr_mid [0, 2] [] [] [4] (List.forall_mem_nil _) (fmc ?_ fm0)
     refine act_of 4 [(37, Sl a1 l.length c1), (39, Sl (At b4 0) 1 1)] (fun X => ?_)
     refine runL_app1' (b := b4) (cs := [I (((headNext x1 root a).1).epoch), U (((headNext x1 root a).1).root), U (((headNext x1 root a).1).prev), I (((headNext x1 root a).1).at_)]) 40 24 1 0 (E := EHead) ((headNext x1 root a).1) hr1 ⟨rfl, (by have q_ := headNext_bd (x := x1) (r := root) (t := a) (by omega) (by assumption); omega), (by have q_ := headNext_bd (x := x1) (r := root) (t := a) (by omega) (by assumption); omega), (by have q_ := headNext_bd (x := x1) (r := root) (t := a) (by omega) (by assumption); omega), (by have q_ := headNext_bd (x := x1) (r := root) (t := a) (by omega) (by assumption); omega)⟩ (by have q_ := check1_iff.1 (by assumption); have q1_ := q_.len1; have q2_ := q_.len; have q3_ := q_.lastE; have q4_ := q_.fb; have q5_ := q_.lb; (try simp only [EHead, List.length_append, List.length_cons, List.length_nil]); omega) (by have q_ := check1_iff.1 (by assumption); have q1_ := q_.len1; have q2_ := q_.len; have q3_ := q_.lastE; have q4_ := q_.fb; have q5_ := q_.lb; (try simp only [EHead, List.length_append, List.length_cons, List.length_nil]); omega) (fun a2 c2 r2 hr2 => ?_)
     refine act_endN [(4, Sl a2 ((l ++ [((headNext x1 root a).1)]).length) c2), (5, Sl a2 ((l ++ [((headNext x1 root a).1)]).length) c2), (6, I 0)] ?_
     refine dr_end [0, 2] [(5,0), (6,0)] [] [(6, Sl a2 ((l ++ [((headNext x1 root a).1)]).length) c2), (7, I 0)] (List.forall_mem_nil _) ?_
     refine tq_then (tc_ret ?_)
     refine tq_front 1 ?_
     have hf4 : chainGrow l root a = (l ++ [((headNext x1 root a).1)], 0) := by
      unfold chainGrow chainGrowE; first | (simp_all; done) | (have hl_ := lastH_get (l := l) (k := l.length - 1) rfl (by assumption); subst hl_; first | (simp_all; done) | (rw [if_neg]; rw [if_neg (by omega), if_neg (by omega)]; omega))
     refine tq_ret [0, 0] [Sl a2 ((l ++ [((headNext x1 root a).1)]).length) c2, I 0] (bp_rowsA [r2] (Mem.le_trans hl1 hl2) ?_)
     rw [hf4]
     try dsimp only
     exact ⟨a2, c2, r2, rfl, hr2, rfl⟩
    refine act_of 3 [(38, .agg #[I (((headNext x1 root a).1).epoch), U (((headNext x1 root a).1).root), U (((headNext x1 root a).1).prev), I (((headNext x1 root a).1).at_)])] (fun X => ?_)
    refine runL_bsl 39 1 #[I (((headNext x1 root a).1).epoch), U (((headNext x1 root a).1).root), U (((headNext x1 root a).1).prev), I (((headNext x1 root a).1).at_)] 24 (fun b5 => ?_)
    refine act_endN [(3, Sl (At b5 0) 1 1)] ?_
    refine dr_mid [2] [(0,0)] [] [1] (List.forall_mem_nil _) (fmc ?_ fm0)
    refine act_of 1 [(36, Sl (At b2 o1) l.length c_l)] (fun X => ?_)
    refine runL_callR 37 (sclone_EHead G1 (At b2 o1) c_l l (h_l.mono hl1)) (fun v G3 L1 hl3 hp => ?_)
    obtain ⟨a3, c3, r3, rfl, hr3, rfl⟩ := hp
    refine act_endN [(1, Sl a3 l.length c3)] ?_
    refine dr_mid [0, 2] [] [] [4] (List.forall_mem_nil _) (fmc ?_ fm0)
    refine act_of 4 [(37, Sl a3 l.length c3), (39, Sl (At b5 0) 1 1)] (fun X => ?_)
    refine runL_app1' (b := b5) (cs := [I (((headNext x1 root a).1).epoch), U (((headNext x1 root a).1).root), U (((headNext x1 root a).1).prev), I (((headNext x1 root a).1).at_)]) 40 24 0 1 (E := EHead) ((headNext x1 root a).1) hr3 ⟨rfl, (by have q_ := headNext_bd (x := x1) (r := root) (t := a) (by omega) (by assumption); omega), (by have q_ := headNext_bd (x := x1) (r := root) (t := a) (by omega) (by assumption); omega), (by have q_ := headNext_bd (x := x1) (r := root) (t := a) (by omega) (by assumption); omega), (by have q_ := headNext_bd (x := x1) (r := root) (t := a) (by omega) (by assumption); omega)⟩ (by have q_ := check1_iff.1 (by assumption); have q1_ := q_.len1; have q2_ := q_.len; have q3_ := q_.lastE; have q4_ := q_.fb; have q5_ := q_.lb; (try simp only [EHead, List.length_append, List.length_cons, List.length_nil]); omega) (by have q_ := check1_iff.1 (by assumption); have q1_ := q_.len1; have q2_ := q_.len; have q3_ := q_.lastE; have q4_ := q_.fb; have q5_ := q_.lb; (try simp only [EHead, List.length_append, List.length_cons, List.length_nil]); omega) (fun a4 c4 r4 hr4 => ?_)
    refine act_endN [(4, Sl a4 ((l ++ [((headNext x1 root a).1)]).length) c4), (5, Sl a4 ((l ++ [((headNext x1 root a).1)]).length) c4), (6, I 0)] ?_
    refine dr_end [0, 2] [(5,0), (6,0)] [] [(6, Sl a4 ((l ++ [((headNext x1 root a).1)]).length) c4), (7, I 0)] (List.forall_mem_nil _) ?_
    refine tq_then (tc_ret ?_)
    refine tq_front 0 ?_
    have hf5 : chainGrow l root a = (l ++ [((headNext x1 root a).1)], 0) := by
     unfold chainGrow chainGrowE; first | (simp_all; done) | (have hl_ := lastH_get (l := l) (k := l.length - 1) rfl (by assumption); subst hl_; first | (simp_all; done) | (rw [if_neg]; rw [if_neg (by omega), if_neg (by omega)]; omega))
    refine tq_ret [0, 0] [Sl a4 ((l ++ [((headNext x1 root a).1)]).length) c4, I 0] (bp_rowsA [r4] (Mem.le_trans hl1 hl3) ?_)
    rw [hf5]
    try dsimp only
    exact ⟨a4, c4, r4, rfl, hr4, rfl⟩
end Go.Proofs.YtpofnmobbbcpgaaGreatDoor
