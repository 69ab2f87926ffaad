import Derived.Test.YtmpakffajpnffaaGreatDoorZLeaf
namespace Go.Proofs.YtmpakffajpnffaaGreatDoor
open Go.Tx
set_option linter.unusedVariables false
set_option linter.unusedSimpArgs false

def alikeB (s t : List UInt8) : Bool := !(s == t) && decide (markOf s = markOf t)
def tGo (a b : List (List UInt8)) : Nat → List UInt8 × List UInt8 × Int
  | 0 => ([], [], 5)
  | i + 1 => if a[i]? = b[i]? then tGo a b i else if alikeB (a[i]?.getD []) (b[i]?.getD []) = true then (a[i]?.getD [], b[i]?.getD [], 0) else ([], [], 5)
def lastT (a : List (List UInt8)) : List UInt8 := a[a.length - 1]?.getD []
theorem lastT_get {a : List (List UInt8)} {k : Nat} {x : List UInt8} (hk : k = a.length - 1) (h : a[k]? = some x) : x = lastT a := by unfold lastT; rw [← hk, h]; rfl
def clashTexts (a b : List (List UInt8)) : List UInt8 × List UInt8 × Int := if (a.length : Int) = 0 ∨ ¬ (a.length : Int) = b.length then ([], [], 3) else if ¬ markOf (lastT a) = markOf (lastT b) then ([], [], 8) else tGo a b a.length
theorem tGo_skip {a b : List (List UInt8)} {k : Nat} {x y : List UInt8} (hx : a[k]? = some x) (hy : b[k]? = some y) (h : x = y) : tGo a b (k + 1) = tGo a b k := by
  show (if _ then _ else _) = _
  rw [if_pos (by rw [hx, hy, h])]
theorem tGo_at {a b : List (List UInt8)} {k : Nat} {x y : List UInt8} (hx : a[k]? = some x) (hy : b[k]? = some y) (h : ¬ x = y) : tGo a b (k + 1) = if alikeB x y = true then (x, y, 0) else ([], [], 5) := by
  show (if _ then _ else _) = _
  rw [if_neg (by rw [hx, hy]; simpa using h), hx, hy]; rfl
theorem tGo_ok (a b : List (List UInt8)) : ∀ k, ((tGo a b k).2.2 = 0 → alikeB (tGo a b k).1 (tGo a b k).2.1 = true) ∧ (¬ (tGo a b k).2.2 = 0 → (tGo a b k).1 = [] ∧ (tGo a b k).2.1 = [])
  | 0 => by simp [tGo]
  | k + 1 => by
    have ih := tGo_ok a b k
    unfold tGo
    split
    · exact ih
    split
    · rename_i h; simp [h]
    · simp
def isClash (s t : List UInt8) (e : Int) : Bool := if e = 0 then alikeB s t else decide (s = []) && decide (t = [])
theorem texts_ok (a b : List (List UInt8)) : isClash (clashTexts a b).1 (clashTexts a b).2.1 (clashTexts a b).2.2 = true := by
  unfold clashTexts
  split
  · rfl
  split
  · rfl
  · have := tGo_ok a b a.length
    unfold isClash
    by_cases h : (tGo a b a.length).2.2 = 0
    · rw [if_pos h]; exact this.1 h
    · rw [if_neg h]; simp [this.2 h]
def clashProofs (p q : ProofD) : List UInt8 × List UInt8 × Int := if (proofSaid p).2 ≠ 0 then ([], [], (proofSaid p).2) else if (proofSaid q).2 ≠ 0 then ([], [], (proofSaid q).2) else if ¬ p.name = q.name then ([], [], 3) else clashTexts (proofSaid p).1 (proofSaid q).1
theorem proofs_ok (p q : ProofD) : isClash (clashProofs p q).1 (clashProofs p q).2.1 (clashProofs p q).2.2 = true := by
  unfold clashProofs
  split
  · rename_i h; unfold isClash; rw [if_neg h]; rfl
  split
  · rename_i h; unfold isClash; rw [if_neg h]; rfl
  split
  · rfl
  · exact texts_ok _ _

theorem clashTexts_con (G : Mem) (a_a : Option Addr) (c_a : Nat) (a : List ((List UInt8))) (h_a : RS ES G a_a c_a a) (a_b : Option Addr) (c_b : Nat) (b : List ((List UInt8))) (h_b : RS ES G a_b c_b b)  : Con Tryz.prog 96 #[Sl a_a a.length c_a, Sl a_b b.length c_b] G [] (fun u G' L' => u = .tuple #[Sr ((clashTexts a b).1), Sr ((clashTexts a b).2.1), I ((clashTexts a b).2.2)] ∧ (((clashTexts a b).1).length ≤ 140737488351232) ∧ (((clashTexts a b).2.1).length ≤ 140737488351232) ∧ L' = []) := by
  refine con_of Tryz.func96 66 [(0, Sl a_a a.length c_a), (1, Sl a_b b.length c_b)] rfl (fun w0 G0 => ?_)
  refine tc_rb [0,0,0] [(0, Sl a_a a.length c_a), (1, Sl a_b b.length c_b), (4, Sr ([])), (5, Sr ([])), (6, I 0)] ?_
  refine tc_rb [0,0,0] [(0, Sl a_a a.length c_a), (1, Sl a_b b.length c_b), (4, Sr ([])), (5, Sr ([])), (6, I 0), (7, I (((a.length : Nat) : Int)))] ?_
  refine tc_seq ?_
  refine tc_block ?_
  refine tc_seq ?_
  refine tc_region ?_
  refine runL_b [0,0,0] [(0, Sl a_a a.length c_a), (1, Sl a_b b.length c_b), (4, Sr ([])), (5, Sr ([])), (6, I 0), (7, I (((a.length : Nat) : Int))), (14, Bo (decide (((a.length : Nat) : Int) = 0)))] ?_
  refine runL_b2 (decide (((a.length : Nat) : Int) = 0)) (fun bb => [(0, Sl a_a a.length c_a), (1, Sl a_b b.length c_b), (4, Sr ([])), (5, Sr ([])), (6, I 0), (7, I (((a.length : Nat) : Int))), (14, Bo bb)]) [1,1,1,1,0] [0,0,0,0,0] (fun bb => [(0, Sl a_a a.length c_a), (1, Sl a_b b.length c_b), (4, Sr ([])), (5, Sr ([])), (6, I 0), (7, I (((a.length : Nat) : Int))), (19, Bo (bb || (!decide (((a.length : Nat) : Int) = ((b.length : Nat) : Int)))))]) ?_
  refine runL_b [0] [(0, Sl a_a a.length c_a), (1, Sl a_b b.length c_b), (4, Sr ([])), (5, Sr ([])), (6, I 0), (7, I (((a.length : Nat) : Int))), (11, Bo ((decide (((a.length : Nat) : Int) = 0)) || (!decide (((a.length : Nat) : Int) = ((b.length : Nat) : Int)))))] ?_
  refine runL_nil ?_
  refine tq_then ?_
  refine tc_cond ((decide (((a.length : Nat) : Int) = 0)) || (!decide (((a.length : Nat) : Int) = ((b.length : Nat) : Int)))) (fun h1 => ?_) (fun h1 => ?_)
  ·
    try simp only [decide_eq_true_eq, decide_eq_false_iff_not, Bool.and_eq_true, Bool.or_eq_true, Bool.and_eq_false_imp, Bool.or_eq_false_iff, Bool.not_eq_true', Bool.not_eq_false', Bool.not_eq_true, Bool.not_eq_false, beq_iff_eq, beq_eq_false_iff_ne, bne_iff_ne, ne_eq, Decidable.not_not, Int.not_lt, Int.not_le] at h1
    refine tc_rb [0,0,0] [(0, Sl a_a a.length c_a), (1, Sl a_b b.length c_b), (4, Sr ([])), (5, Sr ([])), (6, I 3), (7, I (((a.length : Nat) : Int))), (11, Bo ((decide (((a.length : Nat) : Int) = 0)) || (!decide (((a.length : Nat) : Int) = ((b.length : Nat) : Int)))))] ?_
    refine tc_ret ?_
    refine tq_block_ret ?_
    refine tq_then_ret ?_
    have hf1 : clashTexts a b = ([], [], 3) := by
      unfold clashTexts; first | (rw [if_pos (by omega)]; done) | (rw [if_neg (by omega)]; have hb_ : b.length - 1 = a.length - 1 := (by omega); first | (have ha_ := lastT_get (a := a) rfl hx1; have hb2_ := lastT_get (a := b) (k := a.length - 1) (by omega) hx2; subst ha_; subst hb2_; rw [if_pos (by assumption)]; done) | (have ha_ := lastT_get (a := a) rfl hx1; have hb2_ := lastT_get (a := b) (k := a.length - 1) (by omega) hx2; subst ha_; subst hb2_; rw [if_neg (by simp_all), hn]; first | (rw [show (i + 1).toNat = kn1 + 1 by omega, tGo_at (by assumption) (by assumption) (by assumption)]; first | (rw [if_pos (by unfold alikeB; simp_all)]; done) | (rw [if_neg (by unfold alikeB; simp_all)]; done)) | (rw [show (i + 1).toNat = 0 by omega]; rfl)))
    refine tq_ret [0, 0, 0] [Sr ([]), Sr ([]), I 3] (bp_rows [] .slnil (Mem.le_refl _) ?_)
    rw [hf1]
    try dsimp only
    exact ⟨rfl, (Nat.le_of_ble_eq_true rfl), (Nat.le_of_ble_eq_true rfl), rfl⟩
  ·
    try simp only [decide_eq_true_eq, decide_eq_false_iff_not, Bool.and_eq_true, Bool.or_eq_true, Bool.and_eq_false_imp, Bool.or_eq_false_iff, Bool.not_eq_true', Bool.not_eq_false', Bool.not_eq_true, Bool.not_eq_false, beq_iff_eq, beq_eq_false_iff_ne, bne_iff_ne, ne_eq, Decidable.not_not, Int.not_lt, Int.not_le] at h1
    refine tc_seq ?_
    have e1 : IntKind.i64.wrap ((((a.length : Nat) : Int)) - 1) = ((a.length - 1 : Nat) : Int) := (IntWalk.i64_in _ (by first | omega | (have hle_ := h_a.le; have hmx_ := h_a.max; omega))).trans (show (((a.length : Nat) : Int)) - 1 = ((a.length - 1 : Nat) : Int) by omega)
    obtain ⟨b1, o1, rfl⟩ := RS.addr h_a (k := a.length - 1) (by first | omega | (have hle_ := h_a.le; have hmx_ := h_a.max; omega))
    obtain ⟨x1, hx1⟩ := getX (l := a) (k := a.length - 1) (by first | omega | (have hle_ := h_a.le; have hmx_ := h_a.max; omega))
    obtain ⟨_, ⟨rfl, w1⟩, hc1⟩ := RS.get h_a hx1
    have e2 : IntKind.i64.wrap ((((a.length : Nat) : Int)) - 1) = ((a.length - 1 : Nat) : Int) := (IntWalk.i64_in _ (by first | omega | (have hle_ := h_a.le; have hmx_ := h_a.max; omega))).trans (show (((a.length : Nat) : Int)) - 1 = ((a.length - 1 : Nat) : Int) by omega)
    obtain ⟨b2, o2, rfl⟩ := RS.addr h_b (k := a.length - 1) (by first | omega | (have hle_ := h_a.le; have hmx_ := h_a.max; omega))
    obtain ⟨x2, hx2⟩ := getX (l := b) (k := a.length - 1) (by first | omega | (have hle_ := h_a.le; have hmx_ := h_a.max; omega))
    obtain ⟨_, ⟨rfl, w2⟩, hc2⟩ := RS.get h_b hx2
    refine tc_draw [] ?_
    refine dr_V [(0, Sl (At b1 o1) a.length c_a), (1, I (((a.length : Nat) : Int))), (2, I (((a.length - 1 : Nat) : Int))), (3, Pt b1 (o1 + (a.length - 1) * 1)), (4, Sr x1), (5, U (markOf x1)), (6, Sl (At b2 o2) b.length c_b), (7, I (((a.length : Nat) : Int))), (8, I (((a.length - 1 : Nat) : Int))), (9, Pt b2 (o2 + (a.length - 1) * 1)), (10, Sr x2), (11, U (markOf x2)), (12, Bo (!decide (markOf x1 = markOf x2))), (13, Bo (!decide (markOf x1 = markOf x2)))] ?_
    refine dr_end [] [(0,0), (1,0), (6,0), (7,0), (12,0), (13,0)] [2, 3, 4, 5, 8, 9, 10, 11] [(0, Sl (At b1 o1) a.length c_a), (1, Sl (At b2 o2) b.length c_b), (4, Sr ([])), (5, Sr ([])), (6, I 0), (7, I (((a.length : Nat) : Int))), (11, Bo ((decide (((a.length : Nat) : Int) = 0)) || (!decide (((a.length : Nat) : Int) = ((b.length : Nat) : Int))))), (20, Bo (!decide (markOf x1 = markOf x2)))] (List.forall_mem_cons.2 ⟨?_, (List.forall_mem_cons.2 ⟨?_, (List.forall_mem_cons.2 ⟨?_, (List.forall_mem_cons.2 ⟨?_, (List.forall_mem_cons.2 ⟨?_, (List.forall_mem_cons.2 ⟨?_, (List.forall_mem_cons.2 ⟨?_, (List.forall_mem_cons.2 ⟨?_, List.forall_mem_nil _⟩)⟩)⟩)⟩)⟩)⟩)⟩)⟩) ?_
    · refine stab_of 2 23 (I (((a.length - 1 : Nat) : Int))) [(22, I (((a.length : Nat) : Int)))] (fun X => ?_)
      exact runL_p1 23 (I (IntKind.i64.wrap ((((a.length : Nat) : Int)) - 1))) (I (((a.length - 1 : Nat) : Int))) (by simp only [e1]) stab_end
    · refine stab_of 3 24 (Pt b1 (o1 + (a.length - 1) * 1)) [(21, Sl (At b1 o1) a.length c_a), (23, I (((a.length - 1 : Nat) : Int)))] (fun X => ?_)
      exact runL_idx (b := b1) (off := o1) (len := a.length) (cap := c_a) (ik := .i64) 24 9 1 (a.length - 1) (by first | omega | (have hle_ := h_a.le; have hmx_ := h_a.max; omega)) stab_end
    · refine stab_of 4 25 (Sr x1) [(24, Pt b1 (o1 + (a.length - 1) * 1))] (fun X => ?_)
      exact runL_ldG 25 9 (cs := [Sr x1]) 0 (Sr x1) hc1 stab_end
    · refine stab_of 5 26 (U (markOf x1)) [(25, Sr x1)] (fun X => ?_)
      exact runL_callV 26 (U (markOf x1)) (markOf_con x1 (le48r' w1) G) stab_end
    · refine stab_of 8 29 (I (((a.length - 1 : Nat) : Int))) [(28, I (((a.length : Nat) : Int)))] (fun X => ?_)
      exact runL_p1 29 (I (IntKind.i64.wrap ((((a.length : Nat) : Int)) - 1))) (I (((a.length - 1 : Nat) : Int))) (by simp only [e2]) stab_end
    · refine stab_of 9 30 (Pt b2 (o2 + (a.length - 1) * 1)) [(27, Sl (At b2 o2) b.length c_b), (29, I (((a.length - 1 : Nat) : Int)))] (fun X => ?_)
      exact runL_idx (b := b2) (off := o2) (len := b.length) (cap := c_b) (ik := .i64) 30 9 1 (a.length - 1) (by first | omega | (have hle_ := h_a.le; have hmx_ := h_a.max; omega)) stab_end
    · refine stab_of 10 31 (Sr x2) [(30, Pt b2 (o2 + (a.length - 1) * 1))] (fun X => ?_)
      exact runL_ldG 31 9 (cs := [Sr x2]) 0 (Sr x2) hc2 stab_end
    · refine stab_of 11 32 (U (markOf x2)) [(31, Sr x2)] (fun X => ?_)
      exact runL_callV 32 (U (markOf x2)) (markOf_con x2 (le48r' w2) G) stab_end
    refine tq_then ?_
    refine tc_cond (!decide (markOf x1 = markOf x2)) (fun h2 => ?_) (fun h2 => ?_)
    ·
      try simp only [decide_eq_true_eq, decide_eq_false_iff_not, Bool.and_eq_true, Bool.or_eq_true, Bool.and_eq_false_imp, Bool.or_eq_false_iff, Bool.not_eq_true', Bool.not_eq_false', Bool.not_eq_true, Bool.not_eq_false, beq_iff_eq, beq_eq_false_iff_ne, bne_iff_ne, ne_eq, Decidable.not_not, Int.not_lt, Int.not_le] at h2
      refine tc_rb [0,0,0] [(0, Sl (At b1 o1) a.length c_a), (1, Sl (At b2 o2) b.length c_b), (4, Sr ([])), (5, Sr ([])), (6, I 8), (7, I (((a.length : Nat) : Int))), (11, Bo ((decide (((a.length : Nat) : Int) = 0)) || (!decide (((a.length : Nat) : Int) = ((b.length : Nat) : Int))))), (20, Bo (!decide (markOf x1 = markOf x2)))] ?_
      refine tc_ret ?_
      refine tq_block_ret ?_
      refine tq_then_ret ?_
      have hf2 : clashTexts a b = ([], [], 8) := by
        unfold clashTexts; first | (rw [if_pos (by omega)]; done) | (rw [if_neg (by omega)]; have hb_ : b.length - 1 = a.length - 1 := (by omega); first | (have ha_ := lastT_get (a := a) rfl hx1; have hb2_ := lastT_get (a := b) (k := a.length - 1) (by omega) hx2; subst ha_; subst hb2_; rw [if_pos (by assumption)]; done) | (have ha_ := lastT_get (a := a) rfl hx1; have hb2_ := lastT_get (a := b) (k := a.length - 1) (by omega) hx2; subst ha_; subst hb2_; rw [if_neg (by simp_all), hn]; first | (rw [show (i + 1).toNat = kn1 + 1 by omega, tGo_at (by assumption) (by assumption) (by assumption)]; first | (rw [if_pos (by unfold alikeB; simp_all)]; done) | (rw [if_neg (by unfold alikeB; simp_all)]; done)) | (rw [show (i + 1).toNat = 0 by omega]; rfl)))
      refine tq_ret [0, 0, 0] [Sr ([]), Sr ([]), I 8] (bp_rows [] .slnil (Mem.le_refl _) ?_)
      rw [hf2]
      try dsimp only
      exact ⟨rfl, (Nat.le_of_ble_eq_true rfl), (Nat.le_of_ble_eq_true rfl), rfl⟩
    ·
      try simp only [decide_eq_true_eq, decide_eq_false_iff_not, Bool.and_eq_true, Bool.or_eq_true, Bool.and_eq_false_imp, Bool.or_eq_false_iff, Bool.not_eq_true', Bool.not_eq_false', Bool.not_eq_true, Bool.not_eq_false, beq_iff_eq, beq_eq_false_iff_ne, bne_iff_ne, ne_eq, Decidable.not_not, Int.not_lt, Int.not_le] at h2
      refine tc_skip ?_
      refine tq_block ?_
      refine tq_then ?_
      refine tc_seq ?_
      refine tc_rb [0,0,0] [(0, Sl (At b1 o1) a.length c_a), (1, Sl (At b2 o2) b.length c_b), (4, Sr ([])), (5, Sr ([])), (6, I 0), (7, I (((a.length : Nat) : Int))), (8, I (IntKind.i64.wrap ((((a.length : Nat) : Int)) - 1))), (11, Bo ((decide (((a.length : Nat) : Int) = 0)) || (!decide (((a.length : Nat) : Int) = ((b.length : Nat) : Int))))), (20, Bo (!decide (markOf x1 = markOf x2)))] ?_
      have e3 : IntKind.i64.wrap ((((a.length : Nat) : Int)) - 1) = (((a.length : Nat) : Int)) - 1 := IntWalk.i64_in _ (by first | omega | (have hle_ := h_a.le; have hmx_ := h_a.max; omega))
      refine tc_eq (fr' := [(0, Sl (At b1 o1) a.length c_a), (1, Sl (At b2 o2) b.length c_b), (4, Sr ([])), (5, Sr ([])), (6, I 0), (7, I (((a.length : Nat) : Int))), (8, I ((((a.length : Nat) : Int)) - 1)), (11, Bo ((decide (((a.length : Nat) : Int) = 0)) || (!decide (((a.length : Nat) : Int) = ((b.length : Nat) : Int))))), (20, Bo (!decide (markOf x1 = markOf x2)))]) (L' := []) (by simp only [e3]) (by rfl) ?_
      clear e3
      refine tc_block ?_
      have hlm_h_a : a.length ≤ 9223372036854775807 := Nat.le_trans (h_a).le (h_a).max
      have hlm_h_b : b.length ≤ 9223372036854775807 := Nat.le_trans (h_b).le (h_b).max
      refine tc_loop (σ := Int) (fun q_ => (-1 ≤ q_ ∧ q_ < a.length) ∧ (tGo a b a.length = tGo a b (q_ + 1).toNat)) (fun q_ => [(0, Sl (At b1 o1) a.length c_a), (1, Sl (At b2 o2) b.length c_b), (7, I (((a.length : Nat) : Int))), (8, I q_), (11, Bo ((decide (((a.length : Nat) : Int) = 0)) || (!decide (((a.length : Nat) : Int) = ((b.length : Nat) : Int))))), (20, Bo (!decide (markOf x1 = markOf x2)))]) (fun q_ => G) (fun q_ => []) (fun q_ => (q_ + 1).toNat) ((((a.length : Nat) : Int)) - 1) ⟨(by (try dsimp only); omega), (by (try dsimp only); congr 1; omega)⟩ (fun q_ hs => ?_)
      revert hs; revert q_; intro i hs
      obtain ⟨hi, hn⟩ := hs
      refine tc_eq (fr' := [(0, Sl (At b1 o1) a.length c_a), (1, Sl (At b2 o2) b.length c_b), (7, I (((a.length : Nat) : Int))), (8, I i), (11, Bo ((decide (((a.length : Nat) : Int) = 0)) || (!decide (((a.length : Nat) : Int) = ((b.length : Nat) : Int))))), (20, Bo (!decide (markOf x1 = markOf x2)))]) (L' := []) rfl rfl ?_
      refine tc_seq ?_
      refine tc_rb [0,0] [(0, Sl (At b1 o1) a.length c_a), (1, Sl (At b2 o2) b.length c_b), (7, I (((a.length : Nat) : Int))), (8, I i), (11, Bo ((decide (((a.length : Nat) : Int) = 0)) || (!decide (((a.length : Nat) : Int) = ((b.length : Nat) : Int))))), (20, Bo (!decide (markOf x1 = markOf x2))), (37, Bo (decide (i ≥ 0)))] ?_
      refine tc_cond (decide (i ≥ 0)) (fun h3 => ?_) (fun h3 => ?_)
      ·
        try simp only [decide_eq_true_eq, decide_eq_false_iff_not, Bool.and_eq_true, Bool.or_eq_true, Bool.and_eq_false_imp, Bool.or_eq_false_iff, Bool.not_eq_true', Bool.not_eq_false', Bool.not_eq_true, Bool.not_eq_false, beq_iff_eq, beq_eq_false_iff_ne, bne_iff_ne, ne_eq, Decidable.not_not, Int.not_lt, Int.not_le] at h3
        refine tc_skip ?_
        refine tq_then ?_
        refine tc_seq ?_
        refine tc_block ?_
        refine tc_seq ?_
        obtain ⟨kn1, hkn1⟩ : ∃ k_ : Nat, i = (k_ : Int) := ⟨(i).toNat, by first | omega | (have hle_ := h_a.le; have hmx_ := h_a.max; omega)⟩
        have e4 : i = (kn1 : Int) := hkn1
        refine tc_eq (fr' := [(0, Sl (At b1 o1) a.length c_a), (1, Sl (At b2 o2) b.length c_b), (7, I (((a.length : Nat) : Int))), (8, I ((kn1 : Int))), (11, Bo ((decide (((a.length : Nat) : Int) = 0)) || (!decide (((a.length : Nat) : Int) = ((b.length : Nat) : Int))))), (20, Bo (!decide (markOf x1 = markOf x2))), (37, Bo (decide (i ≥ 0)))]) (L' := []) (by first | rfl | simp only [e4]) (by first | rfl | simp only [e4]) ?_
        refine tc_seq ?_
        obtain ⟨x3, hx3⟩ := getX (l := a) (k := kn1) (by first | omega | (have hle_ := h_a.le; have hmx_ := h_a.max; omega))
        obtain ⟨_, ⟨rfl, w3⟩, hc3⟩ := RS.get h_a hx3
        obtain ⟨x4, hx4⟩ := getX (l := b) (k := kn1) (by first | omega | (have hle_ := h_a.le; have hmx_ := h_a.max; omega))
        obtain ⟨_, ⟨rfl, w4⟩, hc4⟩ := RS.get h_b hx4
        refine tc_draw [] ?_
        refine dr_V [(0, Sl (At b1 o1) a.length c_a), (1, I ((kn1 : Int))), (2, Pt b1 (o1 + kn1 * 1)), (3, Sr x3), (4, Sl (At b2 o2) b.length c_b), (5, I ((kn1 : Int))), (6, Pt b2 (o2 + kn1 * 1)), (7, Sr x4), (8, Bo (((B x3).toList == (B x4).toList)))] ?_
        refine dr_end [] [(0,0), (1,0), (4,0), (5,0), (8,0)] [2, 3, 6, 7] [(0, Sl (At b1 o1) a.length c_a), (1, Sl (At b2 o2) b.length c_b), (7, I (((a.length : Nat) : Int))), (8, I ((kn1 : Int))), (11, Bo ((decide (((a.length : Nat) : Int) = 0)) || (!decide (((a.length : Nat) : Int) = ((b.length : Nat) : Int))))), (20, Bo (!decide (markOf x1 = markOf x2))), (37, Bo (decide (i ≥ 0))), (48, Bo (((B x3).toList == (B x4).toList)))] (List.forall_mem_cons.2 ⟨?_, (List.forall_mem_cons.2 ⟨?_, (List.forall_mem_cons.2 ⟨?_, (List.forall_mem_cons.2 ⟨?_, List.forall_mem_nil _⟩)⟩)⟩)⟩) ?_
        · refine stab_of 2 42 (Pt b1 (o1 + kn1 * 1)) [(40, Sl (At b1 o1) a.length c_a), (41, I ((kn1 : Int)))] (fun X => ?_)
          exact runL_idx (b := b1) (off := o1) (len := a.length) (cap := c_a) (ik := .i64) 42 9 1 kn1 (by first | omega | (have hle_ := h_a.le; have hmx_ := h_a.max; omega)) stab_end
        · refine stab_of 3 43 (Sr x3) [(42, Pt b1 (o1 + kn1 * 1))] (fun X => ?_)
          exact runL_ldG 43 9 (cs := [Sr x3]) 0 (Sr x3) hc3 stab_end
        · refine stab_of 6 46 (Pt b2 (o2 + kn1 * 1)) [(44, Sl (At b2 o2) b.length c_b), (45, I ((kn1 : Int)))] (fun X => ?_)
          exact runL_idx (b := b2) (off := o2) (len := b.length) (cap := c_b) (ik := .i64) 46 9 1 kn1 (by first | omega | (have hle_ := h_a.le; have hmx_ := h_a.max; omega)) stab_end
        · refine stab_of 7 47 (Sr x4) [(46, Pt b2 (o2 + kn1 * 1))] (fun X => ?_)
          exact runL_ldG 47 9 (cs := [Sr x4]) 0 (Sr x4) hc4 stab_end
        refine tq_eq (fr' := [(0, Sl (At b1 o1) a.length c_a), (1, Sl (At b2 o2) b.length c_b), (7, I (((a.length : Nat) : Int))), (8, I ((kn1 : Int))), (11, Bo ((decide (((a.length : Nat) : Int) = 0)) || (!decide (((a.length : Nat) : Int) = ((b.length : Nat) : Int))))), (20, Bo (!decide (markOf x1 = markOf x2))), (37, Bo (decide (i ≥ 0))), (48, Bo ((x3 == x4)))]) (L' := []) (by simp only [B_toList]) (by rfl) ?_
        refine tq_then ?_
        refine tc_cond ((x3 == x4)) (fun h4 => ?_) (fun h4 => ?_)
        ·
          try simp only [decide_eq_true_eq, decide_eq_false_iff_not, Bool.and_eq_true, Bool.or_eq_true, Bool.and_eq_false_imp, Bool.or_eq_false_iff, Bool.not_eq_true', Bool.not_eq_false', Bool.not_eq_true, Bool.not_eq_false, beq_iff_eq, beq_eq_false_iff_ne, bne_iff_ne, ne_eq, Decidable.not_not, Int.not_lt, Int.not_le] at h4
          refine tc_exit ?_
          refine tq_then_exit ?_
          refine tq_block_here ?_
          refine tq_then ?_
          refine tc_region ?_
          refine runL_b [0,0,0] [(0, Sl (At b1 o1) a.length c_a), (1, Sl (At b2 o2) b.length c_b), (7, I (((a.length : Nat) : Int))), (8, I (IntKind.i64.wrap (((kn1 : Int)) - 1))), (11, Bo ((decide (((a.length : Nat) : Int) = 0)) || (!decide (((a.length : Nat) : Int) = ((b.length : Nat) : Int))))), (20, Bo (!decide (markOf x1 = markOf x2))), (37, Bo (decide (i ≥ 0))), (48, Bo ((x3 == x4)))] ?_
          have e5 : IntKind.i64.wrap (((kn1 : Int)) - 1) = ((kn1 : Int)) - 1 := IntWalk.i64_in _ (by first | omega | (have hle_ := h_a.le; have hmx_ := h_a.max; omega))
          refine runL_eq (fr' := [(0, Sl (At b1 o1) a.length c_a), (1, Sl (At b2 o2) b.length c_b), (7, I (((a.length : Nat) : Int))), (8, I (((kn1 : Int)) - 1)), (11, Bo ((decide (((a.length : Nat) : Int) = 0)) || (!decide (((a.length : Nat) : Int) = ((b.length : Nat) : Int))))), (20, Bo (!decide (markOf x1 = markOf x2))), (37, Bo (decide (i ≥ 0))), (48, Bo ((x3 == x4)))]) (L' := []) (by simp only [e5]) (by rfl) ?_
          clear e5
          refine runL_nil ?_
          exact tq_rnd (((kn1 : Int)) - 1) ⟨(by (try dsimp only); omega), (by (try dsimp only); rw [hn, show (i + 1).toNat = kn1 + 1 by omega, tGo_skip (by assumption) (by assumption) (by assumption)]; congr 1; omega)⟩ (by (try dsimp only); omega)
        ·
          try simp only [decide_eq_true_eq, decide_eq_false_iff_not, Bool.and_eq_true, Bool.or_eq_true, Bool.and_eq_false_imp, Bool.or_eq_false_iff, Bool.not_eq_true', Bool.not_eq_false', Bool.not_eq_true, Bool.not_eq_false, beq_iff_eq, beq_eq_false_iff_ne, bne_iff_ne, ne_eq, Decidable.not_not, Int.not_lt, Int.not_le] at h4
          refine tc_skip ?_
          refine tq_then ?_
          refine tc_seq ?_
          refine tc_seq ?_
          refine tc_draw [] ?_
          refine dr_V [(0, Sl (At b1 o1) a.length c_a), (1, I ((kn1 : Int))), (2, Pt b1 (o1 + kn1 * 1)), (3, Sr x3), (4, Sl (At b2 o2) b.length c_b), (5, I ((kn1 : Int))), (6, Pt b2 (o2 + kn1 * 1)), (7, Sr x4), (8, Bo (!(x3 == x4) && decide (markOf x3 = markOf x4)))] ?_
          refine dr_end [] [(0,0), (1,0), (4,0), (5,0)] [2, 3, 6, 7, 8] [(0, Sl (At b1 o1) a.length c_a), (1, Sl (At b2 o2) b.length c_b), (7, I (((a.length : Nat) : Int))), (8, I ((kn1 : Int))), (11, Bo ((decide (((a.length : Nat) : Int) = 0)) || (!decide (((a.length : Nat) : Int) = ((b.length : Nat) : Int))))), (20, Bo (!decide (markOf x1 = markOf x2))), (37, Bo (decide (i ≥ 0))), (48, Bo ((x3 == x4))), (57, Bo (!(x3 == x4) && decide (markOf x3 = markOf x4)))] (List.forall_mem_cons.2 ⟨?_, (List.forall_mem_cons.2 ⟨?_, (List.forall_mem_cons.2 ⟨?_, (List.forall_mem_cons.2 ⟨?_, (List.forall_mem_cons.2 ⟨?_, List.forall_mem_nil _⟩)⟩)⟩)⟩)⟩) ?_
          · refine stab_of 2 51 (Pt b1 (o1 + kn1 * 1)) [(49, Sl (At b1 o1) a.length c_a), (50, I ((kn1 : Int)))] (fun X => ?_)
            exact runL_idx (b := b1) (off := o1) (len := a.length) (cap := c_a) (ik := .i64) 51 9 1 kn1 (by first | omega | (have hle_ := h_a.le; have hmx_ := h_a.max; omega)) stab_end
          · refine stab_of 3 52 (Sr x3) [(51, Pt b1 (o1 + kn1 * 1))] (fun X => ?_)
            exact runL_ldG 52 9 (cs := [Sr x3]) 0 (Sr x3) hc3 stab_end
          · refine stab_of 6 55 (Pt b2 (o2 + kn1 * 1)) [(53, Sl (At b2 o2) b.length c_b), (54, I ((kn1 : Int)))] (fun X => ?_)
            exact runL_idx (b := b2) (off := o2) (len := b.length) (cap := c_b) (ik := .i64) 55 9 1 kn1 (by first | omega | (have hle_ := h_a.le; have hmx_ := h_a.max; omega)) stab_end
          · refine stab_of 7 56 (Sr x4) [(55, Pt b2 (o2 + kn1 * 1))] (fun X => ?_)
            exact runL_ldG 56 9 (cs := [Sr x4]) 0 (Sr x4) hc4 stab_end
          · refine stab_of 8 57 (Bo (!(x3 == x4) && decide (markOf x3 = markOf x4))) [(52, Sr x3), (56, Sr x4)] (fun X => ?_)
            exact runL_callV 57 (Bo (!(x3 == x4) && decide (markOf x3 = markOf x4))) (markAlike_con x3 x4 (le48r' w3) (le48r' w4) G) stab_end
          refine tq_then ?_
          refine tc_cond (!(x3 == x4) && decide (markOf x3 = markOf x4)) (fun h5 => ?_) (fun h5 => ?_)
          ·
            try simp only [decide_eq_true_eq, decide_eq_false_iff_not, Bool.and_eq_true, Bool.or_eq_true, Bool.and_eq_false_imp, Bool.or_eq_false_iff, Bool.not_eq_true', Bool.not_eq_false', Bool.not_eq_true, Bool.not_eq_false, beq_iff_eq, beq_eq_false_iff_ne, bne_iff_ne, ne_eq, Decidable.not_not, Int.not_lt, Int.not_le] at h5
            refine tc_seq ?_
            refine tc_draw [] ?_
            refine dr_V [(0, Sl (At b1 o1) a.length c_a), (1, I ((kn1 : Int))), (2, Pt b1 (o1 + kn1 * 1)), (3, Sr x3), (4, Sl (At b2 o2) b.length c_b), (5, I ((kn1 : Int))), (6, Pt b2 (o2 + kn1 * 1)), (7, Sr x4), (8, Sr x3), (9, Sr x4), (10, I 0)] ?_
            refine dr_end [] [(0,0), (1,0), (4,0), (5,0), (8,0), (9,0), (10,0)] [2, 3, 6, 7] [(0, Sl (At b1 o1) a.length c_a), (1, Sl (At b2 o2) b.length c_b), (4, Sr x3), (5, Sr x4), (6, I 0), (7, I (((a.length : Nat) : Int))), (8, I ((kn1 : Int))), (11, Bo ((decide (((a.length : Nat) : Int) = 0)) || (!decide (((a.length : Nat) : Int) = ((b.length : Nat) : Int))))), (20, Bo (!decide (markOf x1 = markOf x2))), (37, Bo (decide (i ≥ 0))), (48, Bo ((x3 == x4))), (57, Bo (!(x3 == x4) && decide (markOf x3 = markOf x4)))] (List.forall_mem_cons.2 ⟨?_, (List.forall_mem_cons.2 ⟨?_, (List.forall_mem_cons.2 ⟨?_, (List.forall_mem_cons.2 ⟨?_, List.forall_mem_nil _⟩)⟩)⟩)⟩) ?_
            · refine stab_of 2 60 (Pt b1 (o1 + kn1 * 1)) [(58, Sl (At b1 o1) a.length c_a), (59, I ((kn1 : Int)))] (fun X => ?_)
              exact runL_idx (b := b1) (off := o1) (len := a.length) (cap := c_a) (ik := .i64) 60 9 1 kn1 (by first | omega | (have hle_ := h_a.le; have hmx_ := h_a.max; omega)) stab_end
            · refine stab_of 3 61 (Sr x3) [(60, Pt b1 (o1 + kn1 * 1))] (fun X => ?_)
              exact runL_ldG 61 9 (cs := [Sr x3]) 0 (Sr x3) hc3 stab_end
            · refine stab_of 6 64 (Pt b2 (o2 + kn1 * 1)) [(62, Sl (At b2 o2) b.length c_b), (63, I ((kn1 : Int)))] (fun X => ?_)
              exact runL_idx (b := b2) (off := o2) (len := b.length) (cap := c_b) (ik := .i64) 64 9 1 kn1 (by first | omega | (have hle_ := h_a.le; have hmx_ := h_a.max; omega)) stab_end
            · refine stab_of 7 65 (Sr x4) [(64, Pt b2 (o2 + kn1 * 1))] (fun X => ?_)
              exact runL_ldG 65 9 (cs := [Sr x4]) 0 (Sr x4) hc4 stab_end
            refine tq_then ?_
            refine tc_ret ?_
            refine tq_then_ret ?_
            refine tq_block_ret ?_
            refine tq_then_ret ?_
            refine tq_rnd_ret ?_
            refine tq_block_ret ?_
            refine tq_then_ret ?_
            have hf3 : clashTexts a b = (x3, x4, 0) := by
              unfold clashTexts; first | (rw [if_pos (by omega)]; done) | (rw [if_neg (by omega)]; have hb_ : b.length - 1 = a.length - 1 := (by omega); first | (have ha_ := lastT_get (a := a) rfl hx1; have hb2_ := lastT_get (a := b) (k := a.length - 1) (by omega) hx2; subst ha_; subst hb2_; rw [if_pos (by assumption)]; done) | (have ha_ := lastT_get (a := a) rfl hx1; have hb2_ := lastT_get (a := b) (k := a.length - 1) (by omega) hx2; subst ha_; subst hb2_; rw [if_neg (by simp_all), hn]; first | (rw [show (i + 1).toNat = kn1 + 1 by omega, tGo_at (by assumption) (by assumption) (by assumption)]; first | (rw [if_pos (by unfold alikeB; simp_all)]; done) | (rw [if_neg (by unfold alikeB; simp_all)]; done)) | (rw [show (i + 1).toNat = 0 by omega]; rfl)))
            refine tq_ret [0, 0, 0] [Sr x3, Sr x4, I 0] (bp_rows [] .slnil (Mem.le_refl _) ?_)
            rw [hf3]
            try dsimp only
            exact ⟨rfl, w3, w4, rfl⟩
          ·
            try simp only [decide_eq_true_eq, decide_eq_false_iff_not, Bool.and_eq_true, Bool.or_eq_true, Bool.and_eq_false_imp, Bool.or_eq_false_iff, Bool.not_eq_true', Bool.not_eq_false', Bool.not_eq_true, Bool.not_eq_false, beq_iff_eq, beq_eq_false_iff_ne, bne_iff_ne, ne_eq, Decidable.not_not, Int.not_lt, Int.not_le] at h5
            refine tc_skip ?_
            refine tq_then ?_
            refine tc_exit ?_
            refine tq_block_out rfl ?_
            refine tq_then_exit ?_
            refine tq_rnd_exit ?_
            refine tq_block_here ?_
            refine tq_then ?_
            refine tc_rb [0,0,0] [(0, Sl (At b1 o1) a.length c_a), (1, Sl (At b2 o2) b.length c_b), (4, Sr ([])), (5, Sr ([])), (6, I 5), (7, I (((a.length : Nat) : Int))), (8, I ((kn1 : Int))), (11, Bo ((decide (((a.length : Nat) : Int) = 0)) || (!decide (((a.length : Nat) : Int) = ((b.length : Nat) : Int))))), (20, Bo (!decide (markOf x1 = markOf x2))), (37, Bo (decide (i ≥ 0))), (48, Bo ((x3 == x4))), (57, Bo (!(x3 == x4) && decide (markOf x3 = markOf x4)))] ?_
            refine tc_ret ?_
            have hf4 : clashTexts a b = ([], [], 5) := by
              unfold clashTexts; first | (rw [if_pos (by omega)]; done) | (rw [if_neg (by omega)]; have hb_ : b.length - 1 = a.length - 1 := (by omega); first | (have ha_ := lastT_get (a := a) rfl hx1; have hb2_ := lastT_get (a := b) (k := a.length - 1) (by omega) hx2; subst ha_; subst hb2_; rw [if_pos (by assumption)]; done) | (have ha_ := lastT_get (a := a) rfl hx1; have hb2_ := lastT_get (a := b) (k := a.length - 1) (by omega) hx2; subst ha_; subst hb2_; rw [if_neg (by simp_all), hn]; first | (rw [show (i + 1).toNat = kn1 + 1 by omega, tGo_at (by assumption) (by assumption) (by assumption)]; first | (rw [if_pos (by unfold alikeB; simp_all)]; done) | (rw [if_neg (by unfold alikeB; simp_all)]; done)) | (rw [show (i + 1).toNat = 0 by omega]; rfl)))
            refine tq_ret [0, 0, 0] [Sr ([]), Sr ([]), I 5] (bp_rows [] .slnil (Mem.le_refl _) ?_)
            rw [hf4]
            try dsimp only
            exact ⟨rfl, (Nat.le_of_ble_eq_true rfl), (Nat.le_of_ble_eq_true rfl), rfl⟩
      ·
        try simp only [decide_eq_true_eq, decide_eq_false_iff_not, Bool.and_eq_true, Bool.or_eq_true, Bool.and_eq_false_imp, Bool.or_eq_false_iff, Bool.not_eq_true', Bool.not_eq_false', Bool.not_eq_true, Bool.not_eq_false, beq_iff_eq, beq_eq_false_iff_ne, bne_iff_ne, ne_eq, Decidable.not_not, Int.not_lt, Int.not_le] at h3
        refine tc_exit ?_
        refine tq_then_exit ?_
        refine tq_rnd_exit ?_
        refine tq_block_here ?_
        refine tq_then ?_
        refine tc_rb [0,0,0] [(0, Sl (At b1 o1) a.length c_a), (1, Sl (At b2 o2) b.length c_b), (4, Sr ([])), (5, Sr ([])), (6, I 5), (7, I (((a.length : Nat) : Int))), (8, I i), (11, Bo ((decide (((a.length : Nat) : Int) = 0)) || (!decide (((a.length : Nat) : Int) = ((b.length : Nat) : Int))))), (20, Bo (!decide (markOf x1 = markOf x2))), (37, Bo (decide (i ≥ 0)))] ?_
        refine tc_ret ?_
        have hf5 : clashTexts a b = ([], [], 5) := by
          unfold clashTexts; first | (rw [if_pos (by omega)]; done) | (rw [if_neg (by omega)]; have hb_ : b.length - 1 = a.length - 1 := (by omega); first | (have ha_ := lastT_get (a := a) rfl hx1; have hb2_ := lastT_get (a := b) (k := a.length - 1) (by omega) hx2; subst ha_; subst hb2_; rw [if_pos (by assumption)]; done) | (have ha_ := lastT_get (a := a) rfl hx1; have hb2_ := lastT_get (a := b) (k := a.length - 1) (by omega) hx2; subst ha_; subst hb2_; rw [if_neg (by simp_all), hn]; first | (rw [show (i + 1).toNat = kn1 + 1 by omega, tGo_at (by assumption) (by assumption) (by assumption)]; first | (rw [if_pos (by unfold alikeB; simp_all)]; done) | (rw [if_neg (by unfold alikeB; simp_all)]; done)) | (rw [show (i + 1).toNat = 0 by omega]; rfl)))
        refine tq_ret [0, 0, 0] [Sr ([]), Sr ([]), I 5] (bp_rows [] .slnil (Mem.le_refl _) ?_)
        rw [hf5]
        try dsimp only
        exact ⟨rfl, (Nat.le_of_ble_eq_true rfl), (Nat.le_of_ble_eq_true rfl), rfl⟩

theorem clashProofs_con (G : Mem) (vs_p : List Value) (p : ProofD) (h_p : EProof.R G vs_p p) (vs_q : List Value) (q : ProofD) (h_q : EProof.R G vs_q q)  : Con Tryz.prog 54 #[.agg vs_p.toArray, .agg vs_q.toArray] G [] (fun u G' L' => u = .tuple #[Sr ((clashProofs p q).1), Sr ((clashProofs p q).2.1), I ((clashProofs p q).2.2)] ∧ (((clashProofs p q).1).length ≤ 140737488351232) ∧ (((clashProofs p q).2.1).length ≤ 140737488351232) ∧ L' = []) := by
  obtain ⟨a1, c1, a2, c2, rfl, w1, hs1, hs2⟩ := h_p
  obtain ⟨a3, c3, a4, c4, rfl, w2, hs3, hs4⟩ := h_q
  refine con_of Tryz.func54 37 [(0, .agg #[Sr p.name, Sl a1 p.entries.length c1, Sl a2 p.sides.length c2]), (1, .agg #[Sr q.name, Sl a3 q.entries.length c3, Sl a4 q.sides.length c4])] rfl (fun w0 G0 => ?_)
  refine tc_seq ?_
  refine tc_region ?_
  refine runL_box 2 #[Sr p.name, Sl a1 p.entries.length c1, Sl a2 p.sides.length c2] 36 (fun b1 => ?_)
  refine runL_box 3 #[Sr q.name, Sl a3 q.entries.length c3, Sl a4 q.sides.length c4] 36 (fun b2 => ?_)
  refine runL_b [0,0,0] [(2, Pt b1 0), (3, Pt b2 0), (4, Sr ([])), (5, Sr ([])), (6, I 0)] ?_
  refine runL_nil ?_
  refine tq_then ?_
  refine tc_seq ?_
  refine tc_region ?_
  refine runL_b [4] [(2, Pt b1 0), (3, Pt b2 0), (4, Sr ([])), (5, Sr ([])), (6, I 0), (11, .agg #[Sr p.name, Sl a1 p.entries.length c1, Sl a2 p.sides.length c2])] ?_
  refine runL_callR 12 (proofSaid_con G [Sr p.name, Sl a1 p.entries.length c1, Sl a2 p.sides.length c2] p (⟨a1, c1, a2, c2, rfl, w1, hs1, hs2⟩)) (fun v G1 L1 hl1 hp => ?_)
  obtain ⟨a5, c5, rfl, hs5, rfl⟩ := hp
  refine runL_b [0,0,0,0,0] [(2, Pt b1 0), (3, Pt b2 0), (4, Sr ([])), (5, Sr ([])), (6, I 0), (7, Sl a5 (((proofSaid p).1).length) c5), (8, I ((proofSaid p).2))] ?_
  refine runL_nil ?_
  refine tq_then ?_
  refine tc_seq ?_
  refine tc_rb [0,0] [(2, Pt b1 0), (3, Pt b2 0), (4, Sr ([])), (5, Sr ([])), (6, I 0), (7, Sl a5 (((proofSaid p).1).length) c5), (8, I ((proofSaid p).2)), (16, Bo (!decide ((proofSaid p).2 = 0)))] ?_
  refine tc_cond (!decide ((proofSaid p).2 = 0)) (fun h1 => ?_) (fun h1 => ?_)
  ·
    try simp only [decide_eq_true_eq, decide_eq_false_iff_not, Bool.and_eq_true, Bool.or_eq_true, Bool.and_eq_false_imp, Bool.or_eq_false_iff, Bool.not_eq_true', Bool.not_eq_false', Bool.not_eq_true, Bool.not_eq_false, beq_iff_eq, beq_eq_false_iff_ne, bne_iff_ne, ne_eq, Decidable.not_not, Int.not_lt, Int.not_le] at h1
    refine tc_rb [0,0,0,0] [(2, Pt b1 0), (3, Pt b2 0), (4, Sr ([])), (5, Sr ([])), (6, I ((proofSaid p).2)), (7, Sl a5 (((proofSaid p).1).length) c5), (8, I ((proofSaid p).2)), (16, Bo (!decide ((proofSaid p).2 = 0)))] ?_
    refine tc_ret ?_
    refine tq_then_ret ?_
    have hf1 : clashProofs p q = ([], [], (proofSaid p).2) := by
      unfold clashProofs; simp_all
    refine tq_ret [0, 0, 0] [Sr ([]), Sr ([]), I ((proofSaid p).2)] (bp_rows [] (.cons _ (.cons _ .slnil)) hl1 ?_)
    rw [hf1]
    try dsimp only
    exact ⟨rfl, (Nat.le_of_ble_eq_true rfl), (Nat.le_of_ble_eq_true rfl), rfl⟩
  ·
    try simp only [decide_eq_true_eq, decide_eq_false_iff_not, Bool.and_eq_true, Bool.or_eq_true, Bool.and_eq_false_imp, Bool.or_eq_false_iff, Bool.not_eq_true', Bool.not_eq_false', Bool.not_eq_true, Bool.not_eq_false, beq_iff_eq, beq_eq_false_iff_ne, bne_iff_ne, ne_eq, Decidable.not_not, Int.not_lt, Int.not_le] at h1
    refine tc_skip ?_
    refine tq_then ?_
    refine tc_seq ?_
    refine tc_region ?_
    refine runL_b [2] [(2, Pt b1 0), (3, Pt b2 0), (4, Sr ([])), (5, Sr ([])), (6, I 0), (7, Sl a5 (((proofSaid p).1).length) c5), (8, I ((proofSaid p).2)), (16, Bo (!decide ((proofSaid p).2 = 0))), (19, .agg #[Sr q.name, Sl a3 q.entries.length c3, Sl a4 q.sides.length c4])] ?_
    refine runL_callR 20 (proofSaid_con G1 [Sr q.name, Sl a3 q.entries.length c3, Sl a4 q.sides.length c4] q (⟨a3, c3, a4, c4, rfl, w2, (hs3.mono hl1), (hs4.mono hl1)⟩)) (fun v G2 L1 hl2 hp => ?_)
    obtain ⟨a6, c6, rfl, hs6, rfl⟩ := hp
    refine runL_b [0,0,0,0,0] [(2, Pt b1 0), (3, Pt b2 0), (4, Sr ([])), (5, Sr ([])), (6, I 0), (7, Sl a5 (((proofSaid p).1).length) c5), (8, I ((proofSaid q).2)), (9, Sl a6 (((proofSaid q).1).length) c6), (16, Bo (!decide ((proofSaid p).2 = 0)))] ?_
    refine runL_nil ?_
    refine tq_then ?_
    refine tc_seq ?_
    refine tc_rb [0,0] [(2, Pt b1 0), (3, Pt b2 0), (4, Sr ([])), (5, Sr ([])), (6, I 0), (7, Sl a5 (((proofSaid p).1).length) c5), (8, I ((proofSaid q).2)), (9, Sl a6 (((proofSaid q).1).length) c6), (16, Bo (!decide ((proofSaid p).2 = 0))), (24, Bo (!decide ((proofSaid q).2 = 0)))] ?_
    refine tc_cond (!decide ((proofSaid q).2 = 0)) (fun h2 => ?_) (fun h2 => ?_)
    ·
      try simp only [decide_eq_true_eq, decide_eq_false_iff_not, Bool.and_eq_true, Bool.or_eq_true, Bool.and_eq_false_imp, Bool.or_eq_false_iff, Bool.not_eq_true', Bool.not_eq_false', Bool.not_eq_true, Bool.not_eq_false, beq_iff_eq, beq_eq_false_iff_ne, bne_iff_ne, ne_eq, Decidable.not_not, Int.not_lt, Int.not_le] at h2
      refine tc_rb [0,0,0,0] [(2, Pt b1 0), (3, Pt b2 0), (4, Sr ([])), (5, Sr ([])), (6, I ((proofSaid q).2)), (7, Sl a5 (((proofSaid p).1).length) c5), (8, I ((proofSaid q).2)), (9, Sl a6 (((proofSaid q).1).length) c6), (16, Bo (!decide ((proofSaid p).2 = 0))), (24, Bo (!decide ((proofSaid q).2 = 0)))] ?_
      refine tc_ret ?_
      refine tq_then_ret ?_
      have hf2 : clashProofs p q = ([], [], (proofSaid q).2) := by
        unfold clashProofs; simp_all
      refine tq_ret [0, 0, 0] [Sr ([]), Sr ([]), I ((proofSaid q).2)] (bp_rows [] (.cons _ (.cons _ .slnil)) (Mem.le_trans hl1 hl2) ?_)
      rw [hf2]
      try dsimp only
      exact ⟨rfl, (Nat.le_of_ble_eq_true rfl), (Nat.le_of_ble_eq_true rfl), rfl⟩
    ·
      try simp only [decide_eq_true_eq, decide_eq_false_iff_not, Bool.and_eq_true, Bool.or_eq_true, Bool.and_eq_false_imp, Bool.or_eq_false_iff, Bool.not_eq_true', Bool.not_eq_false', Bool.not_eq_true, Bool.not_eq_false, beq_iff_eq, beq_eq_false_iff_ne, bne_iff_ne, ne_eq, Decidable.not_not, Int.not_lt, Int.not_le] at h2
      refine tc_skip ?_
      refine tq_then ?_
      refine tc_seq ?_
      refine tc_rb [0,4,0,2,0] [(2, Pt b1 0), (3, Pt b2 0), (4, Sr ([])), (5, Sr ([])), (6, I 0), (7, Sl a5 (((proofSaid p).1).length) c5), (8, I ((proofSaid q).2)), (9, Sl a6 (((proofSaid q).1).length) c6), (16, Bo (!decide ((proofSaid p).2 = 0))), (24, Bo (!decide ((proofSaid q).2 = 0))), (30, Bo (!((B p.name).toList == (B q.name).toList)))] ?_
      refine tc_eq (fr' := [(2, Pt b1 0), (3, Pt b2 0), (4, Sr ([])), (5, Sr ([])), (6, I 0), (7, Sl a5 (((proofSaid p).1).length) c5), (8, I ((proofSaid q).2)), (9, Sl a6 (((proofSaid q).1).length) c6), (16, Bo (!decide ((proofSaid p).2 = 0))), (24, Bo (!decide ((proofSaid q).2 = 0))), (30, Bo (!(p.name == q.name)))]) (L' := [[Sg b2 0 [Sr q.name, Sl a3 q.entries.length c3, Sl a4 q.sides.length c4]], [Sg b1 0 [Sr p.name, Sl a1 p.entries.length c1, Sl a2 p.sides.length c2]]]) (by simp only [B_toList]) (by rfl) ?_
      refine tc_cond (!(p.name == q.name)) (fun h3 => ?_) (fun h3 => ?_)
      ·
        try simp only [decide_eq_true_eq, decide_eq_false_iff_not, Bool.and_eq_true, Bool.or_eq_true, Bool.and_eq_false_imp, Bool.or_eq_false_iff, Bool.not_eq_true', Bool.not_eq_false', Bool.not_eq_true, Bool.not_eq_false, beq_iff_eq, beq_eq_false_iff_ne, bne_iff_ne, ne_eq, Decidable.not_not, Int.not_lt, Int.not_le] at h3
        refine tc_rb [0,0,0] [(2, Pt b1 0), (3, Pt b2 0), (4, Sr ([])), (5, Sr ([])), (6, I 3), (7, Sl a5 (((proofSaid p).1).length) c5), (8, I ((proofSaid q).2)), (9, Sl a6 (((proofSaid q).1).length) c6), (16, Bo (!decide ((proofSaid p).2 = 0))), (24, Bo (!decide ((proofSaid q).2 = 0))), (30, Bo (!(p.name == q.name)))] ?_
        refine tc_ret ?_
        refine tq_then_ret ?_
        have hf3 : clashProofs p q = ([], [], 3) := by
          unfold clashProofs; simp_all
        refine tq_ret [0, 0, 0] [Sr ([]), Sr ([]), I 3] (bp_rows [] (.cons _ (.cons _ .slnil)) (Mem.le_trans hl1 hl2) ?_)
        rw [hf3]
        try dsimp only
        exact ⟨rfl, (Nat.le_of_ble_eq_true rfl), (Nat.le_of_ble_eq_true rfl), rfl⟩
      ·
        try simp only [decide_eq_true_eq, decide_eq_false_iff_not, Bool.and_eq_true, Bool.or_eq_true, Bool.and_eq_false_imp, Bool.or_eq_false_iff, Bool.not_eq_true', Bool.not_eq_false', Bool.not_eq_true, Bool.not_eq_false, beq_iff_eq, beq_eq_false_iff_ne, bne_iff_ne, ne_eq, Decidable.not_not, Int.not_lt, Int.not_le] at h3
        refine tc_skip ?_
        refine tq_then ?_
        refine tc_seq ?_
        refine tc_region ?_
        refine runL_b [0,0] [(2, Pt b1 0), (3, Pt b2 0), (4, Sr ([])), (5, Sr ([])), (6, I 0), (8, I ((proofSaid q).2)), (16, Bo (!decide ((proofSaid p).2 = 0))), (24, Bo (!decide ((proofSaid q).2 = 0))), (30, Bo (!(p.name == q.name))), (31, Sl a5 (((proofSaid p).1).length) c5), (32, Sl a6 (((proofSaid q).1).length) c6)] ?_
        refine runL_callR 33 (clashTexts_con G2 a5 c5 ((proofSaid p).1) (hs5.mono hl2) a6 c6 ((proofSaid q).1) hs6) (fun v G3 L1 hl3 hp => ?_)
        obtain ⟨rfl, w3, w4, rfl⟩ := hp
        refine runL_b [0,0,0,0,0,0] [(2, Pt b1 0), (3, Pt b2 0), (4, Sr ((clashTexts ((proofSaid p).1) ((proofSaid q).1)).1)), (5, Sr ((clashTexts ((proofSaid p).1) ((proofSaid q).1)).2.1)), (6, I ((clashTexts ((proofSaid p).1) ((proofSaid q).1)).2.2)), (8, I ((proofSaid q).2)), (16, Bo (!decide ((proofSaid p).2 = 0))), (24, Bo (!decide ((proofSaid q).2 = 0))), (30, Bo (!(p.name == q.name)))] ?_
        refine runL_nil ?_
        refine tq_then ?_
        refine tc_ret ?_
        have hf4 : clashProofs p q = ((clashTexts ((proofSaid p).1) ((proofSaid q).1)).1, (clashTexts ((proofSaid p).1) ((proofSaid q).1)).2.1, (clashTexts ((proofSaid p).1) ((proofSaid q).1)).2.2) := by
          unfold clashProofs; simp_all
        refine tq_ret [0, 0, 0] [Sr ((clashTexts ((proofSaid p).1) ((proofSaid q).1)).1), Sr ((clashTexts ((proofSaid p).1) ((proofSaid q).1)).2.1), I ((clashTexts ((proofSaid p).1) ((proofSaid q).1)).2.2)] (bp_rows [] (.cons _ (.cons _ .slnil)) (Mem.le_trans (Mem.le_trans hl1 hl2) hl3) ?_)
        rw [hf4]
        try dsimp only
        exact ⟨rfl, w3, w4, rfl⟩
end Go.Proofs.YtmpakffajpnffaaGreatDoor
