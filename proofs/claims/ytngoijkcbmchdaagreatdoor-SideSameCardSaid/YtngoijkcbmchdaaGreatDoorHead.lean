import Derived.Test.YtngoijkcbmchdaaGreatDoorWire
namespace Go.Proofs.YtngoijkcbmchdaaGreatDoor
open Go.Tx
set_option linter.unusedVariables false
set_option linter.unusedSimpArgs false

def HeadW (h : HeadD) : Prop := -9223372036854775808 ≤ h.epoch ∧ h.epoch < 9223372036854775808 ∧ 0 ≤ h.root ∧ h.root < 18446744073709551616 ∧ 0 ≤ h.prev ∧ h.prev < 18446744073709551616 ∧ -9223372036854775808 ≤ h.at_ ∧ h.at_ < 9223372036854775808
theorem headW_of {a b c d : Int} (h1 : (Lit.int .i64 a).wf = true) (h2 : (Lit.int .u64 b).wf = true) (h3 : (Lit.int .u64 c).wf = true) (h4 : (Lit.int .i64 d).wf = true) : HeadW ⟨a, b, c, d⟩ := by
  have := wf_i64 h1; have := wf_u64 h2; have := wf_u64 h3; have := wf_i64 h4
  unfold HeadW; dsimp only; omega
def headZ : HeadD := ⟨0, 0, 0, 0⟩
abbrev headV (h : HeadD) : Value := .agg #[I h.epoch, U h.root, U h.prev, I h.at_]
def headCheck (h : HeadD) : Int :=
  if h.epoch < 0 ∨ 1000000 < h.epoch ∨ 2305843009213693951 ≤ h.root ∨ 2305843009213693951 ≤ h.prev ∨ h.at_ < 0 ∨ 1000000000 < h.at_ then 4 else if h.epoch = 0 ∧ h.prev ≠ 0 then 3 else 0
theorem headCheck_ok {h : HeadD} (e : headCheck h = 0) : 0 ≤ h.epoch ∧ h.epoch ≤ 1000000 ∧ h.root < 2305843009213693951 ∧ h.prev < 2305843009213693951 ∧ 0 ≤ h.at_ ∧ h.at_ ≤ 1000000000 ∧ (h.epoch = 0 → h.prev = 0) := by
  unfold headCheck at e; split at e
  · cases e
  split at e
  · cases e
  omega
def headText (h : HeadD) : List UInt8 := ((([3] ++ numB (IntKind.u64.wrap h.epoch)) ++ numB h.root) ++ numB h.prev) ++ numB (IntKind.u64.wrap h.at_)
def headSaid (h : HeadD) : List UInt8 × Int := if headCheck h ≠ 0 then ([], headCheck h) else (headText h, 0)
def headGot (s : List UInt8) : HeadD := ⟨IntKind.i64.wrap (readNum ((s.take 9).drop 1)).1, (readNum ((s.take 17).drop 9)).1, (readNum ((s.take 25).drop 17)).1, IntKind.i64.wrap (readNum ((s.take 33).drop 25)).1⟩
def headRead (s : List UInt8) : HeadD × Int := if s.length ≠ 33 ∨ s[0]? ≠ some 3 then (headZ, 3) else if headCheck (headGot s) ≠ 0 then (headZ, 3) else (headGot s, 0)
theorem headRead_err {s : List UInt8} (h : (headRead s).2 ≠ 0) : (headRead s).1 = headZ := by
  revert h; unfold headRead; (repeat' split) <;> simp
theorem byte_eq {x y : UInt8} : ((x.toNat : Int) = (y.toNat : Int)) ↔ x = y := ⟨fun h => UInt8.toNat.inj (by omega), fun h => by rw [h]⟩
theorem headText_length (h : HeadD) : (headText h).length = 33 := by simp [headText]
theorem headRead_text {h : HeadD} (hw : HeadW h) (e : headCheck h = 0) : headRead (headText h) = (h, 0) := by
  have hb := headCheck_ok e
  unfold HeadW at hw
  have e1 : IntKind.u64.wrap h.epoch = h.epoch := wrap_u64 (by omega) (by omega)
  have e2 : IntKind.u64.wrap h.at_ = h.at_ := wrap_u64 (by omega) (by omega)
  have key : ∀ (a b c d : List UInt8), a.length = 8 → b.length = 8 → c.length = 8 → d.length = 8 →
      headGot (((([3] ++ a) ++ b) ++ c) ++ d) = ⟨IntKind.i64.wrap (readN a), readN b, readN c, IntKind.i64.wrap (readN d)⟩ := by
    intro a b c d ha hb hc hd
    have p1 : ((((([3] ++ a) ++ b) ++ c) ++ d).take 9).drop 1 = a := by simp [List.take_append, ha, List.take_of_length_le]
    have p2 : ((((([3] ++ a) ++ b) ++ c) ++ d).take 17).drop 9 = b := by simp [List.take_append, List.drop_append, ha, hb, List.take_of_length_le, List.drop_eq_nil_of_le]
    have p3 : ((((([3] ++ a) ++ b) ++ c) ++ d).take 25).drop 17 = c := by simp [List.take_append, List.drop_append, ha, hb, hc, List.take_of_length_le, List.drop_eq_nil_of_le]
    have p4 : ((((([3] ++ a) ++ b) ++ c) ++ d).take 33).drop 25 = d := by simp [List.take_append, List.drop_append, ha, hb, hc, hd, List.take_of_length_le, List.drop_eq_nil_of_le]
    unfold headGot
    rw [p1, p2, p3, p4]
    simp [readNum, ha, hb, hc, hd]
  have hg : headGot (headText h) = h := by
    unfold headText
    rw [key _ _ _ _ (by simp) (by simp) (by simp) (by simp), e1, e2, readN_numB (by omega) (by omega), readN_numB (by omega) (by omega), readN_numB (by omega) (by omega), readN_numB (by omega) (by omega), wrap_i64 (by omega) (by omega), wrap_i64 (by omega) (by omega)]
  unfold headRead
  rw [hg, if_neg (by rw [headText_length]; simp [headText]), if_neg (by simp [e])]
theorem headRead_ok {s : List UInt8} (h : (headRead s).2 = 0) : s.length = 33 ∧ s[0]? = some 3 ∧ headCheck (headGot s) = 0 ∧ headRead s = (headGot s, 0) := by
  revert h; unfold headRead
  split
  · simp
  split
  · simp
  · rename_i h1 h2; intro _
    exact ⟨Decidable.not_not.1 (fun h => h1 (.inl h)), Decidable.not_not.1 (fun h => h1 (.inr h)), Decidable.not_not.1 h2, rfl⟩
theorem headRead_l {s : List UInt8} (h : ¬ (s.length : Int) = 33) : headRead s = (headZ, 3) := by unfold headRead; rw [if_pos (.inl (by omega))]
theorem headRead_b {s : List UInt8} {y : UInt8} (hy : s[0]? = some y) (h : ¬ (y.toNat : Int) = 3) : headRead s = (headZ, 3) := by
  unfold headRead; rw [if_pos (.inr (by rw [hy]; intro hc; cases hc; exact h rfl))]
theorem headRead_c {s : List UInt8} {y : UInt8} (hl : (s.length : Int) = 33) (hy : s[0]? = some y) (h : (y.toNat : Int) = 3) (hc : ¬ headCheck (headGot s) = 0) : headRead s = (headZ, 3) := by
  have : y = 3 := byte_eq.1 h
  unfold headRead; rw [if_neg (by rw [hy, this]; simp; omega), if_pos hc]
theorem headRead_d {s : List UInt8} {y : UInt8} (hl : (s.length : Int) = 33) (hy : s[0]? = some y) (h : (y.toNat : Int) = 3) (hc : headCheck (headGot s) = 0) : headRead s = (headGot s, 0) := by
  have : y = 3 := byte_eq.1 h
  unfold headRead; rw [if_neg (by rw [hy, this]; simp; omega), if_neg (by simp [hc])]
theorem headBack1 {h : HeadD} (hw : HeadW h) (e : (headSaid h).2 = 0) : headRead (headSaid h).1 = (h, 0) := by
  have hc : headCheck h = 0 := by
    unfold headSaid at e; split at e
    · exact e
    · rename_i h1; exact Decidable.not_not.1 h1
  have : (headSaid h).1 = headText h := by unfold headSaid; rw [if_neg (by simp [hc])]
  rw [this, headRead_text hw hc]
theorem headSaid_read {s : List UInt8} (h : (headRead s).2 = 0) : headSaid (headRead s).1 = (s, 0) := by
  obtain ⟨h1, h2, h3, h4⟩ := headRead_ok h
  rw [h4]
  unfold headSaid
  rw [if_neg (by simp [h3])]
  have hb := headCheck_ok h3
  have r : ∀ a b, b ≤ 33 → a + 8 = b → 0 ≤ readN ((s.take b).drop a) ∧ readN ((s.take b).drop a) < 18446744073709551616 ∧ numB (readN ((s.take b).drop a)) = (s.take b).drop a ∧ (readNum ((s.take b).drop a)).1 = readN ((s.take b).drop a) := by
    intro a b hb1 hb2
    have hl : ((s.take b).drop a).length = 8 := by simp; omega
    have := readN_bound _ hl
    exact ⟨this.1, this.2.1, this.2.2, by unfold readNum; rw [if_pos hl]⟩
  have r1 := r 1 9 (by omega) rfl
  have r2 := r 9 17 (by omega) rfl
  have r3 := r 17 25 (by omega) rfl
  have r4 := r 25 33 (by omega) rfl
  have wr : ∀ x : Int, 0 ≤ x → x < 18446744073709551616 → 0 ≤ IntKind.i64.wrap x → IntKind.u64.wrap (IntKind.i64.wrap x) = x := by
    intro x hx0 hx1 hx2
    have : IntKind.i64.wrap x = x := by
      simp only [IntKind.wrap, IntKind.signed, IntKind.bits] at hx2 ⊢
      simp at hx2 ⊢
      omega
    rw [this, wrap_u64 hx0 hx1]
  unfold headGot at hb
  simp only [r1.2.2.2, r2.2.2.2, r3.2.2.2, r4.2.2.2] at hb
  unfold headText headGot
  simp only [r1.2.2.2, r2.2.2.2, r3.2.2.2, r4.2.2.2]
  rw [wr _ r1.1 r1.2.1 (by omega), wr _ r4.1 r4.2.1 (by omega), r1.2.2.1, r2.2.2.1, r3.2.2.1, r4.2.2.1]
  have ex : [3] = s.take 1 := by
    match s, h1, h2 with
    | x :: xs, _, h2 => simp at h2 ⊢; exact h2.symm
  have app : ∀ a b, a ≤ b → s.take a ++ (s.take b).drop a = s.take b := by
    intro a b hab
    have := List.take_append_drop a (s.take b)
    rwa [List.take_take, Nat.min_eq_left hab] at this
  rw [ex, app 1 9 (by omega), app 9 17 (by omega), app 17 25 (by omega), app 25 33 (by omega), List.take_of_length_le (by omega)]

theorem headCheck_con (h : HeadD) (G : Mem) : Con Tryz.prog 23 #[.agg #[I h.epoch, U h.root, U h.prev, I h.at_]] G [] (fun u G' L' => u = I (headCheck h)) := by
  refine con_of Tryz.func23 41 [(0, .agg #[I h.epoch, U h.root, U h.prev, I h.at_])] rfl (fun w0 G0 => ?_)
  refine tc_seq ?_
  refine tc_region ?_
  refine runL_box 1 #[I h.epoch, U h.root, U h.prev, I h.at_] 50 (fun b1 => ?_)
  refine runL_bn [0] [] ?_
  refine runL_nil ?_
  refine tq_then ?_
  refine tc_seq ?_
  refine tc_block ?_
  refine tc_seq ?_
  refine tc_region ?_
  refine runL_bn [0,2,0,0] [(7, Bo (decide (h.epoch < 0)))] ?_
  refine runL_b2n (decide (h.epoch < 0)) [7] [1,1,1,0] [0,2,0,0] (fun bb => [(11, Bo (bb || (decide (h.epoch > 1000000))))]) ?_
  refine runL_bn [0] [(12, Bo ((decide (h.epoch < 0)) || (decide (h.epoch > 1000000))))] ?_
  refine runL_b2n ((decide (h.epoch < 0)) || (decide (h.epoch > 1000000))) [12] [1,1,1,0] [0,2,0,0] (fun bb => [(16, Bo (bb || (decide (h.root ≥ 2305843009213693951))))]) ?_
  refine runL_bn [0] [(17, Bo (((decide (h.epoch < 0)) || (decide (h.epoch > 1000000))) || (decide (h.root ≥ 2305843009213693951))))] ?_
  refine runL_b2n (((decide (h.epoch < 0)) || (decide (h.epoch > 1000000))) || (decide (h.root ≥ 2305843009213693951))) [17] [1,1,1,0] [0,2,0,0] (fun bb => [(21, Bo (bb || (decide (h.prev ≥ 2305843009213693951))))]) ?_
  refine runL_bn [0] [(22, Bo ((((decide (h.epoch < 0)) || (decide (h.epoch > 1000000))) || (decide (h.root ≥ 2305843009213693951))) || (decide (h.prev ≥ 2305843009213693951))))] ?_
  refine runL_b2n ((((decide (h.epoch < 0)) || (decide (h.epoch > 1000000))) || (decide (h.root ≥ 2305843009213693951))) || (decide (h.prev ≥ 2305843009213693951))) [22] [1,1,1,0] [0,2,0,0] (fun bb => [(26, Bo (bb || (decide (h.at_ < 0))))]) ?_
  refine runL_bn [0] [(27, Bo (((((decide (h.epoch < 0)) || (decide (h.epoch > 1000000))) || (decide (h.root ≥ 2305843009213693951))) || (decide (h.prev ≥ 2305843009213693951))) || (decide (h.at_ < 0))))] ?_
  refine runL_b2n (((((decide (h.epoch < 0)) || (decide (h.epoch > 1000000))) || (decide (h.root ≥ 2305843009213693951))) || (decide (h.prev ≥ 2305843009213693951))) || (decide (h.at_ < 0))) [27] [1,1,1,0] [0,2,0,0] (fun bb => [(31, Bo (bb || (decide (h.at_ > 1000000000))))]) ?_
  refine runL_bn [0] [(3, Bo ((((((decide (h.epoch < 0)) || (decide (h.epoch > 1000000))) || (decide (h.root ≥ 2305843009213693951))) || (decide (h.prev ≥ 2305843009213693951))) || (decide (h.at_ < 0))) || (decide (h.at_ > 1000000000))))] ?_
  refine runL_nil ?_
  refine tq_then ?_
  refine tc_condP ((((((decide (h.epoch < 0)) || (decide (h.epoch > 1000000))) || (decide (h.root ≥ 2305843009213693951))) || (decide (h.prev ≥ 2305843009213693951))) || (decide (h.at_ < 0))) || (decide (h.at_ > 1000000000))) (fun h1 => ?_) (fun h1 => ?_)
  ·
    refine tc_rbn [0] [(2, I 4)] ?_
    refine tc_ret ?_
    refine tq_block_ret ?_
    refine tq_then_ret ?_
    refine tq_ret [0] [I 4] (bp_ret (Mem.le_refl _) ?_)
    refine congrArg I ?_; unfold headCheck; (repeat' split) <;> first | rfl | omega
  ·
    refine tc_seq ?_
    refine tc_region ?_
    refine runL_bn [0,2,0,0] [(36, Bo (decide (h.epoch = 0)))] ?_
    refine runL_b2n (decide (h.epoch = 0)) [36] [0,2,0,0] [1,1,1,0] (fun bb => [(40, Bo (bb && (!decide (h.prev = 0))))]) ?_
    refine runL_bn [0] [(32, Bo ((decide (h.epoch = 0)) && (!decide (h.prev = 0))))] ?_
    refine runL_nil ?_
    refine tq_then ?_
    refine tc_condP ((decide (h.epoch = 0)) && (!decide (h.prev = 0))) (fun h2 => ?_) (fun h2 => ?_)
    ·
      refine tc_rbn [0] [(2, I 3)] ?_
      refine tc_ret ?_
      refine tq_block_ret ?_
      refine tq_then_ret ?_
      refine tq_ret [0] [I 3] (bp_ret (Mem.le_refl _) ?_)
      refine congrArg I ?_; unfold headCheck; (repeat' split) <;> first | rfl | omega
    ·
      refine tc_skip ?_
      refine tq_block ?_
      refine tq_then ?_
      refine tc_rbn [0] [(2, I 0)] ?_
      refine tc_ret ?_
      refine tq_ret [0] [I 0] (bp_ret (Mem.le_refl _) ?_)
      refine congrArg I ?_; unfold headCheck; (repeat' split) <;> first | rfl | omega
end Go.Proofs.YtngoijkcbmchdaaGreatDoor
