import Derived.Test.YtpofnmobbbcpgaaGreatDoorWire
namespace Go.Proofs.YtpofnmobbbcpgaaGreatDoor
open Go.Tx
set_option linter.unusedVariables false
set_option linter.unusedSimpArgs false

def HeadW (h : HeadD) : Prop := -9223372036854775808 ≤ h.epoch ∧ h.epoch < 9223372036854775808 ∧ 0 ≤ h.root ∧ h.root < 18446744073709551616 ∧ 0 ≤ h.prev ∧ h.prev < 18446744073709551616 ∧ -9223372036854775808 ≤ h.at_ ∧ h.at_ < 9223372036854775808
theorem headW_of {a b c d : Int} (h1 : (Lit.int .i64 a).wf = true) (h2 : (Lit.int .u64 b).wf = true) (h3 : (Lit.int .u64 c).wf = true) (h4 : (Lit.int .i64 d).wf = true) : HeadW ⟨a, b, c, d⟩ := by
  have := wf_i64 h1; have := wf_u64 h2; have := wf_u64 h3; have := wf_i64 h4
  unfold HeadW; dsimp only; omega
def headZ : HeadD := ⟨0, 0, 0, 0⟩
abbrev headV (h : HeadD) : Value := .agg #[I h.epoch, U h.root, U h.prev, I h.at_]
def headCheck (h : HeadD) : Int :=
  if h.epoch < 0 ∨ 1000000 < h.epoch ∨ 2305843009213693951 ≤ h.root ∨ 2305843009213693951 ≤ h.prev ∨ h.at_ < 0 ∨ 1000000000 < h.at_ then 4 else if h.epoch = 0 ∧ h.prev ≠ 0 then 3 else 0
theorem headCheck_ok {h : HeadD} (e : headCheck h = 0) : 0 ≤ h.epoch ∧ h.epoch ≤ 1000000 ∧ h.root < 2305843009213693951 ∧ h.prev < 2305843009213693951 ∧ 0 ≤ h.at_ ∧ h.at_ ≤ 1000000000 ∧ (h.epoch = 0 → h.prev = 0) := by
  unfold headCheck at e; split at e
  · cases e
  split at e
  · cases e
  omega
def headText (h : HeadD) : List UInt8 := ((([3] ++ numB (IntKind.u64.wrap h.epoch)) ++ numB h.root) ++ numB h.prev) ++ numB (IntKind.u64.wrap h.at_)
def headSaid (h : HeadD) : List UInt8 × Int := if headCheck h ≠ 0 then ([], headCheck h) else (headText h, 0)
def headGot (s : List UInt8) : HeadD := ⟨IntKind.i64.wrap (readNum ((s.take 9).drop 1)).1, (readNum ((s.take 17).drop 9)).1, (readNum ((s.take 25).drop 17)).1, IntKind.i64.wrap (readNum ((s.take 33).drop 25)).1⟩
def headRead (s : List UInt8) : HeadD × Int := if s.length ≠ 33 ∨ s[0]? ≠ some 3 then (headZ, 3) else if headCheck (headGot s) ≠ 0 then (headZ, 3) else (headGot s, 0)
theorem headRead_err {s : List UInt8} (h : (headRead s).2 ≠ 0) : (headRead s).1 = headZ := by
  revert h; unfold headRead; (repeat' split) <;> simp
theorem byte_eq {x y : UInt8} : ((x.toNat : Int) = (y.toNat : Int)) ↔ x = y := ⟨fun h => UInt8.toNat.inj (by omega), fun h => by rw [h]⟩
theorem headText_length (h : HeadD) : (headText h).length = 33 := by simp [headText]
theorem headRead_text {h : HeadD} (hw : HeadW h) (e : headCheck h = 0) : headRead (headText h) = (h, 0) := by
  have hb := headCheck_ok e
  unfold HeadW at hw
  have e1 : IntKind.u64.wrap h.epoch = h.epoch := wrap_u64 (by omega) (by omega)
  have e2 : IntKind.u64.wrap h.at_ = h.at_ := wrap_u64 (by omega) (by omega)
  have key : ∀ (a b c d : List UInt8), a.length = 8 → b.length = 8 → c.length = 8 → d.length = 8 →
      headGot (((([3] ++ a) ++ b) ++ c) ++ d) = ⟨IntKind.i64.wrap (readN a), readN b, readN c, IntKind.i64.wrap (readN d)⟩ := by
    intro a b c d ha hb hc hd
    have p1 : ((((([3] ++ a) ++ b) ++ c) ++ d).take 9).drop 1 = a := by simp [List.take_append, ha, List.take_of_length_le]
    have p2 : ((((([3] ++ a) ++ b) ++ c) ++ d).take 17).drop 9 = b := by simp [List.take_append, List.drop_append, ha, hb, List.take_of_length_le, List.drop_eq_nil_of_le]
    have p3 : ((((([3] ++ a) ++ b) ++ c) ++ d).take 25).drop 17 = c := by simp [List.take_append, List.drop_append, ha, hb, hc, List.take_of_length_le, List.drop_eq_nil_of_le]
    have p4 : ((((([3] ++ a) ++ b) ++ c) ++ d).take 33).drop 25 = d := by simp [List.take_append, List.drop_append, ha, hb, hc, hd, List.take_of_length_le, List.drop_eq_nil_of_le]
    unfold headGot
    rw [p1, p2, p3, p4]
    simp [readNum, ha, hb, hc, hd]
  have hg : headGot (headText h) = h := by
    unfold headText
    rw [key _ _ _ _ (by simp) (by simp) (by simp) (by simp), e1, e2, readN_numB (by omega) (by omega), readN_numB (by omega) (by omega), readN_numB (by omega) (by omega), readN_numB (by omega) (by omega), wrap_i64 (by omega) (by omega), wrap_i64 (by omega) (by omega)]
  unfold headRead
  rw [hg, if_neg (by rw [headText_length]; simp [headText]), if_neg (by simp [e])]
theorem headRead_ok {s : List UInt8} (h : (headRead s).2 = 0) : s.length = 33 ∧ s[0]? = some 3 ∧ headCheck (headGot s) = 0 ∧ headRead s = (headGot s, 0) := by
  revert h; unfold headRead
  split
  · simp
  split
  · simp
  · rename_i h1 h2; intro _
    exact ⟨Decidable.not_not.1 (fun h => h1 (.inl h)), Decidable.not_not.1 (fun h => h1 (.inr h)), Decidable.not_not.1 h2, rfl⟩
theorem headRead_l {s : List UInt8} (h : ¬ (s.length : Int) = 33) : headRead s = (headZ, 3) := by unfold headRead; rw [if_pos (.inl (by omega))]
theorem headRead_b {s : List UInt8} {y : UInt8} (hy : s[0]? = some y) (h : ¬ (y.toNat : Int) = 3) : headRead s = (headZ, 3) := by
  unfold headRead; rw [if_pos (.inr (by rw [hy]; intro hc; cases hc; exact h rfl))]
theorem headRead_c {s : List UInt8} {y : UInt8} (hl : (s.length : Int) = 33) (hy : s[0]? = some y) (h : (y.toNat : Int) = 3) (hc : ¬ headCheck (headGot s) = 0) : headRead s = (headZ, 3) := by
  have : y = 3 := byte_eq.1 h
  unfold headRead; rw [if_neg (by rw [hy, this]; simp; omega), if_pos hc]
theorem headRead_d {s : List UInt8} {y : UInt8} (hl : (s.length : Int) = 33) (hy : s[0]? = some y) (h : (y.toNat : Int) = 3) (hc : headCheck (headGot s) = 0) : headRead s = (headGot s, 0) := by
  have : y = 3 := byte_eq.1 h
  unfold headRead; rw [if_neg (by rw [hy, this]; simp; omega), if_neg (by simp [hc])]
theorem headBack1 {h : HeadD} (hw : HeadW h) (e : (headSaid h).2 = 0) : headRead (headSaid h).1 = (h, 0) := by
  have hc : headCheck h = 0 := by
    unfold headSaid at e; split at e
    · exact e
    · rename_i h1; exact Decidable.not_not.1 h1
  have : (headSaid h).1 = headText h := by unfold headSaid; rw [if_neg (by simp [hc])]
  rw [this, headRead_text hw hc]
theorem headSaid_read {s : List UInt8} (h : (headRead s).2 = 0) : headSaid (headRead s).1 = (s, 0) := by
  obtain ⟨h1, h2, h3, h4⟩ := headRead_ok h
  rw [h4]
  unfold headSaid
  rw [if_neg (by simp [h3])]
  have hb := headCheck_ok h3
  have r : ∀ a b, b ≤ 33 → a + 8 = b → 0 ≤ readN ((s.take b).drop a) ∧ readN ((s.take b).drop a) < 18446744073709551616 ∧ numB (readN ((s.take b).drop a)) = (s.take b).drop a ∧ (readNum ((s.take b).drop a)).1 = readN ((s.take b).drop a) := by
    intro a b hb1 hb2
    have hl : ((s.take b).drop a).length = 8 := by simp; omega
    have := readN_bound _ hl
    exact ⟨this.1, this.2.1, this.2.2, by unfold readNum; rw [if_pos hl]⟩
  have r1 := r 1 9 (by omega) rfl
  have r2 := r 9 17 (by omega) rfl
  have r3 := r 17 25 (by omega) rfl
  have r4 := r 25 33 (by omega) rfl
  have wr : ∀ x : Int, 0 ≤ x → x < 18446744073709551616 → 0 ≤ IntKind.i64.wrap x → IntKind.u64.wrap (IntKind.i64.wrap x) = x := by
    intro x hx0 hx1 hx2
    have : IntKind.i64.wrap x = x := by
      simp only [IntKind.wrap, IntKind.signed, IntKind.bits] at hx2 ⊢
      simp at hx2 ⊢
      omega
    rw [this, wrap_u64 hx0 hx1]
  unfold headGot at hb
  simp only [r1.2.2.2, r2.2.2.2, r3.2.2.2, r4.2.2.2] at hb
  unfold headText headGot
  simp only [r1.2.2.2, r2.2.2.2, r3.2.2.2, r4.2.2.2]
  rw [wr _ r1.1 r1.2.1 (by omega), wr _ r4.1 r4.2.1 (by omega), r1.2.2.1, r2.2.2.1, r3.2.2.1, r4.2.2.1]
  have ex : [3] = s.take 1 := by
    match s, h1, h2 with
    | x :: xs, _, h2 => simp at h2 ⊢; exact h2.symm
  have app : ∀ a b, a ≤ b → s.take a ++ (s.take b).drop a = s.take b := by
    intro a b hab
    have := List.take_append_drop a (s.take b)
    rwa [List.take_take, Nat.min_eq_left hab] at this
  rw [ex, app 1 9 (by omega), app 9 17 (by omega), app 17 25 (by omega), app 25 33 (by omega), List.take_of_length_le (by omega)]

theorem headCheck_con (h : HeadD) (G : Mem) : Con Tryz.prog 39 #[.agg #[I h.epoch, U h.root, U h.prev, I h.at_]] G [] (fun u G' L' => u = I (headCheck h)) := by
  refine con_of Tryz.func39 41 [(0, .agg #[I h.epoch, U h.root, U h.prev, I h.at_])] rfl (fun w0 G0 => ?_)
  refine tc_seq ?_
  refine tc_region ?_
  refine runL_box 1 #[I h.epoch, U h.root, U h.prev, I h.at_] 24 (fun b1 => ?_)
  refine runL_bn [0] [] ?_
  refine runL_nil ?_
  refine tq_then ?_
  refine tc_seq ?_
  refine tc_block ?_
  refine tc_seq ?_
  refine tc_region ?_
  refine runL_bn [0,2,0,0] [(7, Bo (decide (h.epoch < 0)))] ?_
  refine runL_b2n (decide (h.epoch < 0)) [7] [1,1,1,0] [0,2,0,0] (fun bb => [(11, Bo (bb || (decide (h.epoch > 1000000))))]) ?_
  refine runL_bn [0] [(12, Bo ((decide (h.epoch < 0)) || (decide (h.epoch > 1000000))))] ?_
  refine runL_b2n ((decide (h.epoch < 0)) || (decide (h.epoch > 1000000))) [12] [1,1,1,0] [0,2,0,0] (fun bb => [(16, Bo (bb || (decide (h.root ≥ 2305843009213693951))))]) ?_
  refine runL_bn [0] [(17, Bo (((decide (h.epoch < 0)) || (decide (h.epoch > 1000000))) || (decide (h.root ≥ 2305843009213693951))))] ?_
  refine runL_b2n (((decide (h.epoch < 0)) || (decide (h.epoch > 1000000))) || (decide (h.root ≥ 2305843009213693951))) [17] [1,1,1,0] [0,2,0,0] (fun bb => [(21, Bo (bb || (decide (h.prev ≥ 2305843009213693951))))]) ?_
  refine runL_bn [0] [(22, Bo ((((decide (h.epoch < 0)) || (decide (h.epoch > 1000000))) || (decide (h.root ≥ 2305843009213693951))) || (decide (h.prev ≥ 2305843009213693951))))] ?_
  refine runL_b2n ((((decide (h.epoch < 0)) || (decide (h.epoch > 1000000))) || (decide (h.root ≥ 2305843009213693951))) || (decide (h.prev ≥ 2305843009213693951))) [22] [1,1,1,0] [0,2,0,0] (fun bb => [(26, Bo (bb || (decide (h.at_ < 0))))]) ?_
  refine runL_bn [0] [(27, Bo (((((decide (h.epoch < 0)) || (decide (h.epoch > 1000000))) || (decide (h.root ≥ 2305843009213693951))) || (decide (h.prev ≥ 2305843009213693951))) || (decide (h.at_ < 0))))] ?_
  refine runL_b2n (((((decide (h.epoch < 0)) || (decide (h.epoch > 1000000))) || (decide (h.root ≥ 2305843009213693951))) || (decide (h.prev ≥ 2305843009213693951))) || (decide (h.at_ < 0))) [27] [1,1,1,0] [0,2,0,0] (fun bb => [(31, Bo (bb || (decide (h.at_ > 1000000000))))]) ?_
  refine runL_bn [0] [(3, Bo ((((((decide (h.epoch < 0)) || (decide (h.epoch > 1000000))) || (decide (h.root ≥ 2305843009213693951))) || (decide (h.prev ≥ 2305843009213693951))) || (decide (h.at_ < 0))) || (decide (h.at_ > 1000000000))))] ?_
  refine runL_nil ?_
  refine tq_then ?_
  refine tc_condP ((((((decide (h.epoch < 0)) || (decide (h.epoch > 1000000))) || (decide (h.root ≥ 2305843009213693951))) || (decide (h.prev ≥ 2305843009213693951))) || (decide (h.at_ < 0))) || (decide (h.at_ > 1000000000))) (fun h1 => ?_) (fun h1 => ?_)
  ·
    refine tc_rbn [0] [(2, I 4)] ?_
    refine tc_ret ?_
    refine tq_block_ret ?_
    refine tq_then_ret ?_
    refine tq_ret [0] [I 4] (bp_ret (Mem.le_refl _) ?_)
    refine congrArg I ?_; unfold headCheck; (repeat' split) <;> first | rfl | omega
  ·
    refine tc_seq ?_
    refine tc_region ?_
    refine runL_bn [0,2,0,0] [(36, Bo (decide (h.epoch = 0)))] ?_
    refine runL_b2n (decide (h.epoch = 0)) [36] [0,2,0,0] [1,1,1,0] (fun bb => [(40, Bo (bb && (!decide (h.prev = 0))))]) ?_
    refine runL_bn [0] [(32, Bo ((decide (h.epoch = 0)) && (!decide (h.prev = 0))))] ?_
    refine runL_nil ?_
    refine tq_then ?_
    refine tc_condP ((decide (h.epoch = 0)) && (!decide (h.prev = 0))) (fun h2 => ?_) (fun h2 => ?_)
    ·
      refine tc_rbn [0] [(2, I 3)] ?_
      refine tc_ret ?_
      refine tq_block_ret ?_
      refine tq_then_ret ?_
      refine tq_ret [0] [I 3] (bp_ret (Mem.le_refl _) ?_)
      refine congrArg I ?_; unfold headCheck; (repeat' split) <;> first | rfl | omega
    ·
      refine tc_skip ?_
      refine tq_block ?_
      refine tq_then ?_
      refine tc_rbn [0] [(2, I 0)] ?_
      refine tc_ret ?_
      refine tq_ret [0] [I 0] (bp_ret (Mem.le_refl _) ?_)
      refine congrArg I ?_; unfold headCheck; (repeat' split) <;> first | rfl | omega

theorem headSaid_con (h : HeadD) (G : Mem) : Con Tryz.prog 41 #[.agg #[I h.epoch, U h.root, U h.prev, I h.at_]] G [] (fun u G' L' => u = .tuple #[Sr ((headSaid h).1), I ((headSaid h).2)]) := by
  refine con_of Tryz.func41 30 [(0, .agg #[I h.epoch, U h.root, U h.prev, I h.at_])] rfl (fun w0 G0 => ?_)
  refine tc_seq ?_
  refine tc_region ?_
  refine runL_box 1 #[I h.epoch, U h.root, U h.prev, I h.at_] 24 (fun b1 => ?_)
  refine runL_bn [0,0] [] ?_
  refine runL_nil ?_
  refine tq_then ?_
  refine tc_seq ?_
  refine tc_seq ?_
  refine tc_region ?_
  refine runL_bn [2] [(5, .agg #[I h.epoch, U h.root, U h.prev, I h.at_])] ?_
  refine runL_callV 6 (I (headCheck h)) (headCheck_con h G) ?_
  refine runL_bn [0] [(4, I (headCheck h))] ?_
  refine runL_nil ?_
  refine tq_then ?_
  refine tc_rbn [0,0] [(8, Bo (!decide (headCheck h = 0)))] ?_
  refine tc_condP (!decide (headCheck h = 0)) (fun h1 => ?_) (fun h1 => ?_)
  ·
    refine tc_rbn [0,0,0] [(2, Sr ([])), (3, I (headCheck h))] ?_
    refine tc_ret ?_
    refine tq_then_ret ?_
    refine tq_ret [0, 0] [Sr ([]), I (headCheck h)] (bp_ret (Mem.le_refl _) ?_)
    first | (unfold headSaid; rw [if_pos (by omega)]; rfl) | (unfold headSaid; rw [if_neg (by omega)]; rfl)
  ·
    refine tc_skip ?_
    refine tq_then ?_
    refine tc_seq ?_
    refine tc_draw [0] ?_
    refine dr_V [(2, Pt b1 0), (3, I h.epoch), (4, U (IntKind.u64.wrap (h.epoch))), (5, Sr (numB (IntKind.u64.wrap (h.epoch)))), (7, Pt b1 1), (8, U h.root), (9, Sr (numB h.root)), (11, Pt b1 2), (12, U h.prev), (13, Sr (numB h.prev)), (15, Pt b1 3), (16, I h.at_), (17, U (IntKind.u64.wrap (h.at_))), (18, Sr (numB (IntKind.u64.wrap (h.at_))))] ?_
    refine dr_mid [] [(2,0), (3,2), (4,0), (7,0), (8,2), (11,0), (12,2), (15,0), (16,2), (17,0)] [5, 9, 13, 18] [0] (fmc ?_ (fmc ?_ (fmc ?_ (fmc ?_ fm0)))) (fmc ?_ fm0)
    · refine stab_of 5 15 (Sr (numB (IntKind.u64.wrap (h.epoch)))) [(14, U (IntKind.u64.wrap (h.epoch)))] (fun X => ?_)
      exact runL_callV 15 (Sr (numB (IntKind.u64.wrap (h.epoch)))) (num_con (IntKind.u64.wrap (h.epoch)) G) stab_end
    · refine stab_of 9 19 (Sr (numB h.root)) [(18, U h.root)] (fun X => ?_)
      exact runL_callV 19 (Sr (numB h.root)) (num_con h.root G) stab_end
    · refine stab_of 13 23 (Sr (numB h.prev)) [(22, U h.prev)] (fun X => ?_)
      exact runL_callV 23 (Sr (numB h.prev)) (num_con h.prev G) stab_end
    · refine stab_of 18 28 (Sr (numB (IntKind.u64.wrap (h.at_)))) [(27, U (IntKind.u64.wrap (h.at_)))] (fun X => ?_)
      exact runL_callV 28 (Sr (numB (IntKind.u64.wrap (h.at_)))) (num_con (IntKind.u64.wrap (h.at_)) G) stab_end
    refine act_of 0 [] (fun X => ?_)
    refine runL_bsl 10 1 #[Y 3] 5 (fun b2 => ?_)
    refine act_endN [(0, Sl (At b2 0) 1 1), (1, Sr (([3] : List Int).map fun n => UInt8.ofNat n.toNat)), (6, Sr ((([3] : List Int).map fun n => UInt8.ofNat n.toNat) ++ (numB (IntKind.u64.wrap (h.epoch))))), (10, Sr (((([3] : List Int).map fun n => UInt8.ofNat n.toNat) ++ (numB (IntKind.u64.wrap (h.epoch)))) ++ (numB h.root))), (14, Sr ((((([3] : List Int).map fun n => UInt8.ofNat n.toNat) ++ (numB (IntKind.u64.wrap (h.epoch)))) ++ (numB h.root)) ++ (numB h.prev))), (19, Sr (((((([3] : List Int).map fun n => UInt8.ofNat n.toNat) ++ (numB (IntKind.u64.wrap (h.epoch)))) ++ (numB h.root)) ++ (numB h.prev)) ++ (numB (IntKind.u64.wrap (h.at_))))), (20, Sr (((((([3] : List Int).map fun n => UInt8.ofNat n.toNat) ++ (numB (IntKind.u64.wrap (h.epoch)))) ++ (numB h.root)) ++ (numB h.prev)) ++ (numB (IntKind.u64.wrap (h.at_))))), (21, I 0)] ?_
    refine dr_end [] [(2,0), (3,4), (4,0), (7,0), (8,4), (11,0), (12,4), (15,0), (16,4), (17,0), (20,0), (21,0)] [1, 5, 6, 9, 10, 13, 14, 18, 19] [(2, Sr (((((([3] : List Int).map fun n => UInt8.ofNat n.toNat) ++ (numB (IntKind.u64.wrap (h.epoch)))) ++ (numB h.root)) ++ (numB h.prev)) ++ (numB (IntKind.u64.wrap (h.at_))))), (3, I 0)] (fmc ?_ (fmc ?_ (fmc ?_ (fmc ?_ (fmc ?_ (fmc ?_ (fmc ?_ (fmc ?_ (fmc ?_ fm0))))))))) ?_
    · refine stab_of 1 11 (Sr (([3] : List Int).map fun n => UInt8.ofNat n.toNat)) [(10, Sl (At b2 0) 1 1)] (fun X => ?_)
      exact runL_b2s (b := b2) (off := 0) (len := 1) (cap := 1) (cs := List.map (Value.int .u8) [3]) 11 0 [3] rfl (lit_bytes (ns := [3]) rfl) stab_end
    · refine stab_of 5 15 (Sr (numB (IntKind.u64.wrap (h.epoch)))) [(14, U (IntKind.u64.wrap (h.epoch)))] (fun X => ?_)
      exact runL_callV 15 (Sr (numB (IntKind.u64.wrap (h.epoch)))) (num_con (IntKind.u64.wrap (h.epoch)) G) stab_end
    · refine stab_of 6 16 (Sr ((([3] : List Int).map fun n => UInt8.ofNat n.toNat) ++ (numB (IntKind.u64.wrap (h.epoch))))) [(11, Sr (([3] : List Int).map fun n => UInt8.ofNat n.toNat)), (15, Sr (numB (IntKind.u64.wrap (h.epoch))))] (fun X => ?_)
      exact runL_cat 16 (([3] : List Int).map fun n => UInt8.ofNat n.toNat) (numB (IntKind.u64.wrap (h.epoch))) (by simp) stab_end
    · refine stab_of 9 19 (Sr (numB h.root)) [(18, U h.root)] (fun X => ?_)
      exact runL_callV 19 (Sr (numB h.root)) (num_con h.root G) stab_end
    · refine stab_of 10 20 (Sr (((([3] : List Int).map fun n => UInt8.ofNat n.toNat) ++ (numB (IntKind.u64.wrap (h.epoch)))) ++ (numB h.root))) [(16, Sr ((([3] : List Int).map fun n => UInt8.ofNat n.toNat) ++ (numB (IntKind.u64.wrap (h.epoch))))), (19, Sr (numB h.root))] (fun X => ?_)
      exact runL_cat 20 ((([3] : List Int).map fun n => UInt8.ofNat n.toNat) ++ (numB (IntKind.u64.wrap (h.epoch)))) (numB h.root) (by simp) stab_end
    · refine stab_of 13 23 (Sr (numB h.prev)) [(22, U h.prev)] (fun X => ?_)
      exact runL_callV 23 (Sr (numB h.prev)) (num_con h.prev G) stab_end
    · refine stab_of 14 24 (Sr ((((([3] : List Int).map fun n => UInt8.ofNat n.toNat) ++ (numB (IntKind.u64.wrap (h.epoch)))) ++ (numB h.root)) ++ (numB h.prev))) [(20, Sr (((([3] : List Int).map fun n => UInt8.ofNat n.toNat) ++ (numB (IntKind.u64.wrap (h.epoch)))) ++ (numB h.root))), (23, Sr (numB h.prev))] (fun X => ?_)
      exact runL_cat 24 (((([3] : List Int).map fun n => UInt8.ofNat n.toNat) ++ (numB (IntKind.u64.wrap (h.epoch)))) ++ (numB h.root)) (numB h.prev) (by simp) stab_end
    · refine stab_of 18 28 (Sr (numB (IntKind.u64.wrap (h.at_)))) [(27, U (IntKind.u64.wrap (h.at_)))] (fun X => ?_)
      exact runL_callV 28 (Sr (numB (IntKind.u64.wrap (h.at_)))) (num_con (IntKind.u64.wrap (h.at_)) G) stab_end
    · refine stab_of 19 29 (Sr (((((([3] : List Int).map fun n => UInt8.ofNat n.toNat) ++ (numB (IntKind.u64.wrap (h.epoch)))) ++ (numB h.root)) ++ (numB h.prev)) ++ (numB (IntKind.u64.wrap (h.at_))))) [(24, Sr ((((([3] : List Int).map fun n => UInt8.ofNat n.toNat) ++ (numB (IntKind.u64.wrap (h.epoch)))) ++ (numB h.root)) ++ (numB h.prev))), (28, Sr (numB (IntKind.u64.wrap (h.at_))))] (fun X => ?_)
      exact runL_cat 29 ((((([3] : List Int).map fun n => UInt8.ofNat n.toNat) ++ (numB (IntKind.u64.wrap (h.epoch)))) ++ (numB h.root)) ++ (numB h.prev)) (numB (IntKind.u64.wrap (h.at_))) (by simp) stab_end
    refine tq_then ?_
    refine tc_ret ?_
    refine tq_ret [0, 0] [Sr (((((([3] : List Int).map fun n => UInt8.ofNat n.toNat) ++ (numB (IntKind.u64.wrap (h.epoch)))) ++ (numB h.root)) ++ (numB h.prev)) ++ (numB (IntKind.u64.wrap (h.at_)))), I 0] (bp_ret (Mem.le_refl _) ?_)
    first | (unfold headSaid; rw [if_pos (by omega)]; rfl) | (unfold headSaid; rw [if_neg (by omega)]; rfl)

theorem headRead_con (s : List UInt8) (G : Mem) : Con Tryz.prog 45 #[Sr s] G [] (fun u G' L' => u = .tuple #[.agg #[I (((headRead s).1).epoch), U (((headRead s).1).root), U (((headRead s).1).prev), I (((headRead s).1).at_)], I ((headRead s).2)]) := by
  refine con_of Tryz.func45 50 [(0, Sr s)] rfl (fun w0 G0 => ?_)
  refine tc_seq ?_
  refine tc_region ?_
  refine runL_box 2 #[I 0, U 0, U 0, I 0] 24 (fun b1 => ?_)
  refine runL_bn [0] [] ?_
  refine runL_nil ?_
  refine tq_then ?_
  refine tc_seq ?_
  refine tc_seq ?_
  refine tc_region ?_
  refine runL_bn [0,0,0,0] [(10, Bo (!decide (((s).length : Int) = 33)))] ?_
  refine runL_casesT [10] (!decide (((s).length : Int) = 33)) (fun h1 => ?_) (fun h1 => ?_)
  ·
    refine runL_bn [1,1,1,0] [(14, Bo true)] ?_
    refine runL_nil ?_
    refine tq_then ?_
    refine tc_cond_true ?_
    refine tc_rbn [0,3,0] [(3, I 3)] ?_
    refine tc_ret ?_
    refine tq_then_ret ?_
    refine tq_ret [0, 0] [.agg #[I 0, U 0, U 0, I 0], I 3] (bp_ret (Mem.le_refl _) ?_)
    first | (rw [headRead_l (by omega)]; rfl) | (rw [headRead_b hy1 (by omega)]; rfl) | (rw [headRead_c (by omega) hy1 (by omega) (by unfold headGot; omega)]; rfl) | (rw [headRead_d (by omega) hy1 (by omega) (by unfold headGot; omega)]; rfl)
  ·
    refine runL_bn [0] [(11, Sr s)] ?_
    obtain ⟨y1, hy1⟩ := getX (l := s) (k := 0) (by omega)
    refine runL_sidx (ik := .i64) 12 0 y1 hy1 ?_
    refine runL_bn [0,0] [(14, Bo (!decide ((y1.toNat : Int) = 3)))] ?_
    refine runL_nil ?_
    refine tq_then ?_
    refine tc_condP (!decide ((y1.toNat : Int) = 3)) (fun h2 => ?_) (fun h2 => ?_)
    ·
      refine tc_rbn [0,3,0] [(3, I 3)] ?_
      refine tc_ret ?_
      refine tq_then_ret ?_
      refine tq_ret [0, 0] [.agg #[I 0, U 0, U 0, I 0], I 3] (bp_ret (Mem.le_refl _) ?_)
      first | (rw [headRead_l (by omega)]; rfl) | (rw [headRead_b hy1 (by omega)]; rfl) | (rw [headRead_c (by omega) hy1 (by omega) (by unfold headGot; omega)]; rfl) | (rw [headRead_d (by omega) hy1 (by omega) (by unfold headGot; omega)]; rfl)
    ·
      refine tc_skip ?_
      refine tq_then ?_
      refine tc_seq ?_
      refine tc_region ?_
      refine runL_box 4 #[U 0, U 0, U 0, U 0] 145 (fun b2 => ?_)
      refine runL_nil ?_
      refine tq_then ?_
      refine tc_seq ?_
      refine tc_rbn [0] [(16, I 0)] ?_
      refine tc_block ?_
      refine tc_unroll 5 ?_
      refine ti_step ?_
      refine tc_rbn [0] [(17, Bo true)] ?_
      refine tc_seq ?_
      refine tc_cond_true ?_
      refine tc_skip ?_
      refine tq_then ?_
      refine tc_seq ?_
      refine tc_block ?_
      refine tc_rbn [0,0] [(5, I 0)] ?_
      refine tc_region ?_
      refine runL_bn [0,0,0,0,0,0,0,0] [(20, I 0), (21, Sr s), (24, I 1), (27, I 9)] ?_
      refine runL_ssl (l := s) 28 (some (I 1)) (some (I 9)) 1 9 (.inr ⟨_, rfl⟩) (.inr ⟨_, rfl⟩) (by omega) (by omega) ?_
      refine runL_callV 29 (.tuple #[U ((readNum (((s).take 9).drop 1)).1), I ((readNum (((s).take 9).drop 1)).2)]) (readNum_con (((s).take 9).drop 1) G) ?_
      refine runL_bsn [0,0,0,0,3] [] [[Sg b2 0 [U ((readNum (((s).take 9).drop 1)).1), U 0, U 0, U 0]], [Sg b1 0 [I 0, U 0, U 0, I 0]]] ?_
      refine runL_nil ?_
      refine tq_block ?_
      refine tq_then ?_
      refine tc_region ?_
      refine runL_bn [0,0] [(16, I 1)] ?_
      refine runL_nil ?_
      refine tq_iter ?_
      refine ti_step ?_
      refine tc_rbn [0] [(17, Bo true)] ?_
      refine tc_seq ?_
      refine tc_cond_true ?_
      refine tc_skip ?_
      refine tq_then ?_
      refine tc_seq ?_
      refine tc_block ?_
      refine tc_rbn [0,0] [(5, I 1)] ?_
      refine tc_region ?_
      refine runL_bn [0,0,0,0,0,0,0,0] [(20, I 1), (21, Sr s), (24, I 9), (27, I 17)] ?_
      refine runL_ssl (l := s) 28 (some (I 9)) (some (I 17)) 9 17 (.inr ⟨_, rfl⟩) (.inr ⟨_, rfl⟩) (by omega) (by omega) ?_
      refine runL_callV 29 (.tuple #[U ((readNum (((s).take 17).drop 9)).1), I ((readNum (((s).take 17).drop 9)).2)]) (readNum_con (((s).take 17).drop 9) G) ?_
      refine runL_bsn [0,0,0,0,3] [] [[Sg b2 0 [U ((readNum (((s).take 9).drop 1)).1), U ((readNum (((s).take 17).drop 9)).1), U 0, U 0]], [Sg b1 0 [I 0, U 0, U 0, I 0]]] ?_
      refine runL_nil ?_
      refine tq_block ?_
      refine tq_then ?_
      refine tc_region ?_
      refine runL_bn [0,0] [(16, I 2)] ?_
      refine runL_nil ?_
      refine tq_iter ?_
      refine ti_step ?_
      refine tc_rbn [0] [(17, Bo true)] ?_
      refine tc_seq ?_
      refine tc_cond_true ?_
      refine tc_skip ?_
      refine tq_then ?_
      refine tc_seq ?_
      refine tc_block ?_
      refine tc_rbn [0,0] [(5, I 2)] ?_
      refine tc_region ?_
      refine runL_bn [0,0,0,0,0,0,0,0] [(20, I 2), (21, Sr s), (24, I 17), (27, I 25)] ?_
      refine runL_ssl (l := s) 28 (some (I 17)) (some (I 25)) 17 25 (.inr ⟨_, rfl⟩) (.inr ⟨_, rfl⟩) (by omega) (by omega) ?_
      refine runL_callV 29 (.tuple #[U ((readNum (((s).take 25).drop 17)).1), I ((readNum (((s).take 25).drop 17)).2)]) (readNum_con (((s).take 25).drop 17) G) ?_
      refine runL_bsn [0,0,0,0,3] [] [[Sg b2 0 [U ((readNum (((s).take 9).drop 1)).1), U ((readNum (((s).take 17).drop 9)).1), U ((readNum (((s).take 25).drop 17)).1), U 0]], [Sg b1 0 [I 0, U 0, U 0, I 0]]] ?_
      refine runL_nil ?_
      refine tq_block ?_
      refine tq_then ?_
      refine tc_region ?_
      refine runL_bn [0,0] [(16, I 3)] ?_
      refine runL_nil ?_
      refine tq_iter ?_
      refine ti_step ?_
      refine tc_rbn [0] [(17, Bo true)] ?_
      refine tc_seq ?_
      refine tc_cond_true ?_
      refine tc_skip ?_
      refine tq_then ?_
      refine tc_seq ?_
      refine tc_block ?_
      refine tc_rbn [0,0] [(5, I 3)] ?_
      refine tc_region ?_
      refine runL_bn [0,0,0,0,0,0,0,0] [(20, I 3), (21, Sr s), (24, I 25), (27, I 33)] ?_
      refine runL_ssl (l := s) 28 (some (I 25)) (some (I 33)) 25 33 (.inr ⟨_, rfl⟩) (.inr ⟨_, rfl⟩) (by omega) (by omega) ?_
      refine runL_callV 29 (.tuple #[U ((readNum (((s).take 33).drop 25)).1), I ((readNum (((s).take 33).drop 25)).2)]) (readNum_con (((s).take 33).drop 25) G) ?_
      refine runL_bsn [0,0,0,0,3] [] [[Sg b2 0 [U ((readNum (((s).take 9).drop 1)).1), U ((readNum (((s).take 17).drop 9)).1), U ((readNum (((s).take 25).drop 17)).1), U ((readNum (((s).take 33).drop 25)).1)]], [Sg b1 0 [I 0, U 0, U 0, I 0]]] ?_
      refine runL_nil ?_
      refine tq_block ?_
      refine tq_then ?_
      refine tc_region ?_
      refine runL_bn [0,0] [(16, I 4)] ?_
      refine runL_nil ?_
      refine tq_iter ?_
      refine ti_step ?_
      refine tc_rbn [0] [(17, Bo false)] ?_
      refine tc_seq ?_
      refine tc_cond_false ?_
      refine tc_exit ?_
      refine tq_then_exit ?_
      refine tq_then_exit ?_
      refine tq_block_here ?_
      refine tq_then ?_
      refine tc_seq ?_
      refine tc_region ?_
      refine runL_bn [0,2,0,0,2,0,2,0,2,0,0] [(44, .agg #[I (IntKind.i64.wrap ((readNum (((s).take 9).drop 1)).1)), U ((readNum (((s).take 17).drop 9)).1), U ((readNum (((s).take 25).drop 17)).1), I (IntKind.i64.wrap ((readNum (((s).take 33).drop 25)).1))])] ?_
      refine runL_box 6 #[I 0, U 0, U 0, I 0] 24 (fun b3 => ?_)
      refine runL_bsn [3] [] [[Sg b3 0 [I (IntKind.i64.wrap ((readNum (((s).take 9).drop 1)).1)), U ((readNum (((s).take 17).drop 9)).1), U ((readNum (((s).take 25).drop 17)).1), I (IntKind.i64.wrap ((readNum (((s).take 33).drop 25)).1))]], [Sg b2 0 [U ((readNum (((s).take 9).drop 1)).1), U ((readNum (((s).take 17).drop 9)).1), U ((readNum (((s).take 25).drop 17)).1), U ((readNum (((s).take 33).drop 25)).1)]], [Sg b1 0 [I 0, U 0, U 0, I 0]]] ?_
      refine runL_nil ?_
      refine tq_then ?_
      refine tc_seq ?_
      refine tc_seq ?_
      refine tc_region ?_
      refine runL_bn [2] [(45, .agg #[I (IntKind.i64.wrap ((readNum (((s).take 9).drop 1)).1)), U ((readNum (((s).take 17).drop 9)).1), U ((readNum (((s).take 25).drop 17)).1), I (IntKind.i64.wrap ((readNum (((s).take 33).drop 25)).1))])] ?_
      refine runL_callV 46 (I (headCheck (⟨IntKind.i64.wrap ((readNum (((s).take 9).drop 1)).1), (readNum (((s).take 17).drop 9)).1, (readNum (((s).take 25).drop 17)).1, IntKind.i64.wrap ((readNum (((s).take 33).drop 25)).1)⟩ : HeadD))) (headCheck_con (⟨IntKind.i64.wrap ((readNum (((s).take 9).drop 1)).1), (readNum (((s).take 17).drop 9)).1, (readNum (((s).take 25).drop 17)).1, IntKind.i64.wrap ((readNum (((s).take 33).drop 25)).1)⟩ : HeadD) G) ?_
      refine runL_bn [0] [(47, Bo (!decide (headCheck (⟨IntKind.i64.wrap ((readNum (((s).take 9).drop 1)).1), (readNum (((s).take 17).drop 9)).1, (readNum (((s).take 25).drop 17)).1, IntKind.i64.wrap ((readNum (((s).take 33).drop 25)).1)⟩ : HeadD) = 0)))] ?_
      refine runL_nil ?_
      refine tq_then ?_
      refine tc_condP (!decide (headCheck (⟨IntKind.i64.wrap ((readNum (((s).take 9).drop 1)).1), (readNum (((s).take 17).drop 9)).1, (readNum (((s).take 25).drop 17)).1, IntKind.i64.wrap ((readNum (((s).take 33).drop 25)).1)⟩ : HeadD) = 0)) (fun h3 => ?_) (fun h3 => ?_)
      ·
        refine tc_rbn [0,7,0] [(3, I 3)] ?_
        refine tc_ret ?_
        refine tq_then_ret ?_
        refine tq_ret [2, 0] [.agg #[I 0, U 0, U 0, I 0], I 3] (bp_ret (Mem.le_refl _) ?_)
        first | (rw [headRead_l (by omega)]; rfl) | (rw [headRead_b hy1 (by omega)]; rfl) | (rw [headRead_c (by omega) hy1 (by omega) (by unfold headGot; omega)]; rfl) | (rw [headRead_d (by omega) hy1 (by omega) (by unfold headGot; omega)]; rfl)
      ·
        refine tc_skip ?_
        refine tq_then ?_
        refine tc_rbsn [2,7,0] [(3, I 0)] [[Sg b3 0 [I (IntKind.i64.wrap ((readNum (((s).take 9).drop 1)).1)), U ((readNum (((s).take 17).drop 9)).1), U ((readNum (((s).take 25).drop 17)).1), I (IntKind.i64.wrap ((readNum (((s).take 33).drop 25)).1))]], [Sg b2 0 [U ((readNum (((s).take 9).drop 1)).1), U ((readNum (((s).take 17).drop 9)).1), U ((readNum (((s).take 25).drop 17)).1), U ((readNum (((s).take 33).drop 25)).1)]], [Sg b1 0 [I (IntKind.i64.wrap ((readNum (((s).take 9).drop 1)).1)), U ((readNum (((s).take 17).drop 9)).1), U ((readNum (((s).take 25).drop 17)).1), I (IntKind.i64.wrap ((readNum (((s).take 33).drop 25)).1))]]] ?_
        refine tc_ret ?_
        refine tq_ret [2, 0] [.agg #[I (IntKind.i64.wrap ((readNum (((s).take 9).drop 1)).1)), U ((readNum (((s).take 17).drop 9)).1), U ((readNum (((s).take 25).drop 17)).1), I (IntKind.i64.wrap ((readNum (((s).take 33).drop 25)).1))], I 0] (bp_ret (Mem.le_refl _) ?_)
        first | (rw [headRead_l (by omega)]; rfl) | (rw [headRead_b hy1 (by omega)]; rfl) | (rw [headRead_c (by omega) hy1 (by omega) (by unfold headGot; omega)]; rfl) | (rw [headRead_d (by omega) hy1 (by omega) (by unfold headGot; omega)]; rfl)
end Go.Proofs.YtpofnmobbbcpgaaGreatDoor
