import Derived.Test.YtgcnkcajfjpbcaaWire
import Derived.Test.YtgcnkcajfjpbcaaStr
import Derived.Test.YtgcnkcajfjpbcaaSl
namespace Go.Proofs.Ytgcnkcajfjpbcaa
open Go.Tx
set_option linter.unusedVariables false
set_option linter.unusedSimpArgs false

theorem putC_first (p r : List UInt8) (h : p.length ≤ 600) : wFirst0 (putC p ++ r) = (p, r, true) := by
  have e1 : (byteI (IntKind.u8.wrap ((p.length : Int).fdiv (2 ^ 8)))).toNat * 256 + (byteI (IntKind.u8.wrap (p.length : Int))).toNat = p.length := by
    have a := byteI_eq (u8w ((p.length : Int).fdiv (2 ^ 8)))
    have b := byteI_eq (u8w (p.length : Int))
    rw [wrap_u8] at a b
    rw [Int.fdiv_eq_ediv_of_nonneg _ (by decide)] at a
    rw [Int.fdiv_eq_ediv_of_nonneg _ (by decide), wrap_u8, wrap_u8]
    omega
  show wFirst0 (byteI _ :: byteI _ :: (p ++ r)) = _
  unfold wFirst0
  simp only
  rw [e1, if_pos (by simp)]
  simp
theorem putOk_bd : ∀ (l : List (List UInt8)) (n : Nat), n ≤ 600 → putOk n l = true → n + (putT l).length ≤ 600 ∧ ∀ p ∈ l, p.length ≤ 600
  | [], n, h, _ => by simp [putT]; exact h
  | p :: l, n, _, h => by
    unfold putOk at h
    simp only [Bool.and_eq_true, decide_eq_true_eq] at h
    have := putOk_bd l _ h.1 h.2
    refine ⟨?_, fun q hq => ?_⟩
    · have e : (putT (p :: l)).length = 2 + p.length + (putT l).length := by simp [putT, putC]; omega
      omega
    · rcases List.mem_cons.1 hq with rfl | hq
      · omega
      · exact this.2 q hq
theorem putOk_iff : ∀ (l : List (List UInt8)) (n : Nat), n ≤ 600 → n + (putT l).length ≤ 600 → putOk n l = true
  | [], _, _, _ => rfl
  | p :: l, n, _, h => by
    have e : (putT (p :: l)).length = 2 + p.length + (putT l).length := by simp [putT, putC]; omega
    unfold putOk
    simp only [Bool.and_eq_true, decide_eq_true_eq]
    exact ⟨by omega, putOk_iff l _ (by omega) (by omega)⟩
theorem putT_append (a b : List (List UInt8)) : putT (a ++ b) = putT a ++ putT b := by simp [putT]
theorem wPut_ok {l : List (List UInt8)} (h : (wPut l).2 = 0) : l.length ≤ 60 ∧ (putT l).length ≤ 600 ∧ (∀ p ∈ l, p.length ≤ 600) ∧ wPut l = (putT l, 0) := by
  unfold wPut at h ⊢
  split at h
  · cases h
  split at h
  · rename_i h1 h2
    have := putOk_bd l 0 (by omega) h2
    rw [if_neg h1, if_pos h2]
    exact ⟨by omega, by omega, this.2, rfl⟩
  · cases h
theorem wPut_of {l : List (List UInt8)} (h : l.length ≤ 60) (h2 : (putT l).length ≤ 600) : wPut l = (putT l, 0) := by
  unfold wPut
  rw [if_neg (by omega), if_pos (putOk_iff l 0 (by omega) (by omega))]
theorem wPut_len (l : List (List UInt8)) : (wPut l).1.length ≤ 600 := by
  by_cases h : (wPut l).2 = 0
  · obtain ⟨_, h2, _, h4⟩ := wPut_ok h
    rw [h4]; exact h2
  · have : (wPut l).1 = [] := by
      revert h; unfold wPut; (repeat' split) <;> simp
    rw [this]; simp
theorem wPut_err {l : List (List UInt8)} (h : ¬ (wPut l).2 = 0) : (wPut l).1 = [] := by
  revert h; unfold wPut; (repeat' split) <;> simp
theorem getN_put : ∀ (l : List (List UInt8)) (n : Nat) (o : List (List UInt8)), (∀ p ∈ l, p.length ≤ 600) → (putT l).length < n → o.length + l.length ≤ 60 → getN n (putT l) o = (o ++ l, 0)
  | [], n + 1, o, _, _, _ => by
    have : putT [] = [] := rfl
    unfold getN; rw [if_pos this, List.append_nil]
  | p :: l, n + 1, o, h, hn, ho => by
    have e : putT (p :: l) = putC p ++ putT l := by simp [putT]
    have e2 : (putC p).length = 2 + p.length := by simp [putC]; omega
    have hf := putC_first p (putT l) (h p (by simp))
    rw [e] at hn ⊢
    unfold getN
    rw [if_neg (by simp [putC]), hf, if_neg (by simp at ho ⊢; omega)]
    simp only
    rw [getN_put l n _ (fun q hq => h q (by simp [hq])) (by rw [List.length_append] at hn; omega) (by simp at ho ⊢; omega)]
    simp
theorem wGet_put {l : List (List UInt8)} (h : (wPut l).2 = 0) : wGet (wPut l).1 = (l, 0) := by
  obtain ⟨h1, h2, h3, h4⟩ := wPut_ok h
  rw [h4]
  unfold wGet
  rw [if_neg (by simp only; omega)]
  simpa using getN_put l _ [] h3 (by simp) (by simpa using h1)
theorem first_put {q : List UInt8} (h : (wFirst0 q).2.2 = true) : putC (wFirst0 q).1 ++ (wFirst0 q).2.1 = q := by
  revert h
  unfold wFirst0
  split
  · rename_i a b r
    split
    · rename_i hl
      intro _
      have ha := a.toNat_lt; have hb := b.toNat_lt
      have hlen : (r.take (a.toNat * 256 + b.toNat)).length = a.toNat * 256 + b.toNat := by simp; omega
      unfold putC
      simp only [hlen]
      rw [Int.fdiv_eq_ediv_of_nonneg _ (by decide), wrap_u8, wrap_u8]
      have e1 : byteI ((((a.toNat * 256 + b.toNat : Nat) : Int) / 2 ^ 8) % 256) = a := by
        unfold byteI; apply UInt8.toNat.inj; rw [UInt8.toNat_ofNat']; omega
      have e2 : byteI (((a.toNat * 256 + b.toNat : Nat) : Int) % 256) = b := by
        unfold byteI; apply UInt8.toNat.inj; rw [UInt8.toNat_ofNat']; omega
      rw [e1, e2]; simp
    · intro h; cases h
  · intro h; cases h
theorem getN_back : ∀ (n : Nat) (q : List UInt8) (o : List (List UInt8)), o.length ≤ 60 → (getN n q o).2 = 0 → ∃ m, (getN n q o).1 = o ++ m ∧ putT m = q ∧ o.length + m.length ≤ 60
  | 0, _, _, _, h => by simp [getN] at h
  | n + 1, q, o, ho, h => by
    unfold getN at h ⊢
    split at h
    · rename_i hq; rw [if_pos hq]; exact ⟨[], by simp, by simp [putT, hq], by simpa using ho⟩
    · rename_i hq
      split at h
      · cases h
      · rename_i h1
        rw [if_neg hq, if_neg h1]
        have hb : (wFirst0 q).2.2 = true := by
          cases hh : (wFirst0 q).2.2 with
          | true => rfl
          | false => exact absurd (.inl hh) h1
        have hn : ¬ o.length = 60 := fun hh => h1 (.inr hh)
        obtain ⟨m, e1, e2, e3⟩ := getN_back n _ _ (by simp; omega) h
        refine ⟨(wFirst0 q).1 :: m, by rw [e1]; simp, ?_, by simp at e3 ⊢; omega⟩
        have e4 : putT ((wFirst0 q).1 :: m) = putC (wFirst0 q).1 ++ putT m := by simp [putT]
        rw [e4, e2]
        exact first_put hb
theorem getN_err : ∀ (n : Nat) (q : List UInt8) (o : List (List UInt8)), ¬ (getN n q o).2 = 0 → (getN n q o).1 = []
  | 0, _, _, _ => by simp [getN]
  | n + 1, q, o, h => by
    unfold getN at h ⊢
    split at h
    · exact absurd rfl h
    · rename_i hq
      split at h
      · rename_i h1; rw [if_neg hq, if_pos h1]
      · rename_i h1; rw [if_neg hq, if_neg h1]; exact getN_err n _ _ h
theorem wGet_back {s : List UInt8} (h : (wGet s).2 = 0) : wPut (wGet s).1 = (s, 0) := by
  unfold wGet at h ⊢
  split at h
  · cases h
  · rename_i hs
    rw [if_neg hs]
    obtain ⟨m, e1, e2, e3⟩ := getN_back _ s [] (by simp) h
    rw [e1, List.nil_append]
    rw [wPut_of (by simpa using e3) (by rw [e2]; omega), e2]
theorem wGet_err {s : List UInt8} (h : ¬ (wGet s).2 = 0) : (wGet s).1 = [] := by
  unfold wGet at h ⊢
  split at h
  · rename_i hs; rw [if_pos hs]
  · rename_i hs; rw [if_neg hs]; exact getN_err _ _ _ h
theorem readNum_num {n : Int} (h : 0 ≤ n ∧ n < 18446744073709551616) : readNum (numB n) = (n, 0) := by
  unfold readNum; rw [if_pos (by simp), readN_numB h.1 h.2]
theorem wJoin_ok {a b : List (List UInt8)} (h : (wPut (a ++ b)).2 = 0) : (wPut a).2 = 0 ∧ (wPut b).2 = 0 ∧ (wPut (a ++ b)).1 = (wPut a).1 ++ (wPut b).1 := by
  obtain ⟨h1, h2, h3, h4⟩ := wPut_ok h
  rw [putT_append] at h2 h4
  simp only [List.length_append] at h1 h2
  have ha := wPut_of (l := a) (by omega) (by omega)
  have hb := wPut_of (l := b) (by omega) (by omega)
  rw [h4, ha, hb]
  exact ⟨rfl, rfl, rfl⟩
theorem wJoin_first {p : List UInt8} {l : List (List UInt8)} (h : (wPut (p :: l)).2 = 0) : wFirst (wPut (p :: l)).1 = (p, putT l, 0) ∧ wPut l = (putT l, 0) := by
  obtain ⟨h1, h2, h3, h4⟩ := wPut_ok h
  have e : putT (p :: l) = putC p ++ putT l := by simp [putT]
  have e2 : (putC p).length = 2 + p.length := by simp [putC]; omega
  rw [h4]
  rw [e] at h2 ⊢
  rw [List.length_append] at h2
  have hf := putC_first p (putT l) (h3 p (by simp))
  refine ⟨?_, wPut_of (by simp at h1; omega) (by omega)⟩
  unfold wFirst
  simp only
  rw [if_neg (by rw [List.length_append]; omega), hf, if_pos rfl]
theorem wJoin_hd {l : List (List UInt8)} {x : List UInt8} (hx : l[0]? = some x) (h : (wPut l).2 = 0) : wFirst (wPut l).1 = (x, putT (l.drop 1), 0) ∧ wPut (l.drop 1) = (putT (l.drop 1), 0) := by
  match l, hx with
  | y :: r, hx => simp at hx; subst hx; exact wJoin_first h
theorem wJoin_case {l : List (List UInt8)} {P : Prop} (h1 : l = [] → P) (h2 : ∀ x, l[0]? = some x → ((wPut l).2 = 0 → wFirst (wPut l).1 = (x, putT (l.drop 1), 0) ∧ wPut (l.drop 1) = (putT (l.drop 1), 0)) → P) : P := by
  match l, h1, h2 with
  | [], h1, _ => exact h1 rfl
  | y :: r, _, h2 => exact h2 y rfl (fun h => wJoin_hd rfl h)
theorem lconcat2 {α : Type} (a b : List α) : lconcat [a, b] = a ++ b := by simp [lconcat]

theorem wires_con (G : Mem)   : Con Try.prog 37 #[] G [] (fun u G' L' => u = Bo true) := by
  refine con_of Try.func37 14 [] rfl (fun w0 G0 => ?_)
  refine tc_rb [0] [(0, Bo false)] ?_
  refine tc_seq ?_
  refine tc_region ?_
  refine runL_bsl 4 1 #[Sr ([97])] 9 (fun b1 => ?_)
  refine runL_frz1 (b := b1) (o := 0) (cs := [Sr ([97])]) 0 (fun G1 hl1 hz1 => ?_)
  have hs1 : RS ES G1 (At b1 0) 1 [[97]] := RS.lit [[Sr ([97])]] [[97]] ⟨⟨rfl, (Nat.le_of_ble_eq_true rfl)⟩, trivial⟩ hz1 (Nat.le_of_ble_eq_true rfl) (Nat.le_of_ble_eq_true rfl)
  refine runL_callV 5 (.tuple #[Sr ((wPut ([[97]])).1), I ((wPut ([[97]])).2)]) (wPut_con G1 (At b1 0) 1 ([[97]]) hs1) ?_
  refine runL_b [0,0,0,0,0] [(0, Bo false), (1, Sr ((wPut ([[97]])).1)), (2, I ((wPut ([[97]])).2))] ?_
  refine runL_nil ?_
  refine tq_then ?_
  refine tc_seq ?_
  refine tc_region ?_
  refine runL_b [0,0,0] [(0, Bo false), (1, Sr ((wPut ([[97]])).1)), (10, Bo (decide ((wPut ([[97]])).2 = 0)))] ?_
  refine runL_b2 (decide ((wPut ([[97]])).2 = 0)) (fun bb => [(0, Bo false), (1, Sr ((wPut ([[97]])).1)), (10, Bo bb)]) [0,0,0] [1,1,0] (fun bb => [(0, Bo false), (13, Bo (bb && (((B ((wPut ([[97]])).1)).toList == (B ([0, 1, 97])).toList))))]) ?_
  refine runL_eq (fr' := [(0, Bo false), (13, Bo ((decide ((wPut ([[97]])).2 = 0)) && (((wPut ([[97]])).1 == [0, 1, 97]))))]) (L' := [[]]) (by simp only [B_toList]) (by rfl) ?_
  refine runL_b [0] [(0, Bo ((decide ((wPut ([[97]])).2 = 0)) && (((wPut ([[97]])).1 == [0, 1, 97]))))] ?_
  refine runL_nil ?_
  refine tq_then ?_
  refine tc_ret ?_
  refine tq_ret [0] [Bo ((decide ((wPut ([[97]])).2 = 0)) && (((wPut ([[97]])).1 == [0, 1, 97])))] (bp_ret hl1 ?_)
  have hf_ : ((decide ((wPut ([[97]])).2 = 0)) && (((wPut ([[97]])).1 == [0, 1, 97]))) = true := by
    decide
  exact congrArg Bo hf_

theorem wireBack_con (G : Mem) (a_l : Option Addr) (c_l : Nat) (l : List ((List UInt8))) (h_l : RS ES G a_l c_l l) (s : List UInt8) (hw_s : (s).length ≤ 140737488351232) (n : Int) (hw_n : 0 ≤ n ∧ n < 18446744073709551616) (hf_l : l.length * 16 ≤ 140737488351232) : Con Try.prog 9 #[Sl a_l l.length c_l, Sr s, U n] G [] (fun u G' L' => u = Bo true) := by
  refine con_of Try.func9 82 [(0, Sl a_l l.length c_l), (1, Sr s), (2, U n)] rfl (fun w0 G0 => ?_)
  refine tc_rb [0] [(0, Sl a_l l.length c_l), (1, Sr s), (2, U n), (6, Bo false)] ?_
  refine tc_seq ?_
  refine tc_seq ?_
  refine tc_region ?_
  refine runL_callV 17 (Bo true) (wires_con G) ?_
  refine runL_b [0] [(0, Sl a_l l.length c_l), (1, Sr s), (2, U n), (6, Bo false), (18, Bo false)] ?_
  refine runL_nil ?_
  refine tq_then ?_
  refine tc_cond_false ?_
  refine tc_skip ?_
  refine tq_then ?_
  refine tc_seq ?_
  refine tc_region ?_
  refine runL_b [0] [(0, Sl a_l l.length c_l), (1, Sr s), (2, U n), (6, Bo false), (18, Bo false), (20, Sl a_l l.length c_l)] ?_
  refine runL_callV 21 (.tuple #[Sr ((wPut l).1), I ((wPut l).2)]) (wPut_con G a_l c_l l h_l) ?_
  refine runL_b [0,0,0,0,0] [(0, Sl a_l l.length c_l), (1, Sr s), (2, U n), (6, Bo false), (7, Sr ((wPut l).1)), (8, I ((wPut l).2)), (18, Bo false)] ?_
  refine runL_nil ?_
  refine tq_then ?_
  refine tc_seq ?_
  refine tc_rb [0,0] [(0, Sl a_l l.length c_l), (1, Sr s), (2, U n), (6, Bo false), (7, Sr ((wPut l).1)), (18, Bo false), (25, Bo (decide ((wPut l).2 = 0)))] ?_
  refine tc_cond (decide ((wPut l).2 = 0)) (fun h1 => ?_) (fun h1 => ?_)
  ·
    try simp only [decide_eq_true_eq, decide_eq_false_iff_not, Bool.and_eq_true, Bool.or_eq_true, Bool.and_eq_false_imp, Bool.or_eq_false_iff, Bool.not_eq_true', Bool.not_eq_false', Bool.not_eq_true, Bool.not_eq_false, beq_iff_eq, beq_eq_false_iff_ne, bne_iff_ne, ne_eq, Decidable.not_not, Int.not_lt, Int.not_le] at h1
    refine tc_seq ?_
    refine tc_region ?_
    refine runL_b [0] [(0, Sl a_l l.length c_l), (1, Sr s), (2, U n), (6, Bo false), (18, Bo false), (25, Bo (decide ((wPut l).2 = 0))), (27, Sr ((wPut l).1))] ?_
    refine runL_callR 28 (wGet_con G ((wPut l).1)) (fun v G1 L1 hl1 hp => ?_)
    obtain ⟨a1, c1, r1, rfl, hr1, rfl⟩ := hp
    refine runL_b [0,0,0,0,0] [(0, Sl a_l l.length c_l), (1, Sr s), (2, U n), (6, Bo false), (9, Sl a1 (((wGet ((wPut l).1)).1).length) c1), (10, I ((wGet ((wPut l).1)).2)), (18, Bo false), (25, Bo (decide ((wPut l).2 = 0)))] ?_
    refine runL_nil ?_
    refine tq_then ?_
    refine tc_seq ?_
    refine tc_region ?_
    refine runL_b [0,0,0] [(0, Sl a_l l.length c_l), (1, Sr s), (2, U n), (6, Bo false), (9, Sl a1 (((wGet ((wPut l).1)).1).length) c1), (18, Bo false), (25, Bo (decide ((wPut l).2 = 0))), (33, Bo (!decide ((wGet ((wPut l).1)).2 = 0)))] ?_
    refine runL_cases (fun bb => [(0, Sl a_l l.length c_l), (1, Sr s), (2, U n), (6, Bo false), (9, Sl a1 (((wGet ((wPut l).1)).1).length) c1), (18, Bo false), (25, Bo (decide ((wPut l).2 = 0))), (33, Bo bb)]) (!decide ((wGet ((wPut l).1)).2 = 0)) (fun h2 => ?_) (fun h2 => ?_)
    ·
      try simp only [decide_eq_true_eq, decide_eq_false_iff_not, Bool.and_eq_true, Bool.or_eq_true, Bool.and_eq_false_imp, Bool.or_eq_false_iff, Bool.not_eq_true', Bool.not_eq_false', Bool.not_eq_true, Bool.not_eq_false, beq_iff_eq, beq_eq_false_iff_ne, bne_iff_ne, ne_eq, Decidable.not_not, Int.not_lt, Int.not_le] at h2
      refine runL_b [1,1,1,1,0] [(0, Sl a_l l.length c_l), (1, Sr s), (2, U n), (6, Bo false), (18, Bo false), (25, Bo (decide ((wPut l).2 = 0))), (38, Bo true)] ?_
      refine runL_nil ?_
      refine tq_then ?_
      refine tc_cond_true ?_
      refine tc_rb [0] [(0, Sl a_l l.length c_l), (1, Sr s), (2, U n), (6, Bo false), (18, Bo false), (25, Bo (decide ((wPut l).2 = 0))), (38, Bo true)] ?_
      refine tc_ret ?_
      refine tq_then_ret ?_
      refine tq_ret [0] [Bo false] (bp_ret hl1 ?_)
      exfalso
      have p1 := @wGet_put l; have p2 := @wGet_back s; have p3 := @wGet_err s; have p4 := readNum_num hw_n; clear h_l; grind
    ·
      try simp only [decide_eq_true_eq, decide_eq_false_iff_not, Bool.and_eq_true, Bool.or_eq_true, Bool.and_eq_false_imp, Bool.or_eq_false_iff, Bool.not_eq_true', Bool.not_eq_false', Bool.not_eq_true, Bool.not_eq_false, beq_iff_eq, beq_eq_false_iff_ne, bne_iff_ne, ne_eq, Decidable.not_not, Int.not_lt, Int.not_le] at h2
      refine runL_b [0,0] [(0, Sl a_l l.length c_l), (1, Sr s), (2, U n), (6, Bo false), (18, Bo false), (25, Bo (decide ((wPut l).2 = 0))), (33, Bo false), (34, Sl a_l l.length c_l), (35, Sl a1 (((wGet ((wPut l).1)).1).length) c1)] ?_
      refine runL_frzR (E := ES) 0 hr1 (by have := wGet_len ((wPut l).1); simp only [ES]; omega) (fun G2 hl2 hs1 => ?_)
      refine runL_callV 36 (Bo (decide (l = (wGet ((wPut l).1)).1))) (seq_ES G2 a_l c_l l (h_l.mono (Mem.le_trans hl1 hl2)) a1 c1 ((wGet ((wPut l).1)).1) hs1) ?_
      refine runL_b [0,0] [(0, Sl a_l l.length c_l), (1, Sr s), (2, U n), (6, Bo false), (18, Bo false), (25, Bo (decide ((wPut l).2 = 0))), (38, Bo (!(decide (l = (wGet ((wPut l).1)).1))))] ?_
      refine runL_nil ?_
      refine tq_then ?_
      refine tc_cond (!(decide (l = (wGet ((wPut l).1)).1))) (fun h3 => ?_) (fun h3 => ?_)
      ·
        try simp only [decide_eq_true_eq, decide_eq_false_iff_not, Bool.and_eq_true, Bool.or_eq_true, Bool.and_eq_false_imp, Bool.or_eq_false_iff, Bool.not_eq_true', Bool.not_eq_false', Bool.not_eq_true, Bool.not_eq_false, beq_iff_eq, beq_eq_false_iff_ne, bne_iff_ne, ne_eq, Decidable.not_not, Int.not_lt, Int.not_le] at h3
        refine tc_rb [0] [(0, Sl a_l l.length c_l), (1, Sr s), (2, U n), (6, Bo false), (18, Bo false), (25, Bo (decide ((wPut l).2 = 0))), (38, Bo (!(decide (l = (wGet ((wPut l).1)).1))))] ?_
        refine tc_ret ?_
        refine tq_then_ret ?_
        refine tq_ret [0] [Bo false] (bp_ret (Mem.le_trans hl1 hl2) ?_)
        exfalso
        have p1 := @wGet_put l; have p2 := @wGet_back s; have p3 := @wGet_err s; have p4 := readNum_num hw_n; clear h_l; grind
      ·
        try simp only [decide_eq_true_eq, decide_eq_false_iff_not, Bool.and_eq_true, Bool.or_eq_true, Bool.and_eq_false_imp, Bool.or_eq_false_iff, Bool.not_eq_true', Bool.not_eq_false', Bool.not_eq_true, Bool.not_eq_false, beq_iff_eq, beq_eq_false_iff_ne, bne_iff_ne, ne_eq, Decidable.not_not, Int.not_lt, Int.not_le] at h3
        refine tc_skip ?_
        refine tq_then ?_
        refine tc_seq ?_
        refine tc_region ?_
        refine runL_b [0] [(0, Sl a_l l.length c_l), (1, Sr s), (2, U n), (6, Bo false), (18, Bo false), (25, Bo (decide ((wPut l).2 = 0))), (38, Bo (!(decide (l = (wGet ((wPut l).1)).1)))), (40, Sr s)] ?_
        refine runL_callR 41 (wGet_con G2 s) (fun v G3 L1 hl3 hp => ?_)
        obtain ⟨a2, c2, r2, rfl, hr2, rfl⟩ := hp
        refine runL_b [0,0,0,0,0] [(0, Sl a_l l.length c_l), (1, Sr s), (2, U n), (6, Bo false), (11, Sl a2 (((wGet s).1).length) c2), (12, I ((wGet s).2)), (18, Bo false), (25, Bo (decide ((wPut l).2 = 0))), (38, Bo (!(decide (l = (wGet ((wPut l).1)).1))))] ?_
        refine runL_nil ?_
        refine tq_then ?_
        refine tc_seq ?_
        refine tc_seq ?_
        refine tc_region ?_
        refine runL_b [0] [(0, Sl a_l l.length c_l), (1, Sr s), (2, U n), (6, Bo false), (11, Sl a2 (((wGet s).1).length) c2), (12, I ((wGet s).2)), (18, Bo false), (25, Bo (decide ((wPut l).2 = 0))), (38, Bo (!(decide (l = (wGet ((wPut l).1)).1)))), (45, Sl a2 (((wGet s).1).length) c2)] ?_
        refine runL_frzR (E := ES) 0 hr2 (by have := wGet_len s; simp only [ES]; omega) (fun G4 hl4 hs2 => ?_)
        refine runL_callV 46 (.tuple #[Sr ((wPut ((wGet s).1)).1), I ((wPut ((wGet s).1)).2)]) (wPut_con G4 a2 c2 ((wGet s).1) hs2) ?_
        refine runL_b [0,0,0,0,0] [(0, Sl a_l l.length c_l), (1, Sr s), (2, U n), (6, Bo false), (11, Sl a2 (((wGet s).1).length) c2), (12, I ((wGet s).2)), (13, Sr ((wPut ((wGet s).1)).1)), (14, I ((wPut ((wGet s).1)).2)), (18, Bo false), (25, Bo (decide ((wPut l).2 = 0))), (38, Bo (!(decide (l = (wGet ((wPut l).1)).1))))] ?_
        refine runL_nil ?_
        refine tq_then ?_
        refine tc_seq ?_
        refine tc_region ?_
        refine runL_b [0,0,0] [(0, Sl a_l l.length c_l), (1, Sr s), (2, U n), (6, Bo false), (11, Sl a2 (((wGet s).1).length) c2), (12, I ((wGet s).2)), (13, Sr ((wPut ((wGet s).1)).1)), (14, I ((wPut ((wGet s).1)).2)), (18, Bo false), (25, Bo (decide ((wPut l).2 = 0))), (38, Bo (!(decide (l = (wGet ((wPut l).1)).1)))), (51, Bo (decide ((wGet s).2 = 0)))] ?_
        refine runL_cases (fun bb => [(0, Sl a_l l.length c_l), (1, Sr s), (2, U n), (6, Bo false), (11, Sl a2 (((wGet s).1).length) c2), (12, I ((wGet s).2)), (13, Sr ((wPut ((wGet s).1)).1)), (14, I ((wPut ((wGet s).1)).2)), (18, Bo false), (25, Bo (decide ((wPut l).2 = 0))), (38, Bo (!(decide (l = (wGet ((wPut l).1)).1)))), (51, Bo bb)]) (decide ((wGet s).2 = 0)) (fun h4 => ?_) (fun h4 => ?_)
        ·
          try simp only [decide_eq_true_eq, decide_eq_false_iff_not, Bool.and_eq_true, Bool.or_eq_true, Bool.and_eq_false_imp, Bool.or_eq_false_iff, Bool.not_eq_true', Bool.not_eq_false', Bool.not_eq_true, Bool.not_eq_false, beq_iff_eq, beq_eq_false_iff_ne, bne_iff_ne, ne_eq, Decidable.not_not, Int.not_lt, Int.not_le] at h4
          refine runL_b [0,0,0] [(0, Sl a_l l.length c_l), (1, Sr s), (2, U n), (6, Bo false), (11, Sl a2 (((wGet s).1).length) c2), (12, I ((wGet s).2)), (13, Sr ((wPut ((wGet s).1)).1)), (18, Bo false), (25, Bo (decide ((wPut l).2 = 0))), (38, Bo (!(decide (l = (wGet ((wPut l).1)).1)))), (51, Bo true), (54, Bo (!decide ((wPut ((wGet s).1)).2 = 0)))] ?_
          refine runL_b2 (!decide ((wPut ((wGet s).1)).2 = 0)) (fun bb => [(0, Sl a_l l.length c_l), (1, Sr s), (2, U n), (6, Bo false), (11, Sl a2 (((wGet s).1).length) c2), (12, I ((wGet s).2)), (13, Sr ((wPut ((wGet s).1)).1)), (18, Bo false), (25, Bo (decide ((wPut l).2 = 0))), (38, Bo (!(decide (l = (wGet ((wPut l).1)).1)))), (51, Bo true), (54, Bo bb)]) [1,1,1,0] [0,0,0,0] (fun bb => [(0, Sl a_l l.length c_l), (1, Sr s), (2, U n), (6, Bo false), (11, Sl a2 (((wGet s).1).length) c2), (12, I ((wGet s).2)), (18, Bo false), (25, Bo (decide ((wPut l).2 = 0))), (38, Bo (!(decide (l = (wGet ((wPut l).1)).1)))), (51, Bo true), (58, Bo (bb || (!((B ((wPut ((wGet s).1)).1)).toList == (B s).toList))))]) ?_
          refine runL_eq (fr' := [(0, Sl a_l l.length c_l), (1, Sr s), (2, U n), (6, Bo false), (11, Sl a2 (((wGet s).1).length) c2), (12, I ((wGet s).2)), (18, Bo false), (25, Bo (decide ((wPut l).2 = 0))), (38, Bo (!(decide (l = (wGet ((wPut l).1)).1)))), (51, Bo true), (58, Bo ((!decide ((wPut ((wGet s).1)).2 = 0)) || (!((wPut ((wGet s).1)).1 == s))))]) (L' := [[], []]) (by simp only [B_toList]) (by rfl) ?_
          refine runL_b [0,0] [(0, Sl a_l l.length c_l), (1, Sr s), (2, U n), (6, Bo false), (11, Sl a2 (((wGet s).1).length) c2), (12, I ((wGet s).2)), (18, Bo false), (25, Bo (decide ((wPut l).2 = 0))), (38, Bo (!(decide (l = (wGet ((wPut l).1)).1)))), (60, Bo ((!decide ((wPut ((wGet s).1)).2 = 0)) || (!((wPut ((wGet s).1)).1 == s))))] ?_
          refine runL_cases (fun bb => [(0, Sl a_l l.length c_l), (1, Sr s), (2, U n), (6, Bo false), (11, Sl a2 (((wGet s).1).length) c2), (12, I ((wGet s).2)), (18, Bo false), (25, Bo (decide ((wPut l).2 = 0))), (38, Bo (!(decide (l = (wGet ((wPut l).1)).1)))), (60, Bo bb)]) ((!decide ((wPut ((wGet s).1)).2 = 0)) || (!((wPut ((wGet s).1)).1 == s))) (fun h5 => ?_) (fun h5 => ?_)
          ·
            try simp only [decide_eq_true_eq, decide_eq_false_iff_not, Bool.and_eq_true, Bool.or_eq_true, Bool.and_eq_false_imp, Bool.or_eq_false_iff, Bool.not_eq_true', Bool.not_eq_false', Bool.not_eq_true, Bool.not_eq_false, beq_iff_eq, beq_eq_false_iff_ne, bne_iff_ne, ne_eq, Decidable.not_not, Int.not_lt, Int.not_le] at h5
            refine runL_b [1,1,1,1,1,1,1,0] [(0, Sl a_l l.length c_l), (1, Sr s), (2, U n), (6, Bo false), (11, Sl a2 (((wGet s).1).length) c2), (18, Bo false), (25, Bo (decide ((wPut l).2 = 0))), (38, Bo (!(decide (l = (wGet ((wPut l).1)).1)))), (68, Bo true)] ?_
            refine runL_nil ?_
            refine tq_then ?_
            refine tc_cond_true ?_
            refine tc_rb [0] [(0, Sl a_l l.length c_l), (1, Sr s), (2, U n), (6, Bo false), (11, Sl a2 (((wGet s).1).length) c2), (18, Bo false), (25, Bo (decide ((wPut l).2 = 0))), (38, Bo (!(decide (l = (wGet ((wPut l).1)).1)))), (68, Bo true)] ?_
            refine tc_ret ?_
            refine tq_then_ret ?_
            refine tq_ret [0] [Bo false] (bp_ret (Mem.le_trans (Mem.le_trans (Mem.le_trans hl1 hl2) hl3) hl4) ?_)
            exfalso
            have p1 := @wGet_put l; have p2 := @wGet_back s; have p3 := @wGet_err s; have p4 := readNum_num hw_n; clear h_l; grind
          ·
            try simp only [decide_eq_true_eq, decide_eq_false_iff_not, Bool.and_eq_true, Bool.or_eq_true, Bool.and_eq_false_imp, Bool.or_eq_false_iff, Bool.not_eq_true', Bool.not_eq_false', Bool.not_eq_true, Bool.not_eq_false, beq_iff_eq, beq_eq_false_iff_ne, bne_iff_ne, ne_eq, Decidable.not_not, Int.not_lt, Int.not_le] at h5
            refine runL_b [0,0,0] [(0, Sl a_l l.length c_l), (1, Sr s), (2, U n), (6, Bo false), (11, Sl a2 (((wGet s).1).length) c2), (18, Bo false), (25, Bo (decide ((wPut l).2 = 0))), (38, Bo (!(decide (l = (wGet ((wPut l).1)).1)))), (60, Bo false), (63, Bo (!decide ((wGet s).2 = 0)))] ?_
            refine runL_b2 (!decide ((wGet s).2 = 0)) (fun bb => [(0, Sl a_l l.length c_l), (1, Sr s), (2, U n), (6, Bo false), (11, Sl a2 (((wGet s).1).length) c2), (18, Bo false), (25, Bo (decide ((wPut l).2 = 0))), (38, Bo (!(decide (l = (wGet ((wPut l).1)).1)))), (60, Bo false), (63, Bo bb)]) [0,0,0,0] [1,1,1,0] (fun bb => [(0, Sl a_l l.length c_l), (1, Sr s), (2, U n), (6, Bo false), (11, Sl a2 (((wGet s).1).length) c2), (18, Bo false), (25, Bo (decide ((wPut l).2 = 0))), (38, Bo (!(decide (l = (wGet ((wPut l).1)).1)))), (60, Bo false), (67, Bo (bb && (decide (((((wGet s).1).length : Nat) : Int) > 0))))]) ?_
            refine runL_b [0] [(0, Sl a_l l.length c_l), (1, Sr s), (2, U n), (6, Bo false), (11, Sl a2 (((wGet s).1).length) c2), (18, Bo false), (25, Bo (decide ((wPut l).2 = 0))), (38, Bo (!(decide (l = (wGet ((wPut l).1)).1)))), (68, Bo ((!decide ((wGet s).2 = 0)) && (decide (((((wGet s).1).length : Nat) : Int) > 0))))] ?_
            refine runL_nil ?_
            refine tq_then ?_
            refine tc_cond ((!decide ((wGet s).2 = 0)) && (decide (((((wGet s).1).length : Nat) : Int) > 0))) (fun h6 => ?_) (fun h6 => ?_)
            ·
              try simp only [decide_eq_true_eq, decide_eq_false_iff_not, Bool.and_eq_true, Bool.or_eq_true, Bool.and_eq_false_imp, Bool.or_eq_false_iff, Bool.not_eq_true', Bool.not_eq_false', Bool.not_eq_true, Bool.not_eq_false, beq_iff_eq, beq_eq_false_iff_ne, bne_iff_ne, ne_eq, Decidable.not_not, Int.not_lt, Int.not_le] at h6
              refine tc_rb [0] [(0, Sl a_l l.length c_l), (1, Sr s), (2, U n), (6, Bo false), (11, Sl a2 (((wGet s).1).length) c2), (18, Bo false), (25, Bo (decide ((wPut l).2 = 0))), (38, Bo (!(decide (l = (wGet ((wPut l).1)).1)))), (68, Bo ((!decide ((wGet s).2 = 0)) && (decide (((((wGet s).1).length : Nat) : Int) > 0))))] ?_
              refine tc_ret ?_
              refine tq_then_ret ?_
              refine tq_ret [0] [Bo false] (bp_ret (Mem.le_trans (Mem.le_trans (Mem.le_trans hl1 hl2) hl3) hl4) ?_)
              exfalso
              have p1 := @wGet_put l; have p2 := @wGet_back s; have p3 := @wGet_err s; have p4 := readNum_num hw_n; clear h_l; grind
            ·
              try simp only [decide_eq_true_eq, decide_eq_false_iff_not, Bool.and_eq_true, Bool.or_eq_true, Bool.and_eq_false_imp, Bool.or_eq_false_iff, Bool.not_eq_true', Bool.not_eq_false', Bool.not_eq_true, Bool.not_eq_false, beq_iff_eq, beq_eq_false_iff_ne, bne_iff_ne, ne_eq, Decidable.not_not, Int.not_lt, Int.not_le] at h6
              refine tc_skip ?_
              refine tq_then ?_
              refine tc_seq ?_
              refine tc_region ?_
              refine runL_b [0] [(0, Sl a_l l.length c_l), (1, Sr s), (2, U n), (6, Bo false), (11, Sl a2 (((wGet s).1).length) c2), (18, Bo false), (25, Bo (decide ((wPut l).2 = 0))), (38, Bo (!(decide (l = (wGet ((wPut l).1)).1)))), (68, Bo ((!decide ((wGet s).2 = 0)) && (decide (((((wGet s).1).length : Nat) : Int) > 0)))), (70, U n)] ?_
              refine runL_callV 71 (Sr (numB n)) (num_con n G4) ?_
              refine runL_callV 72 (.tuple #[U ((readNum (numB n)).1), I ((readNum (numB n)).2)]) (readNum_con (numB n) G4) ?_
              refine runL_b [0,0,0,0,0] [(0, Sl a_l l.length c_l), (1, Sr s), (2, U n), (6, Bo false), (11, Sl a2 (((wGet s).1).length) c2), (15, U ((readNum (numB n)).1)), (16, I ((readNum (numB n)).2)), (18, Bo false), (25, Bo (decide ((wPut l).2 = 0))), (38, Bo (!(decide (l = (wGet ((wPut l).1)).1)))), (68, Bo ((!decide ((wGet s).2 = 0)) && (decide (((((wGet s).1).length : Nat) : Int) > 0))))] ?_
              refine runL_nil ?_
              refine tq_then ?_
              refine tc_seq ?_
              refine tc_region ?_
              refine runL_b [0,0,0] [(0, Sl a_l l.length c_l), (1, Sr s), (2, U n), (6, Bo false), (11, Sl a2 (((wGet s).1).length) c2), (15, U ((readNum (numB n)).1)), (18, Bo false), (25, Bo (decide ((wPut l).2 = 0))), (38, Bo (!(decide (l = (wGet ((wPut l).1)).1)))), (68, Bo ((!decide ((wGet s).2 = 0)) && (decide (((((wGet s).1).length : Nat) : Int) > 0)))), (77, Bo (decide ((readNum (numB n)).2 = 0)))] ?_
              refine runL_b2 (decide ((readNum (numB n)).2 = 0)) (fun bb => [(0, Sl a_l l.length c_l), (1, Sr s), (2, U n), (6, Bo false), (11, Sl a2 (((wGet s).1).length) c2), (15, U ((readNum (numB n)).1)), (18, Bo false), (25, Bo (decide ((wPut l).2 = 0))), (38, Bo (!(decide (l = (wGet ((wPut l).1)).1)))), (68, Bo ((!decide ((wGet s).2 = 0)) && (decide (((((wGet s).1).length : Nat) : Int) > 0)))), (77, Bo bb)]) [0,0,0,0] [1,1,1,0] (fun bb => [(0, Sl a_l l.length c_l), (1, Sr s), (2, U n), (6, Bo false), (11, Sl a2 (((wGet s).1).length) c2), (18, Bo false), (25, Bo (decide ((wPut l).2 = 0))), (38, Bo (!(decide (l = (wGet ((wPut l).1)).1)))), (68, Bo ((!decide ((wGet s).2 = 0)) && (decide (((((wGet s).1).length : Nat) : Int) > 0)))), (81, Bo (bb && (decide ((readNum (numB n)).1 = n))))]) ?_
              refine runL_b [0] [(0, Sl a_l l.length c_l), (1, Sr s), (2, U n), (6, Bo ((decide ((readNum (numB n)).2 = 0)) && (decide ((readNum (numB n)).1 = n)))), (11, Sl a2 (((wGet s).1).length) c2), (18, Bo false), (25, Bo (decide ((wPut l).2 = 0))), (38, Bo (!(decide (l = (wGet ((wPut l).1)).1)))), (68, Bo ((!decide ((wGet s).2 = 0)) && (decide (((((wGet s).1).length : Nat) : Int) > 0))))] ?_
              refine runL_nil ?_
              refine tq_then ?_
              refine tc_ret ?_
              refine tq_ret [0] [Bo ((decide ((readNum (numB n)).2 = 0)) && (decide ((readNum (numB n)).1 = n)))] (bp_ret (Mem.le_trans (Mem.le_trans (Mem.le_trans hl1 hl2) hl3) hl4) ?_)
              have hf_ : ((decide ((readNum (numB n)).2 = 0)) && (decide ((readNum (numB n)).1 = n))) = true := by
                have p1 := @wGet_put l; have p2 := @wGet_back s; have p3 := @wGet_err s; have p4 := readNum_num hw_n; clear h_l; grind
              exact congrArg Bo hf_
        ·
          try simp only [decide_eq_true_eq, decide_eq_false_iff_not, Bool.and_eq_true, Bool.or_eq_true, Bool.and_eq_false_imp, Bool.or_eq_false_iff, Bool.not_eq_true', Bool.not_eq_false', Bool.not_eq_true, Bool.not_eq_false, beq_iff_eq, beq_eq_false_iff_ne, bne_iff_ne, ne_eq, Decidable.not_not, Int.not_lt, Int.not_le] at h4
          refine runL_b [1,1,1,1,1,1,1,0,0,0,0,0] [(0, Sl a_l l.length c_l), (1, Sr s), (2, U n), (6, Bo false), (11, Sl a2 (((wGet s).1).length) c2), (18, Bo false), (25, Bo (decide ((wPut l).2 = 0))), (38, Bo (!(decide (l = (wGet ((wPut l).1)).1)))), (60, Bo false), (63, Bo (!decide ((wGet s).2 = 0)))] ?_
          refine runL_b2 (!decide ((wGet s).2 = 0)) (fun bb => [(0, Sl a_l l.length c_l), (1, Sr s), (2, U n), (6, Bo false), (11, Sl a2 (((wGet s).1).length) c2), (18, Bo false), (25, Bo (decide ((wPut l).2 = 0))), (38, Bo (!(decide (l = (wGet ((wPut l).1)).1)))), (60, Bo false), (63, Bo bb)]) [0,0,0,0] [1,1,1,0] (fun bb => [(0, Sl a_l l.length c_l), (1, Sr s), (2, U n), (6, Bo false), (11, Sl a2 (((wGet s).1).length) c2), (18, Bo false), (25, Bo (decide ((wPut l).2 = 0))), (38, Bo (!(decide (l = (wGet ((wPut l).1)).1)))), (60, Bo false), (67, Bo (bb && (decide (((((wGet s).1).length : Nat) : Int) > 0))))]) ?_
          refine runL_b [0] [(0, Sl a_l l.length c_l), (1, Sr s), (2, U n), (6, Bo false), (11, Sl a2 (((wGet s).1).length) c2), (18, Bo false), (25, Bo (decide ((wPut l).2 = 0))), (38, Bo (!(decide (l = (wGet ((wPut l).1)).1)))), (68, Bo ((!decide ((wGet s).2 = 0)) && (decide (((((wGet s).1).length : Nat) : Int) > 0))))] ?_
          refine runL_nil ?_
          refine tq_then ?_
          refine tc_cond ((!decide ((wGet s).2 = 0)) && (decide (((((wGet s).1).length : Nat) : Int) > 0))) (fun h7 => ?_) (fun h7 => ?_)
          ·
            try simp only [decide_eq_true_eq, decide_eq_false_iff_not, Bool.and_eq_true, Bool.or_eq_true, Bool.and_eq_false_imp, Bool.or_eq_false_iff, Bool.not_eq_true', Bool.not_eq_false', Bool.not_eq_true, Bool.not_eq_false, beq_iff_eq, beq_eq_false_iff_ne, bne_iff_ne, ne_eq, Decidable.not_not, Int.not_lt, Int.not_le] at h7
            refine tc_rb [0] [(0, Sl a_l l.length c_l), (1, Sr s), (2, U n), (6, Bo false), (11, Sl a2 (((wGet s).1).length) c2), (18, Bo false), (25, Bo (decide ((wPut l).2 = 0))), (38, Bo (!(decide (l = (wGet ((wPut l).1)).1)))), (68, Bo ((!decide ((wGet s).2 = 0)) && (decide (((((wGet s).1).length : Nat) : Int) > 0))))] ?_
            refine tc_ret ?_
            refine tq_then_ret ?_
            refine tq_ret [0] [Bo false] (bp_ret (Mem.le_trans (Mem.le_trans (Mem.le_trans hl1 hl2) hl3) hl4) ?_)
            exfalso
            have p1 := @wGet_put l; have p2 := @wGet_back s; have p3 := @wGet_err s; have p4 := readNum_num hw_n; clear h_l; grind
          ·
            try simp only [decide_eq_true_eq, decide_eq_false_iff_not, Bool.and_eq_true, Bool.or_eq_true, Bool.and_eq_false_imp, Bool.or_eq_false_iff, Bool.not_eq_true', Bool.not_eq_false', Bool.not_eq_true, Bool.not_eq_false, beq_iff_eq, beq_eq_false_iff_ne, bne_iff_ne, ne_eq, Decidable.not_not, Int.not_lt, Int.not_le] at h7
            refine tc_skip ?_
            refine tq_then ?_
            refine tc_seq ?_
            refine tc_region ?_
            refine runL_b [0] [(0, Sl a_l l.length c_l), (1, Sr s), (2, U n), (6, Bo false), (11, Sl a2 (((wGet s).1).length) c2), (18, Bo false), (25, Bo (decide ((wPut l).2 = 0))), (38, Bo (!(decide (l = (wGet ((wPut l).1)).1)))), (68, Bo ((!decide ((wGet s).2 = 0)) && (decide (((((wGet s).1).length : Nat) : Int) > 0)))), (70, U n)] ?_
            refine runL_callV 71 (Sr (numB n)) (num_con n G4) ?_
            refine runL_callV 72 (.tuple #[U ((readNum (numB n)).1), I ((readNum (numB n)).2)]) (readNum_con (numB n) G4) ?_
            refine runL_b [0,0,0,0,0] [(0, Sl a_l l.length c_l), (1, Sr s), (2, U n), (6, Bo false), (11, Sl a2 (((wGet s).1).length) c2), (15, U ((readNum (numB n)).1)), (16, I ((readNum (numB n)).2)), (18, Bo false), (25, Bo (decide ((wPut l).2 = 0))), (38, Bo (!(decide (l = (wGet ((wPut l).1)).1)))), (68, Bo ((!decide ((wGet s).2 = 0)) && (decide (((((wGet s).1).length : Nat) : Int) > 0))))] ?_
            refine runL_nil ?_
            refine tq_then ?_
            refine tc_seq ?_
            refine tc_region ?_
            refine runL_b [0,0,0] [(0, Sl a_l l.length c_l), (1, Sr s), (2, U n), (6, Bo false), (11, Sl a2 (((wGet s).1).length) c2), (15, U ((readNum (numB n)).1)), (18, Bo false), (25, Bo (decide ((wPut l).2 = 0))), (38, Bo (!(decide (l = (wGet ((wPut l).1)).1)))), (68, Bo ((!decide ((wGet s).2 = 0)) && (decide (((((wGet s).1).length : Nat) : Int) > 0)))), (77, Bo (decide ((readNum (numB n)).2 = 0)))] ?_
            refine runL_b2 (decide ((readNum (numB n)).2 = 0)) (fun bb => [(0, Sl a_l l.length c_l), (1, Sr s), (2, U n), (6, Bo false), (11, Sl a2 (((wGet s).1).length) c2), (15, U ((readNum (numB n)).1)), (18, Bo false), (25, Bo (decide ((wPut l).2 = 0))), (38, Bo (!(decide (l = (wGet ((wPut l).1)).1)))), (68, Bo ((!decide ((wGet s).2 = 0)) && (decide (((((wGet s).1).length : Nat) : Int) > 0)))), (77, Bo bb)]) [0,0,0,0] [1,1,1,0] (fun bb => [(0, Sl a_l l.length c_l), (1, Sr s), (2, U n), (6, Bo false), (11, Sl a2 (((wGet s).1).length) c2), (18, Bo false), (25, Bo (decide ((wPut l).2 = 0))), (38, Bo (!(decide (l = (wGet ((wPut l).1)).1)))), (68, Bo ((!decide ((wGet s).2 = 0)) && (decide (((((wGet s).1).length : Nat) : Int) > 0)))), (81, Bo (bb && (decide ((readNum (numB n)).1 = n))))]) ?_
            refine runL_b [0] [(0, Sl a_l l.length c_l), (1, Sr s), (2, U n), (6, Bo ((decide ((readNum (numB n)).2 = 0)) && (decide ((readNum (numB n)).1 = n)))), (11, Sl a2 (((wGet s).1).length) c2), (18, Bo false), (25, Bo (decide ((wPut l).2 = 0))), (38, Bo (!(decide (l = (wGet ((wPut l).1)).1)))), (68, Bo ((!decide ((wGet s).2 = 0)) && (decide (((((wGet s).1).length : Nat) : Int) > 0))))] ?_
            refine runL_nil ?_
            refine tq_then ?_
            refine tc_ret ?_
            refine tq_ret [0] [Bo ((decide ((readNum (numB n)).2 = 0)) && (decide ((readNum (numB n)).1 = n)))] (bp_ret (Mem.le_trans (Mem.le_trans (Mem.le_trans hl1 hl2) hl3) hl4) ?_)
            have hf_ : ((decide ((readNum (numB n)).2 = 0)) && (decide ((readNum (numB n)).1 = n))) = true := by
              have p1 := @wGet_put l; have p2 := @wGet_back s; have p3 := @wGet_err s; have p4 := readNum_num hw_n; clear h_l; grind
            exact congrArg Bo hf_
  ·
    try simp only [decide_eq_true_eq, decide_eq_false_iff_not, Bool.and_eq_true, Bool.or_eq_true, Bool.and_eq_false_imp, Bool.or_eq_false_iff, Bool.not_eq_true', Bool.not_eq_false', Bool.not_eq_true, Bool.not_eq_false, beq_iff_eq, beq_eq_false_iff_ne, bne_iff_ne, ne_eq, Decidable.not_not, Int.not_lt, Int.not_le] at h1
    refine tc_skip ?_
    refine tq_then ?_
    refine tc_seq ?_
    refine tc_region ?_
    refine runL_b [0] [(0, Sl a_l l.length c_l), (1, Sr s), (2, U n), (6, Bo false), (7, Sr ((wPut l).1)), (18, Bo false), (25, Bo (decide ((wPut l).2 = 0))), (40, Sr s)] ?_
    refine runL_callR 41 (wGet_con G s) (fun v G5 L1 hl5 hp => ?_)
    obtain ⟨a3, c3, r3, rfl, hr3, rfl⟩ := hp
    refine runL_b [0,0,0,0,0] [(0, Sl a_l l.length c_l), (1, Sr s), (2, U n), (6, Bo false), (7, Sr ((wPut l).1)), (11, Sl a3 (((wGet s).1).length) c3), (12, I ((wGet s).2)), (18, Bo false), (25, Bo (decide ((wPut l).2 = 0)))] ?_
    refine runL_nil ?_
    refine tq_then ?_
    refine tc_seq ?_
    refine tc_seq ?_
    refine tc_region ?_
    refine runL_b [0] [(0, Sl a_l l.length c_l), (1, Sr s), (2, U n), (6, Bo false), (7, Sr ((wPut l).1)), (11, Sl a3 (((wGet s).1).length) c3), (12, I ((wGet s).2)), (18, Bo false), (25, Bo (decide ((wPut l).2 = 0))), (45, Sl a3 (((wGet s).1).length) c3)] ?_
    refine runL_frzR (E := ES) 0 hr3 (by have := wGet_len s; simp only [ES]; omega) (fun G6 hl6 hs3 => ?_)
    refine runL_callV 46 (.tuple #[Sr ((wPut ((wGet s).1)).1), I ((wPut ((wGet s).1)).2)]) (wPut_con G6 a3 c3 ((wGet s).1) hs3) ?_
    refine runL_b [0,0,0,0,0] [(0, Sl a_l l.length c_l), (1, Sr s), (2, U n), (6, Bo false), (7, Sr ((wPut l).1)), (11, Sl a3 (((wGet s).1).length) c3), (12, I ((wGet s).2)), (13, Sr ((wPut ((wGet s).1)).1)), (14, I ((wPut ((wGet s).1)).2)), (18, Bo false), (25, Bo (decide ((wPut l).2 = 0)))] ?_
    refine runL_nil ?_
    refine tq_then ?_
    refine tc_seq ?_
    refine tc_region ?_
    refine runL_b [0,0,0] [(0, Sl a_l l.length c_l), (1, Sr s), (2, U n), (6, Bo false), (7, Sr ((wPut l).1)), (11, Sl a3 (((wGet s).1).length) c3), (12, I ((wGet s).2)), (13, Sr ((wPut ((wGet s).1)).1)), (14, I ((wPut ((wGet s).1)).2)), (18, Bo false), (25, Bo (decide ((wPut l).2 = 0))), (51, Bo (decide ((wGet s).2 = 0)))] ?_
    refine runL_cases (fun bb => [(0, Sl a_l l.length c_l), (1, Sr s), (2, U n), (6, Bo false), (7, Sr ((wPut l).1)), (11, Sl a3 (((wGet s).1).length) c3), (12, I ((wGet s).2)), (13, Sr ((wPut ((wGet s).1)).1)), (14, I ((wPut ((wGet s).1)).2)), (18, Bo false), (25, Bo (decide ((wPut l).2 = 0))), (51, Bo bb)]) (decide ((wGet s).2 = 0)) (fun h8 => ?_) (fun h8 => ?_)
    ·
      try simp only [decide_eq_true_eq, decide_eq_false_iff_not, Bool.and_eq_true, Bool.or_eq_true, Bool.and_eq_false_imp, Bool.or_eq_false_iff, Bool.not_eq_true', Bool.not_eq_false', Bool.not_eq_true, Bool.not_eq_false, beq_iff_eq, beq_eq_false_iff_ne, bne_iff_ne, ne_eq, Decidable.not_not, Int.not_lt, Int.not_le] at h8
      refine runL_b [0,0,0] [(0, Sl a_l l.length c_l), (1, Sr s), (2, U n), (6, Bo false), (7, Sr ((wPut l).1)), (11, Sl a3 (((wGet s).1).length) c3), (12, I ((wGet s).2)), (13, Sr ((wPut ((wGet s).1)).1)), (18, Bo false), (25, Bo (decide ((wPut l).2 = 0))), (51, Bo true), (54, Bo (!decide ((wPut ((wGet s).1)).2 = 0)))] ?_
      refine runL_b2 (!decide ((wPut ((wGet s).1)).2 = 0)) (fun bb => [(0, Sl a_l l.length c_l), (1, Sr s), (2, U n), (6, Bo false), (7, Sr ((wPut l).1)), (11, Sl a3 (((wGet s).1).length) c3), (12, I ((wGet s).2)), (13, Sr ((wPut ((wGet s).1)).1)), (18, Bo false), (25, Bo (decide ((wPut l).2 = 0))), (51, Bo true), (54, Bo bb)]) [1,1,1,0] [0,0,0,0] (fun bb => [(0, Sl a_l l.length c_l), (1, Sr s), (2, U n), (6, Bo false), (7, Sr ((wPut l).1)), (11, Sl a3 (((wGet s).1).length) c3), (12, I ((wGet s).2)), (18, Bo false), (25, Bo (decide ((wPut l).2 = 0))), (51, Bo true), (58, Bo (bb || (!((B ((wPut ((wGet s).1)).1)).toList == (B s).toList))))]) ?_
      refine runL_eq (fr' := [(0, Sl a_l l.length c_l), (1, Sr s), (2, U n), (6, Bo false), (7, Sr ((wPut l).1)), (11, Sl a3 (((wGet s).1).length) c3), (12, I ((wGet s).2)), (18, Bo false), (25, Bo (decide ((wPut l).2 = 0))), (51, Bo true), (58, Bo ((!decide ((wPut ((wGet s).1)).2 = 0)) || (!((wPut ((wGet s).1)).1 == s))))]) (L' := [[]]) (by simp only [B_toList]) (by rfl) ?_
      refine runL_b [0,0] [(0, Sl a_l l.length c_l), (1, Sr s), (2, U n), (6, Bo false), (7, Sr ((wPut l).1)), (11, Sl a3 (((wGet s).1).length) c3), (12, I ((wGet s).2)), (18, Bo false), (25, Bo (decide ((wPut l).2 = 0))), (60, Bo ((!decide ((wPut ((wGet s).1)).2 = 0)) || (!((wPut ((wGet s).1)).1 == s))))] ?_
      refine runL_cases (fun bb => [(0, Sl a_l l.length c_l), (1, Sr s), (2, U n), (6, Bo false), (7, Sr ((wPut l).1)), (11, Sl a3 (((wGet s).1).length) c3), (12, I ((wGet s).2)), (18, Bo false), (25, Bo (decide ((wPut l).2 = 0))), (60, Bo bb)]) ((!decide ((wPut ((wGet s).1)).2 = 0)) || (!((wPut ((wGet s).1)).1 == s))) (fun h9 => ?_) (fun h9 => ?_)
      ·
        try simp only [decide_eq_true_eq, decide_eq_false_iff_not, Bool.and_eq_true, Bool.or_eq_true, Bool.and_eq_false_imp, Bool.or_eq_false_iff, Bool.not_eq_true', Bool.not_eq_false', Bool.not_eq_true, Bool.not_eq_false, beq_iff_eq, beq_eq_false_iff_ne, bne_iff_ne, ne_eq, Decidable.not_not, Int.not_lt, Int.not_le] at h9
        refine runL_b [1,1,1,1,1,1,1,0] [(0, Sl a_l l.length c_l), (1, Sr s), (2, U n), (6, Bo false), (7, Sr ((wPut l).1)), (11, Sl a3 (((wGet s).1).length) c3), (18, Bo false), (25, Bo (decide ((wPut l).2 = 0))), (68, Bo true)] ?_
        refine runL_nil ?_
        refine tq_then ?_
        refine tc_cond_true ?_
        refine tc_rb [0] [(0, Sl a_l l.length c_l), (1, Sr s), (2, U n), (6, Bo false), (7, Sr ((wPut l).1)), (11, Sl a3 (((wGet s).1).length) c3), (18, Bo false), (25, Bo (decide ((wPut l).2 = 0))), (68, Bo true)] ?_
        refine tc_ret ?_
        refine tq_then_ret ?_
        refine tq_ret [0] [Bo false] (bp_ret (Mem.le_trans hl5 hl6) ?_)
        exfalso
        have p1 := @wGet_put l; have p2 := @wGet_back s; have p3 := @wGet_err s; have p4 := readNum_num hw_n; clear h_l; grind
      ·
        try simp only [decide_eq_true_eq, decide_eq_false_iff_not, Bool.and_eq_true, Bool.or_eq_true, Bool.and_eq_false_imp, Bool.or_eq_false_iff, Bool.not_eq_true', Bool.not_eq_false', Bool.not_eq_true, Bool.not_eq_false, beq_iff_eq, beq_eq_false_iff_ne, bne_iff_ne, ne_eq, Decidable.not_not, Int.not_lt, Int.not_le] at h9
        refine runL_b [0,0,0] [(0, Sl a_l l.length c_l), (1, Sr s), (2, U n), (6, Bo false), (7, Sr ((wPut l).1)), (11, Sl a3 (((wGet s).1).length) c3), (18, Bo false), (25, Bo (decide ((wPut l).2 = 0))), (60, Bo false), (63, Bo (!decide ((wGet s).2 = 0)))] ?_
        refine runL_b2 (!decide ((wGet s).2 = 0)) (fun bb => [(0, Sl a_l l.length c_l), (1, Sr s), (2, U n), (6, Bo false), (7, Sr ((wPut l).1)), (11, Sl a3 (((wGet s).1).length) c3), (18, Bo false), (25, Bo (decide ((wPut l).2 = 0))), (60, Bo false), (63, Bo bb)]) [0,0,0,0] [1,1,1,0] (fun bb => [(0, Sl a_l l.length c_l), (1, Sr s), (2, U n), (6, Bo false), (7, Sr ((wPut l).1)), (11, Sl a3 (((wGet s).1).length) c3), (18, Bo false), (25, Bo (decide ((wPut l).2 = 0))), (60, Bo false), (67, Bo (bb && (decide (((((wGet s).1).length : Nat) : Int) > 0))))]) ?_
        refine runL_b [0] [(0, Sl a_l l.length c_l), (1, Sr s), (2, U n), (6, Bo false), (7, Sr ((wPut l).1)), (11, Sl a3 (((wGet s).1).length) c3), (18, Bo false), (25, Bo (decide ((wPut l).2 = 0))), (68, Bo ((!decide ((wGet s).2 = 0)) && (decide (((((wGet s).1).length : Nat) : Int) > 0))))] ?_
        refine runL_nil ?_
        refine tq_then ?_
        refine tc_cond ((!decide ((wGet s).2 = 0)) && (decide (((((wGet s).1).length : Nat) : Int) > 0))) (fun h10 => ?_) (fun h10 => ?_)
        ·
          try simp only [decide_eq_true_eq, decide_eq_false_iff_not, Bool.and_eq_true, Bool.or_eq_true, Bool.and_eq_false_imp, Bool.or_eq_false_iff, Bool.not_eq_true', Bool.not_eq_false', Bool.not_eq_true, Bool.not_eq_false, beq_iff_eq, beq_eq_false_iff_ne, bne_iff_ne, ne_eq, Decidable.not_not, Int.not_lt, Int.not_le] at h10
          refine tc_rb [0] [(0, Sl a_l l.length c_l), (1, Sr s), (2, U n), (6, Bo false), (7, Sr ((wPut l).1)), (11, Sl a3 (((wGet s).1).length) c3), (18, Bo false), (25, Bo (decide ((wPut l).2 = 0))), (68, Bo ((!decide ((wGet s).2 = 0)) && (decide (((((wGet s).1).length : Nat) : Int) > 0))))] ?_
          refine tc_ret ?_
          refine tq_then_ret ?_
          refine tq_ret [0] [Bo false] (bp_ret (Mem.le_trans hl5 hl6) ?_)
          exfalso
          have p1 := @wGet_put l; have p2 := @wGet_back s; have p3 := @wGet_err s; have p4 := readNum_num hw_n; clear h_l; grind
        ·
          try simp only [decide_eq_true_eq, decide_eq_false_iff_not, Bool.and_eq_true, Bool.or_eq_true, Bool.and_eq_false_imp, Bool.or_eq_false_iff, Bool.not_eq_true', Bool.not_eq_false', Bool.not_eq_true, Bool.not_eq_false, beq_iff_eq, beq_eq_false_iff_ne, bne_iff_ne, ne_eq, Decidable.not_not, Int.not_lt, Int.not_le] at h10
          refine tc_skip ?_
          refine tq_then ?_
          refine tc_seq ?_
          refine tc_region ?_
          refine runL_b [0] [(0, Sl a_l l.length c_l), (1, Sr s), (2, U n), (6, Bo false), (7, Sr ((wPut l).1)), (11, Sl a3 (((wGet s).1).length) c3), (18, Bo false), (25, Bo (decide ((wPut l).2 = 0))), (68, Bo ((!decide ((wGet s).2 = 0)) && (decide (((((wGet s).1).length : Nat) : Int) > 0)))), (70, U n)] ?_
          refine runL_callV 71 (Sr (numB n)) (num_con n G6) ?_
          refine runL_callV 72 (.tuple #[U ((readNum (numB n)).1), I ((readNum (numB n)).2)]) (readNum_con (numB n) G6) ?_
          refine runL_b [0,0,0,0,0] [(0, Sl a_l l.length c_l), (1, Sr s), (2, U n), (6, Bo false), (7, Sr ((wPut l).1)), (11, Sl a3 (((wGet s).1).length) c3), (15, U ((readNum (numB n)).1)), (16, I ((readNum (numB n)).2)), (18, Bo false), (25, Bo (decide ((wPut l).2 = 0))), (68, Bo ((!decide ((wGet s).2 = 0)) && (decide (((((wGet s).1).length : Nat) : Int) > 0))))] ?_
          refine runL_nil ?_
          refine tq_then ?_
          refine tc_seq ?_
          refine tc_region ?_
          refine runL_b [0,0,0] [(0, Sl a_l l.length c_l), (1, Sr s), (2, U n), (6, Bo false), (7, Sr ((wPut l).1)), (11, Sl a3 (((wGet s).1).length) c3), (15, U ((readNum (numB n)).1)), (18, Bo false), (25, Bo (decide ((wPut l).2 = 0))), (68, Bo ((!decide ((wGet s).2 = 0)) && (decide (((((wGet s).1).length : Nat) : Int) > 0)))), (77, Bo (decide ((readNum (numB n)).2 = 0)))] ?_
          refine runL_b2 (decide ((readNum (numB n)).2 = 0)) (fun bb => [(0, Sl a_l l.length c_l), (1, Sr s), (2, U n), (6, Bo false), (7, Sr ((wPut l).1)), (11, Sl a3 (((wGet s).1).length) c3), (15, U ((readNum (numB n)).1)), (18, Bo false), (25, Bo (decide ((wPut l).2 = 0))), (68, Bo ((!decide ((wGet s).2 = 0)) && (decide (((((wGet s).1).length : Nat) : Int) > 0)))), (77, Bo bb)]) [0,0,0,0] [1,1,1,0] (fun bb => [(0, Sl a_l l.length c_l), (1, Sr s), (2, U n), (6, Bo false), (7, Sr ((wPut l).1)), (11, Sl a3 (((wGet s).1).length) c3), (18, Bo false), (25, Bo (decide ((wPut l).2 = 0))), (68, Bo ((!decide ((wGet s).2 = 0)) && (decide (((((wGet s).1).length : Nat) : Int) > 0)))), (81, Bo (bb && (decide ((readNum (numB n)).1 = n))))]) ?_
          refine runL_b [0] [(0, Sl a_l l.length c_l), (1, Sr s), (2, U n), (6, Bo ((decide ((readNum (numB n)).2 = 0)) && (decide ((readNum (numB n)).1 = n)))), (7, Sr ((wPut l).1)), (11, Sl a3 (((wGet s).1).length) c3), (18, Bo false), (25, Bo (decide ((wPut l).2 = 0))), (68, Bo ((!decide ((wGet s).2 = 0)) && (decide (((((wGet s).1).length : Nat) : Int) > 0))))] ?_
          refine runL_nil ?_
          refine tq_then ?_
          refine tc_ret ?_
          refine tq_ret [0] [Bo ((decide ((readNum (numB n)).2 = 0)) && (decide ((readNum (numB n)).1 = n)))] (bp_ret (Mem.le_trans hl5 hl6) ?_)
          have hf_ : ((decide ((readNum (numB n)).2 = 0)) && (decide ((readNum (numB n)).1 = n))) = true := by
            have p1 := @wGet_put l; have p2 := @wGet_back s; have p3 := @wGet_err s; have p4 := readNum_num hw_n; clear h_l; grind
          exact congrArg Bo hf_
    ·
      try simp only [decide_eq_true_eq, decide_eq_false_iff_not, Bool.and_eq_true, Bool.or_eq_true, Bool.and_eq_false_imp, Bool.or_eq_false_iff, Bool.not_eq_true', Bool.not_eq_false', Bool.not_eq_true, Bool.not_eq_false, beq_iff_eq, beq_eq_false_iff_ne, bne_iff_ne, ne_eq, Decidable.not_not, Int.not_lt, Int.not_le] at h8
      refine runL_b [1,1,1,1,1,1,1,0,0,0,0,0] [(0, Sl a_l l.length c_l), (1, Sr s), (2, U n), (6, Bo false), (7, Sr ((wPut l).1)), (11, Sl a3 (((wGet s).1).length) c3), (18, Bo false), (25, Bo (decide ((wPut l).2 = 0))), (60, Bo false), (63, Bo (!decide ((wGet s).2 = 0)))] ?_
      refine runL_b2 (!decide ((wGet s).2 = 0)) (fun bb => [(0, Sl a_l l.length c_l), (1, Sr s), (2, U n), (6, Bo false), (7, Sr ((wPut l).1)), (11, Sl a3 (((wGet s).1).length) c3), (18, Bo false), (25, Bo (decide ((wPut l).2 = 0))), (60, Bo false), (63, Bo bb)]) [0,0,0,0] [1,1,1,0] (fun bb => [(0, Sl a_l l.length c_l), (1, Sr s), (2, U n), (6, Bo false), (7, Sr ((wPut l).1)), (11, Sl a3 (((wGet s).1).length) c3), (18, Bo false), (25, Bo (decide ((wPut l).2 = 0))), (60, Bo false), (67, Bo (bb && (decide (((((wGet s).1).length : Nat) : Int) > 0))))]) ?_
      refine runL_b [0] [(0, Sl a_l l.length c_l), (1, Sr s), (2, U n), (6, Bo false), (7, Sr ((wPut l).1)), (11, Sl a3 (((wGet s).1).length) c3), (18, Bo false), (25, Bo (decide ((wPut l).2 = 0))), (68, Bo ((!decide ((wGet s).2 = 0)) && (decide (((((wGet s).1).length : Nat) : Int) > 0))))] ?_
      refine runL_nil ?_
      refine tq_then ?_
      refine tc_cond ((!decide ((wGet s).2 = 0)) && (decide (((((wGet s).1).length : Nat) : Int) > 0))) (fun h11 => ?_) (fun h11 => ?_)
      ·
        try simp only [decide_eq_true_eq, decide_eq_false_iff_not, Bool.and_eq_true, Bool.or_eq_true, Bool.and_eq_false_imp, Bool.or_eq_false_iff, Bool.not_eq_true', Bool.not_eq_false', Bool.not_eq_true, Bool.not_eq_false, beq_iff_eq, beq_eq_false_iff_ne, bne_iff_ne, ne_eq, Decidable.not_not, Int.not_lt, Int.not_le] at h11
        refine tc_rb [0] [(0, Sl a_l l.length c_l), (1, Sr s), (2, U n), (6, Bo false), (7, Sr ((wPut l).1)), (11, Sl a3 (((wGet s).1).length) c3), (18, Bo false), (25, Bo (decide ((wPut l).2 = 0))), (68, Bo ((!decide ((wGet s).2 = 0)) && (decide (((((wGet s).1).length : Nat) : Int) > 0))))] ?_
        refine tc_ret ?_
        refine tq_then_ret ?_
        refine tq_ret [0] [Bo false] (bp_ret (Mem.le_trans hl5 hl6) ?_)
        exfalso
        have p1 := @wGet_put l; have p2 := @wGet_back s; have p3 := @wGet_err s; have p4 := readNum_num hw_n; clear h_l; grind
      ·
        try simp only [decide_eq_true_eq, decide_eq_false_iff_not, Bool.and_eq_true, Bool.or_eq_true, Bool.and_eq_false_imp, Bool.or_eq_false_iff, Bool.not_eq_true', Bool.not_eq_false', Bool.not_eq_true, Bool.not_eq_false, beq_iff_eq, beq_eq_false_iff_ne, bne_iff_ne, ne_eq, Decidable.not_not, Int.not_lt, Int.not_le] at h11
        refine tc_skip ?_
        refine tq_then ?_
        refine tc_seq ?_
        refine tc_region ?_
        refine runL_b [0] [(0, Sl a_l l.length c_l), (1, Sr s), (2, U n), (6, Bo false), (7, Sr ((wPut l).1)), (11, Sl a3 (((wGet s).1).length) c3), (18, Bo false), (25, Bo (decide ((wPut l).2 = 0))), (68, Bo ((!decide ((wGet s).2 = 0)) && (decide (((((wGet s).1).length : Nat) : Int) > 0)))), (70, U n)] ?_
        refine runL_callV 71 (Sr (numB n)) (num_con n G6) ?_
        refine runL_callV 72 (.tuple #[U ((readNum (numB n)).1), I ((readNum (numB n)).2)]) (readNum_con (numB n) G6) ?_
        refine runL_b [0,0,0,0,0] [(0, Sl a_l l.length c_l), (1, Sr s), (2, U n), (6, Bo false), (7, Sr ((wPut l).1)), (11, Sl a3 (((wGet s).1).length) c3), (15, U ((readNum (numB n)).1)), (16, I ((readNum (numB n)).2)), (18, Bo false), (25, Bo (decide ((wPut l).2 = 0))), (68, Bo ((!decide ((wGet s).2 = 0)) && (decide (((((wGet s).1).length : Nat) : Int) > 0))))] ?_
        refine runL_nil ?_
        refine tq_then ?_
        refine tc_seq ?_
        refine tc_region ?_
        refine runL_b [0,0,0] [(0, Sl a_l l.length c_l), (1, Sr s), (2, U n), (6, Bo false), (7, Sr ((wPut l).1)), (11, Sl a3 (((wGet s).1).length) c3), (15, U ((readNum (numB n)).1)), (18, Bo false), (25, Bo (decide ((wPut l).2 = 0))), (68, Bo ((!decide ((wGet s).2 = 0)) && (decide (((((wGet s).1).length : Nat) : Int) > 0)))), (77, Bo (decide ((readNum (numB n)).2 = 0)))] ?_
        refine runL_b2 (decide ((readNum (numB n)).2 = 0)) (fun bb => [(0, Sl a_l l.length c_l), (1, Sr s), (2, U n), (6, Bo false), (7, Sr ((wPut l).1)), (11, Sl a3 (((wGet s).1).length) c3), (15, U ((readNum (numB n)).1)), (18, Bo false), (25, Bo (decide ((wPut l).2 = 0))), (68, Bo ((!decide ((wGet s).2 = 0)) && (decide (((((wGet s).1).length : Nat) : Int) > 0)))), (77, Bo bb)]) [0,0,0,0] [1,1,1,0] (fun bb => [(0, Sl a_l l.length c_l), (1, Sr s), (2, U n), (6, Bo false), (7, Sr ((wPut l).1)), (11, Sl a3 (((wGet s).1).length) c3), (18, Bo false), (25, Bo (decide ((wPut l).2 = 0))), (68, Bo ((!decide ((wGet s).2 = 0)) && (decide (((((wGet s).1).length : Nat) : Int) > 0)))), (81, Bo (bb && (decide ((readNum (numB n)).1 = n))))]) ?_
        refine runL_b [0] [(0, Sl a_l l.length c_l), (1, Sr s), (2, U n), (6, Bo ((decide ((readNum (numB n)).2 = 0)) && (decide ((readNum (numB n)).1 = n)))), (7, Sr ((wPut l).1)), (11, Sl a3 (((wGet s).1).length) c3), (18, Bo false), (25, Bo (decide ((wPut l).2 = 0))), (68, Bo ((!decide ((wGet s).2 = 0)) && (decide (((((wGet s).1).length : Nat) : Int) > 0))))] ?_
        refine runL_nil ?_
        refine tq_then ?_
        refine tc_ret ?_
        refine tq_ret [0] [Bo ((decide ((readNum (numB n)).2 = 0)) && (decide ((readNum (numB n)).1 = n)))] (bp_ret (Mem.le_trans hl5 hl6) ?_)
        have hf_ : ((decide ((readNum (numB n)).2 = 0)) && (decide ((readNum (numB n)).1 = n))) = true := by
          have p1 := @wGet_put l; have p2 := @wGet_back s; have p3 := @wGet_err s; have p4 := readNum_num hw_n; clear h_l; grind
        exact congrArg Bo hf_

theorem wireJoins_con (G : Mem) (a_a : Option Addr) (c_a : Nat) (a : List ((List UInt8))) (h_a : RS ES G a_a c_a a) (a_b : Option Addr) (c_b : Nat) (b : List ((List UInt8))) (h_b : RS ES G a_b c_b b) (hf_a : a.length * 16 ≤ 140737488351232) (hf_b : b.length * 16 ≤ 140737488351232) : Con Try.prog 10 #[Sl a_a a.length c_a, Sl a_b b.length c_b] G [] (fun u G' L' => u = Bo true) := by
  refine con_of Try.func10 104 [(0, Sl a_a a.length c_a), (1, Sl a_b b.length c_b)] rfl (fun w0 G0 => ?_)
  refine tc_rb [0] [(0, Sl a_a a.length c_a), (1, Sl a_b b.length c_b), (4, Bo false)] ?_
  refine tc_seq ?_
  refine tc_seq ?_
  refine tc_region ?_
  refine runL_callV 17 (Bo true) (wires_con G) ?_
  refine runL_b [0] [(0, Sl a_a a.length c_a), (1, Sl a_b b.length c_b), (4, Bo false), (18, Bo false)] ?_
  refine runL_nil ?_
  refine tq_then ?_
  refine tc_cond_false ?_
  refine tc_skip ?_
  refine tq_then ?_
  refine tc_seq ?_
  refine tc_region ?_
  refine runL_b [0] [(0, Sl a_a a.length c_a), (1, Sl a_b b.length c_b), (4, Bo false), (18, Bo false), (20, Sl a_a a.length c_a)] ?_
  refine runL_callV 21 (.tuple #[Sr ((wPut a).1), I ((wPut a).2)]) (wPut_con G a_a c_a a h_a) ?_
  refine runL_b [0,0,0,0,0] [(0, Sl a_a a.length c_a), (1, Sl a_b b.length c_b), (4, Bo false), (5, Sr ((wPut a).1)), (6, I ((wPut a).2)), (18, Bo false)] ?_
  refine runL_nil ?_
  refine tq_then ?_
  refine tc_seq ?_
  refine tc_region ?_
  refine runL_b [0] [(0, Sl a_a a.length c_a), (1, Sl a_b b.length c_b), (4, Bo false), (5, Sr ((wPut a).1)), (6, I ((wPut a).2)), (18, Bo false), (25, Sl a_b b.length c_b)] ?_
  refine runL_callV 26 (.tuple #[Sr ((wPut b).1), I ((wPut b).2)]) (wPut_con G a_b c_b b h_b) ?_
  refine runL_b [0,0,0,0,0] [(0, Sl a_a a.length c_a), (1, Sl a_b b.length c_b), (4, Bo false), (5, Sr ((wPut a).1)), (6, I ((wPut a).2)), (7, Sr ((wPut b).1)), (8, I ((wPut b).2)), (18, Bo false)] ?_
  refine runL_nil ?_
  refine tq_then ?_
  refine tc_seq ?_
  refine tc_region ?_
  refine runL_b [0,0] [(0, Sl a_a a.length c_a), (1, Sl a_b b.length c_b), (4, Bo false), (5, Sr ((wPut a).1)), (6, I ((wPut a).2)), (7, Sr ((wPut b).1)), (8, I ((wPut b).2)), (18, Bo false), (30, Sl a_a a.length c_a), (31, Sl a_b b.length c_b)] ?_
  refine runL_bsl 32 2 #[Sl a_a a.length c_a, Sl a_b b.length c_b] 69 (fun b1 => ?_)
  refine runL_frz1 (b := b1) (o := 0) (cs := [Sl a_a a.length c_a, Sl a_b b.length c_b]) 0 (fun G1 hl1 hz1 => ?_)
  have hs1 : RS ESlS G1 (At b1 0) 2 [a, b] := RS.lit [[Sl a_a a.length c_a], [Sl a_b b.length c_b]] [a, b] ⟨⟨a_a, c_a, rfl, (h_a.mono hl1)⟩, ⟨⟨a_b, c_b, rfl, (h_b.mono hl1)⟩, trivial⟩⟩ hz1 (Nat.le_of_ble_eq_true rfl) (Nat.le_of_ble_eq_true rfl)
  refine runL_callR 33 (sconcat_ES G1 (At b1 0) 2 ([a, b]) hs1 (by simp; omega)) (fun v G2 L1 hl2 hp => ?_)
  obtain ⟨a1, c1, r1, rfl, hr1, rfl⟩ := hp
  refine runL_frzR (E := ES) 0 hr1 (by (simp only [lconcat, ES, List.flatten_cons, List.flatten_nil, List.length_append, List.length_nil]; omega)) (fun G3 hl3 hs2 => ?_)
  refine runL_callV 34 (.tuple #[Sr ((wPut (lconcat ([a, b]))).1), I ((wPut (lconcat ([a, b]))).2)]) (wPut_con G3 a1 c1 (lconcat ([a, b])) hs2) ?_
  refine runL_b [0,0,0,0,0] [(0, Sl a_a a.length c_a), (1, Sl a_b b.length c_b), (4, Bo false), (5, Sr ((wPut a).1)), (6, I ((wPut a).2)), (7, Sr ((wPut b).1)), (8, I ((wPut b).2)), (9, Sr ((wPut (lconcat ([a, b]))).1)), (10, I ((wPut (lconcat ([a, b]))).2)), (18, Bo false)] ?_
  refine runL_nil ?_
  refine tq_then ?_
  refine tc_seq ?_
  refine tc_seq ?_
  refine tc_region ?_
  refine runL_b [0,0,0] [(0, Sl a_a a.length c_a), (1, Sl a_b b.length c_b), (4, Bo false), (5, Sr ((wPut a).1)), (6, I ((wPut a).2)), (7, Sr ((wPut b).1)), (8, I ((wPut b).2)), (9, Sr ((wPut (lconcat ([a, b]))).1)), (10, I ((wPut (lconcat ([a, b]))).2)), (18, Bo false), (37, I ((wPut a).2)), (38, I ((wPut b).2)), (39, I ((wPut (lconcat ([a, b]))).2))] ?_
  refine runL_bsl 40 3 #[I ((wPut a).2), I ((wPut b).2), I ((wPut (lconcat ([a, b]))).2)] 25 (fun b2 => ?_)
  refine runL_frz1 (b := b2) (o := 0) (cs := [I ((wPut a).2), I ((wPut b).2), I ((wPut (lconcat ([a, b]))).2)]) 0 (fun G4 hl4 hz2 => ?_)
  have hs3 : RS EErr G4 (At b2 0) 3 [(wPut a).2, (wPut b).2, (wPut (lconcat ([a, b]))).2] := RS.lit [[I ((wPut a).2)], [I ((wPut b).2)], [I ((wPut (lconcat ([a, b]))).2)]] [(wPut a).2, (wPut b).2, (wPut (lconcat ([a, b]))).2] ⟨rfl, ⟨rfl, ⟨rfl, trivial⟩⟩⟩ hz2 (Nat.le_of_ble_eq_true rfl) (Nat.le_of_ble_eq_true rfl)
  refine runL_callV 41 (Bo (!(([(wPut a).2, (wPut b).2, (wPut (lconcat ([a, b]))).2]).any fun x0 => !decide (x0 = 0)))) (good_con G4 (At b2 0) 3 ([(wPut a).2, (wPut b).2, (wPut (lconcat ([a, b]))).2]) hs3) ?_
  refine runL_b [0] [(0, Sl a_a a.length c_a), (1, Sl a_b b.length c_b), (4, Bo false), (5, Sr ((wPut a).1)), (6, I ((wPut a).2)), (7, Sr ((wPut b).1)), (8, I ((wPut b).2)), (9, Sr ((wPut (lconcat ([a, b]))).1)), (10, I ((wPut (lconcat ([a, b]))).2)), (18, Bo false), (42, Bo (!(!(([(wPut a).2, (wPut b).2, (wPut (lconcat ([a, b]))).2]).any fun x0 => !decide (x0 = 0)))))] ?_
  refine runL_nil ?_
  refine tq_then ?_
  refine tc_cond (!(!(([(wPut a).2, (wPut b).2, (wPut (lconcat ([a, b]))).2]).any fun x0 => !decide (x0 = 0)))) (fun h1 => ?_) (fun h1 => ?_)
  ·
    try simp only [decide_eq_true_eq, decide_eq_false_iff_not, Bool.and_eq_true, Bool.or_eq_true, Bool.and_eq_false_imp, Bool.or_eq_false_iff, Bool.not_eq_true', Bool.not_eq_false', Bool.not_eq_true, Bool.not_eq_false, beq_iff_eq, beq_eq_false_iff_ne, bne_iff_ne, ne_eq, Decidable.not_not, Int.not_lt, Int.not_le] at h1
    refine tc_seq ?_
    refine tc_region ?_
    refine runL_b [0,0,0] [(0, Sl a_a a.length c_a), (1, Sl a_b b.length c_b), (4, Bo false), (5, Sr ((wPut a).1)), (6, I ((wPut a).2)), (7, Sr ((wPut b).1)), (8, I ((wPut b).2)), (9, Sr ((wPut (lconcat ([a, b]))).1)), (10, I ((wPut (lconcat ([a, b]))).2)), (18, Bo false), (42, Bo (!(!(([(wPut a).2, (wPut b).2, (wPut (lconcat ([a, b]))).2]).any fun x0 => !decide (x0 = 0))))), (45, Bo (!decide ((wPut (lconcat ([a, b]))).2 = 0)))] ?_
    refine runL_b2 (!decide ((wPut (lconcat ([a, b]))).2 = 0)) (fun bb => [(0, Sl a_a a.length c_a), (1, Sl a_b b.length c_b), (4, Bo false), (5, Sr ((wPut a).1)), (6, I ((wPut a).2)), (7, Sr ((wPut b).1)), (8, I ((wPut b).2)), (9, Sr ((wPut (lconcat ([a, b]))).1)), (10, I ((wPut (lconcat ([a, b]))).2)), (18, Bo false), (42, Bo (!(!(([(wPut a).2, (wPut b).2, (wPut (lconcat ([a, b]))).2]).any fun x0 => !decide (x0 = 0))))), (45, Bo bb)]) [0,0,0] [1,1,0] (fun bb => [(0, Sl a_a a.length c_a), (1, Sl a_b b.length c_b), (4, Bo false), (5, Sr ((wPut a).1)), (6, I ((wPut a).2)), (7, Sr ((wPut b).1)), (8, I ((wPut b).2)), (9, Sr ((wPut (lconcat ([a, b]))).1)), (10, I ((wPut (lconcat ([a, b]))).2)), (18, Bo false), (42, Bo (!(!(([(wPut a).2, (wPut b).2, (wPut (lconcat ([a, b]))).2]).any fun x0 => !decide (x0 = 0))))), (48, Bo (bb && (((B ((wPut (lconcat ([a, b]))).1)).toList == (B ([])).toList))))]) ?_
    refine runL_eq (fr' := [(0, Sl a_a a.length c_a), (1, Sl a_b b.length c_b), (4, Bo false), (5, Sr ((wPut a).1)), (6, I ((wPut a).2)), (7, Sr ((wPut b).1)), (8, I ((wPut b).2)), (9, Sr ((wPut (lconcat ([a, b]))).1)), (10, I ((wPut (lconcat ([a, b]))).2)), (18, Bo false), (42, Bo (!(!(([(wPut a).2, (wPut b).2, (wPut (lconcat ([a, b]))).2]).any fun x0 => !decide (x0 = 0))))), (48, Bo ((!decide ((wPut (lconcat ([a, b]))).2 = 0)) && (((wPut (lconcat ([a, b]))).1 == []))))]) (L' := [[], [], []]) (by simp only [B_toList]) (by rfl) ?_
    refine runL_b [0] [(0, Sl a_a a.length c_a), (1, Sl a_b b.length c_b), (4, Bo false), (5, Sr ((wPut a).1)), (6, I ((wPut a).2)), (7, Sr ((wPut b).1)), (8, I ((wPut b).2)), (9, Sr ((wPut (lconcat ([a, b]))).1)), (10, I ((wPut (lconcat ([a, b]))).2)), (18, Bo false), (42, Bo (!(!(([(wPut a).2, (wPut b).2, (wPut (lconcat ([a, b]))).2]).any fun x0 => !decide (x0 = 0))))), (49, Bo ((!decide ((wPut (lconcat ([a, b]))).2 = 0)) && (((wPut (lconcat ([a, b]))).1 == []))))] ?_
    refine runL_cases (fun bb => [(0, Sl a_a a.length c_a), (1, Sl a_b b.length c_b), (4, Bo false), (5, Sr ((wPut a).1)), (6, I ((wPut a).2)), (7, Sr ((wPut b).1)), (8, I ((wPut b).2)), (9, Sr ((wPut (lconcat ([a, b]))).1)), (10, I ((wPut (lconcat ([a, b]))).2)), (18, Bo false), (42, Bo (!(!(([(wPut a).2, (wPut b).2, (wPut (lconcat ([a, b]))).2]).any fun x0 => !decide (x0 = 0))))), (49, Bo bb)]) ((!decide ((wPut (lconcat ([a, b]))).2 = 0)) && (((wPut (lconcat ([a, b]))).1 == []))) (fun h2 => ?_) (fun h2 => ?_)
    ·
      try simp only [decide_eq_true_eq, decide_eq_false_iff_not, Bool.and_eq_true, Bool.or_eq_true, Bool.and_eq_false_imp, Bool.or_eq_false_iff, Bool.not_eq_true', Bool.not_eq_false', Bool.not_eq_true, Bool.not_eq_false, beq_iff_eq, beq_eq_false_iff_ne, bne_iff_ne, ne_eq, Decidable.not_not, Int.not_lt, Int.not_le] at h2
      refine runL_b [1,1,1,1,1,1,1,1,0,0] [(0, Sl a_a a.length c_a), (1, Sl a_b b.length c_b), (4, Bo true), (5, Sr ((wPut a).1)), (6, I ((wPut a).2)), (7, Sr ((wPut b).1)), (8, I ((wPut b).2)), (9, Sr ((wPut (lconcat ([a, b]))).1)), (10, I ((wPut (lconcat ([a, b]))).2)), (18, Bo false), (42, Bo (!(!(([(wPut a).2, (wPut b).2, (wPut (lconcat ([a, b]))).2]).any fun x0 => !decide (x0 = 0)))))] ?_
      refine runL_nil ?_
      refine tq_then ?_
      refine tc_ret ?_
      refine tq_then_ret ?_
      refine tq_ret [0] [Bo true] (bp_ret (Mem.le_trans (Mem.le_trans (Mem.le_trans hl1 hl2) hl3) hl4) ?_)
      rfl
    ·
      try simp only [decide_eq_true_eq, decide_eq_false_iff_not, Bool.and_eq_true, Bool.or_eq_true, Bool.and_eq_false_imp, Bool.or_eq_false_iff, Bool.not_eq_true', Bool.not_eq_false', Bool.not_eq_true, Bool.not_eq_false, beq_iff_eq, beq_eq_false_iff_ne, bne_iff_ne, ne_eq, Decidable.not_not, Int.not_lt, Int.not_le] at h2
      refine runL_b [0,0,0] [(0, Sl a_a a.length c_a), (1, Sl a_b b.length c_b), (4, Bo false), (5, Sr ((wPut a).1)), (6, I ((wPut a).2)), (7, Sr ((wPut b).1)), (8, I ((wPut b).2)), (9, Sr ((wPut (lconcat ([a, b]))).1)), (10, I ((wPut (lconcat ([a, b]))).2)), (18, Bo false), (42, Bo (!(!(([(wPut a).2, (wPut b).2, (wPut (lconcat ([a, b]))).2]).any fun x0 => !decide (x0 = 0))))), (49, Bo false), (52, Bo (decide ((wPut (lconcat ([a, b]))).2 = 0)))] ?_
      refine runL_cases (fun bb => [(0, Sl a_a a.length c_a), (1, Sl a_b b.length c_b), (4, Bo false), (5, Sr ((wPut a).1)), (6, I ((wPut a).2)), (7, Sr ((wPut b).1)), (8, I ((wPut b).2)), (9, Sr ((wPut (lconcat ([a, b]))).1)), (10, I ((wPut (lconcat ([a, b]))).2)), (18, Bo false), (42, Bo (!(!(([(wPut a).2, (wPut b).2, (wPut (lconcat ([a, b]))).2]).any fun x0 => !decide (x0 = 0))))), (49, Bo false), (52, Bo bb)]) (decide ((wPut (lconcat ([a, b]))).2 = 0)) (fun h3 => ?_) (fun h3 => ?_)
      ·
        try simp only [decide_eq_true_eq, decide_eq_false_iff_not, Bool.and_eq_true, Bool.or_eq_true, Bool.and_eq_false_imp, Bool.or_eq_false_iff, Bool.not_eq_true', Bool.not_eq_false', Bool.not_eq_true, Bool.not_eq_false, beq_iff_eq, beq_eq_false_iff_ne, bne_iff_ne, ne_eq, Decidable.not_not, Int.not_lt, Int.not_le] at h3
        refine runL_b [0,0] [(0, Sl a_a a.length c_a), (1, Sl a_b b.length c_b), (4, Bo false), (5, Sr ((wPut a).1)), (6, I ((wPut a).2)), (7, Sr ((wPut b).1)), (8, I ((wPut b).2)), (9, Sr ((wPut (lconcat ([a, b]))).1)), (10, I ((wPut (lconcat ([a, b]))).2)), (18, Bo false), (42, Bo (!(!(([(wPut a).2, (wPut b).2, (wPut (lconcat ([a, b]))).2]).any fun x0 => !decide (x0 = 0))))), (49, Bo false), (52, Bo true), (53, I ((wPut a).2)), (54, I ((wPut b).2))] ?_
        refine runL_bsl 55 2 #[I ((wPut a).2), I ((wPut b).2)] 25 (fun b3 => ?_)
        refine runL_frz1 (b := b3) (o := 0) (cs := [I ((wPut a).2), I ((wPut b).2)]) 0 (fun G5 hl5 hz3 => ?_)
        have hs4 : RS EErr G5 (At b3 0) 2 [(wPut a).2, (wPut b).2] := RS.lit [[I ((wPut a).2)], [I ((wPut b).2)]] [(wPut a).2, (wPut b).2] ⟨rfl, ⟨rfl, trivial⟩⟩ hz3 (Nat.le_of_ble_eq_true rfl) (Nat.le_of_ble_eq_true rfl)
        refine runL_callV 56 (Bo (!(([(wPut a).2, (wPut b).2]).any fun x0 => !decide (x0 = 0)))) (good_con G5 (At b3 0) 2 ([(wPut a).2, (wPut b).2]) hs4) ?_
        refine runL_b [0,0,0] [(0, Sl a_a a.length c_a), (1, Sl a_b b.length c_b), (4, Bo (!(([(wPut a).2, (wPut b).2]).any fun x0 => !decide (x0 = 0)))), (5, Sr ((wPut a).1)), (6, I ((wPut a).2)), (7, Sr ((wPut b).1)), (8, I ((wPut b).2)), (9, Sr ((wPut (lconcat ([a, b]))).1)), (10, I ((wPut (lconcat ([a, b]))).2)), (18, Bo false), (42, Bo (!(!(([(wPut a).2, (wPut b).2, (wPut (lconcat ([a, b]))).2]).any fun x0 => !decide (x0 = 0)))))] ?_
        refine runL_nil ?_
        refine tq_then ?_
        refine tc_ret ?_
        refine tq_then_ret ?_
        refine tq_ret [0] [Bo (!(([(wPut a).2, (wPut b).2]).any fun x0 => !decide (x0 = 0)))] (bp_ret (Mem.le_trans (Mem.le_trans (Mem.le_trans (Mem.le_trans hl1 hl2) hl3) hl4) hl5) ?_)
        have hf_ : (!(([(wPut a).2, (wPut b).2]).any fun x0 => !decide (x0 = 0))) = true := by
          (try simp only [lconcat2] at *); have q1 := @wJoin_ok a b; have q2 := @wPut_err (a ++ b); exact wJoin_case (l := a ++ b) (fun h0_ => by first | (exfalso; have h9_ := congrArg List.length h0_; simp only [List.length_append, List.length_nil] at h9_; omega) | (obtain ⟨h1_, h2_⟩ := List.append_eq_nil_iff.1 h0_; rw [h1_, h2_] at *; revert h1; decide) | (rw [h0_] at *; simp_all; done) | (rw [h0_]; decide) | grind) (fun x hx q3 => by (try simp only [List.any_cons, List.any_nil] at *); grind)
        exact congrArg Bo hf_
      ·
        try simp only [decide_eq_true_eq, decide_eq_false_iff_not, Bool.and_eq_true, Bool.or_eq_true, Bool.and_eq_false_imp, Bool.or_eq_false_iff, Bool.not_eq_true', Bool.not_eq_false', Bool.not_eq_true, Bool.not_eq_false, beq_iff_eq, beq_eq_false_iff_ne, bne_iff_ne, ne_eq, Decidable.not_not, Int.not_lt, Int.not_le] at h3
        refine runL_b [1,1,1,1,0,0,0] [(0, Sl a_a a.length c_a), (1, Sl a_b b.length c_b), (4, Bo false), (5, Sr ((wPut a).1)), (6, I ((wPut a).2)), (7, Sr ((wPut b).1)), (8, I ((wPut b).2)), (9, Sr ((wPut (lconcat ([a, b]))).1)), (10, I ((wPut (lconcat ([a, b]))).2)), (18, Bo false), (42, Bo (!(!(([(wPut a).2, (wPut b).2, (wPut (lconcat ([a, b]))).2]).any fun x0 => !decide (x0 = 0)))))] ?_
        refine runL_nil ?_
        refine tq_then ?_
        refine tc_ret ?_
        refine tq_then_ret ?_
        refine tq_ret [0] [Bo false] (bp_ret (Mem.le_trans (Mem.le_trans (Mem.le_trans hl1 hl2) hl3) hl4) ?_)
        exfalso
        (try simp only [lconcat2] at *); have q1 := @wJoin_ok a b; have q2 := @wPut_err (a ++ b); exact wJoin_case (l := a ++ b) (fun h0_ => by first | (exfalso; have h9_ := congrArg List.length h0_; simp only [List.length_append, List.length_nil] at h9_; omega) | (obtain ⟨h1_, h2_⟩ := List.append_eq_nil_iff.1 h0_; rw [h1_, h2_] at *; revert h1; decide) | (rw [h0_] at *; simp_all; done) | (rw [h0_]; decide) | grind) (fun x hx q3 => by (try simp only [List.any_cons, List.any_nil] at *); grind)
  ·
    try simp only [decide_eq_true_eq, decide_eq_false_iff_not, Bool.and_eq_true, Bool.or_eq_true, Bool.and_eq_false_imp, Bool.or_eq_false_iff, Bool.not_eq_true', Bool.not_eq_false', Bool.not_eq_true, Bool.not_eq_false, beq_iff_eq, beq_eq_false_iff_ne, bne_iff_ne, ne_eq, Decidable.not_not, Int.not_lt, Int.not_le] at h1
    refine tc_skip ?_
    refine tq_then ?_
    refine tc_seq ?_
    refine tc_seq ?_
    refine tc_region ?_
    refine runL_b [0,0,0] [(0, Sl a_a a.length c_a), (1, Sl a_b b.length c_b), (4, Bo false), (6, I ((wPut a).2)), (8, I ((wPut b).2)), (9, Sr ((wPut (lconcat ([a, b]))).1)), (10, I ((wPut (lconcat ([a, b]))).2)), (18, Bo false), (42, Bo (!(!(([(wPut a).2, (wPut b).2, (wPut (lconcat ([a, b]))).2]).any fun x0 => !decide (x0 = 0))))), (59, Sr ((wPut (lconcat ([a, b]))).1)), (60, Sr ((wPut a).1)), (61, Sr ((wPut b).1))] ?_
    refine runL_cat 62 ((wPut a).1) ((wPut b).1) (by have := wPut_len a; have := wPut_len b; omega) ?_
    refine runL_b [0] [(0, Sl a_a a.length c_a), (1, Sl a_b b.length c_b), (4, Bo false), (6, I ((wPut a).2)), (8, I ((wPut b).2)), (9, Sr ((wPut (lconcat ([a, b]))).1)), (10, I ((wPut (lconcat ([a, b]))).2)), (18, Bo false), (42, Bo (!(!(([(wPut a).2, (wPut b).2, (wPut (lconcat ([a, b]))).2]).any fun x0 => !decide (x0 = 0))))), (63, Bo (!((B ((wPut (lconcat ([a, b]))).1)).toList == (B (((wPut a).1) ++ ((wPut b).1))).toList)))] ?_
    refine runL_eq (fr' := [(0, Sl a_a a.length c_a), (1, Sl a_b b.length c_b), (4, Bo false), (6, I ((wPut a).2)), (8, I ((wPut b).2)), (9, Sr ((wPut (lconcat ([a, b]))).1)), (10, I ((wPut (lconcat ([a, b]))).2)), (18, Bo false), (42, Bo (!(!(([(wPut a).2, (wPut b).2, (wPut (lconcat ([a, b]))).2]).any fun x0 => !decide (x0 = 0))))), (63, Bo (!((wPut (lconcat ([a, b]))).1 == ((wPut a).1) ++ ((wPut b).1))))]) (L' := [[], [], []]) (by simp only [B_toList]) (by rfl) ?_
    refine runL_nil ?_
    refine tq_then ?_
    refine tc_cond (!((wPut (lconcat ([a, b]))).1 == ((wPut a).1) ++ ((wPut b).1))) (fun h4 => ?_) (fun h4 => ?_)
    ·
      try simp only [decide_eq_true_eq, decide_eq_false_iff_not, Bool.and_eq_true, Bool.or_eq_true, Bool.and_eq_false_imp, Bool.or_eq_false_iff, Bool.not_eq_true', Bool.not_eq_false', Bool.not_eq_true, Bool.not_eq_false, beq_iff_eq, beq_eq_false_iff_ne, bne_iff_ne, ne_eq, Decidable.not_not, Int.not_lt, Int.not_le] at h4
      refine tc_rb [0] [(0, Sl a_a a.length c_a), (1, Sl a_b b.length c_b), (4, Bo false), (6, I ((wPut a).2)), (8, I ((wPut b).2)), (9, Sr ((wPut (lconcat ([a, b]))).1)), (10, I ((wPut (lconcat ([a, b]))).2)), (18, Bo false), (42, Bo (!(!(([(wPut a).2, (wPut b).2, (wPut (lconcat ([a, b]))).2]).any fun x0 => !decide (x0 = 0))))), (63, Bo (!((wPut (lconcat ([a, b]))).1 == ((wPut a).1) ++ ((wPut b).1))))] ?_
      refine tc_ret ?_
      refine tq_then_ret ?_
      refine tq_ret [0] [Bo false] (bp_ret (Mem.le_trans (Mem.le_trans (Mem.le_trans hl1 hl2) hl3) hl4) ?_)
      exfalso
      (try simp only [lconcat2] at *); have q1 := @wJoin_ok a b; have q2 := @wPut_err (a ++ b); exact wJoin_case (l := a ++ b) (fun h0_ => by first | (exfalso; have h9_ := congrArg List.length h0_; simp only [List.length_append, List.length_nil] at h9_; omega) | (obtain ⟨h1_, h2_⟩ := List.append_eq_nil_iff.1 h0_; rw [h1_, h2_] at *; revert h1; decide) | (rw [h0_] at *; simp_all; done) | (rw [h0_]; decide) | grind) (fun x hx q3 => by (try simp only [List.any_cons, List.any_nil] at *); grind)
    ·
      try simp only [decide_eq_true_eq, decide_eq_false_iff_not, Bool.and_eq_true, Bool.or_eq_true, Bool.and_eq_false_imp, Bool.or_eq_false_iff, Bool.not_eq_true', Bool.not_eq_false', Bool.not_eq_true, Bool.not_eq_false, beq_iff_eq, beq_eq_false_iff_ne, bne_iff_ne, ne_eq, Decidable.not_not, Int.not_lt, Int.not_le] at h4
      refine tc_skip ?_
      refine tq_then ?_
      refine tc_seq ?_
      refine tc_region ?_
      refine runL_b [0] [(0, Sl a_a a.length c_a), (1, Sl a_b b.length c_b), (4, Bo false), (6, I ((wPut a).2)), (8, I ((wPut b).2)), (9, Sr ((wPut (lconcat ([a, b]))).1)), (10, I ((wPut (lconcat ([a, b]))).2)), (18, Bo false), (42, Bo (!(!(([(wPut a).2, (wPut b).2, (wPut (lconcat ([a, b]))).2]).any fun x0 => !decide (x0 = 0))))), (63, Bo (!((wPut (lconcat ([a, b]))).1 == ((wPut a).1) ++ ((wPut b).1)))), (65, Sr ((wPut (lconcat ([a, b]))).1))] ?_
      refine runL_callV 66 (.tuple #[Sr ((wFirst ((wPut (lconcat ([a, b]))).1)).1), Sr ((wFirst ((wPut (lconcat ([a, b]))).1)).2.1), I ((wFirst ((wPut (lconcat ([a, b]))).1)).2.2)]) (wFirst_con G4 ((wPut (lconcat ([a, b]))).1)) ?_
      refine runL_b [0,0,0,0,0,0,0] [(0, Sl a_a a.length c_a), (1, Sl a_b b.length c_b), (4, Bo false), (6, I ((wPut a).2)), (8, I ((wPut b).2)), (9, Sr ((wPut (lconcat ([a, b]))).1)), (10, I ((wPut (lconcat ([a, b]))).2)), (11, Sr ((wFirst ((wPut (lconcat ([a, b]))).1)).1)), (12, Sr ((wFirst ((wPut (lconcat ([a, b]))).1)).2.1)), (13, I ((wFirst ((wPut (lconcat ([a, b]))).1)).2.2)), (18, Bo false), (42, Bo (!(!(([(wPut a).2, (wPut b).2, (wPut (lconcat ([a, b]))).2]).any fun x0 => !decide (x0 = 0))))), (63, Bo (!((wPut (lconcat ([a, b]))).1 == ((wPut a).1) ++ ((wPut b).1))))] ?_
      refine runL_nil ?_
      refine tq_then ?_
      refine tc_seq ?_
      refine tc_rb [0,0,0,0,0,0] [(0, Sl a_a a.length c_a), (1, Sl a_b b.length c_b), (4, Bo false), (6, I ((wPut a).2)), (8, I ((wPut b).2)), (9, Sr ((wPut (lconcat ([a, b]))).1)), (10, I ((wPut (lconcat ([a, b]))).2)), (11, Sr ((wFirst ((wPut (lconcat ([a, b]))).1)).1)), (12, Sr ((wFirst ((wPut (lconcat ([a, b]))).1)).2.1)), (13, I ((wFirst ((wPut (lconcat ([a, b]))).1)).2.2)), (18, Bo false), (42, Bo (!(!(([(wPut a).2, (wPut b).2, (wPut (lconcat ([a, b]))).2]).any fun x0 => !decide (x0 = 0))))), (63, Bo (!((wPut (lconcat ([a, b]))).1 == ((wPut a).1) ++ ((wPut b).1)))), (75, Bo (decide (IntKind.i64.wrap ((((a.length : Nat) : Int)) + (((b.length : Nat) : Int))) = 0)))] ?_
      have e1 : IntKind.i64.wrap ((((a.length : Nat) : Int)) + (((b.length : Nat) : Int))) = (((a.length : Nat) : Int)) + (((b.length : Nat) : Int)) := IntWalk.i64_in _ (by first | omega | (simp only [lconcat2, List.length_append]; omega))
      refine tc_eq (fr' := [(0, Sl a_a a.length c_a), (1, Sl a_b b.length c_b), (4, Bo false), (6, I ((wPut a).2)), (8, I ((wPut b).2)), (9, Sr ((wPut (lconcat ([a, b]))).1)), (10, I ((wPut (lconcat ([a, b]))).2)), (11, Sr ((wFirst ((wPut (lconcat ([a, b]))).1)).1)), (12, Sr ((wFirst ((wPut (lconcat ([a, b]))).1)).2.1)), (13, I ((wFirst ((wPut (lconcat ([a, b]))).1)).2.2)), (18, Bo false), (42, Bo (!(!(([(wPut a).2, (wPut b).2, (wPut (lconcat ([a, b]))).2]).any fun x0 => !decide (x0 = 0))))), (63, Bo (!((wPut (lconcat ([a, b]))).1 == ((wPut a).1) ++ ((wPut b).1)))), (75, Bo (decide ((((a.length : Nat) : Int)) + (((b.length : Nat) : Int)) = 0)))]) (L' := [[], [], []]) (by simp only [e1]) (by rfl) ?_
      clear e1
      refine tc_cond (decide ((((a.length : Nat) : Int)) + (((b.length : Nat) : Int)) = 0)) (fun h5 => ?_) (fun h5 => ?_)
      ·
        try simp only [decide_eq_true_eq, decide_eq_false_iff_not, Bool.and_eq_true, Bool.or_eq_true, Bool.and_eq_false_imp, Bool.or_eq_false_iff, Bool.not_eq_true', Bool.not_eq_false', Bool.not_eq_true, Bool.not_eq_false, beq_iff_eq, beq_eq_false_iff_ne, bne_iff_ne, ne_eq, Decidable.not_not, Int.not_lt, Int.not_le] at h5
        refine tc_rb [0,0,0] [(0, Sl a_a a.length c_a), (1, Sl a_b b.length c_b), (4, Bo (decide ((wFirst ((wPut (lconcat ([a, b]))).1)).2.2 = 3))), (6, I ((wPut a).2)), (8, I ((wPut b).2)), (9, Sr ((wPut (lconcat ([a, b]))).1)), (10, I ((wPut (lconcat ([a, b]))).2)), (11, Sr ((wFirst ((wPut (lconcat ([a, b]))).1)).1)), (12, Sr ((wFirst ((wPut (lconcat ([a, b]))).1)).2.1)), (13, I ((wFirst ((wPut (lconcat ([a, b]))).1)).2.2)), (18, Bo false), (42, Bo (!(!(([(wPut a).2, (wPut b).2, (wPut (lconcat ([a, b]))).2]).any fun x0 => !decide (x0 = 0))))), (63, Bo (!((wPut (lconcat ([a, b]))).1 == ((wPut a).1) ++ ((wPut b).1)))), (75, Bo (decide ((((a.length : Nat) : Int)) + (((b.length : Nat) : Int)) = 0)))] ?_
        refine tc_ret ?_
        refine tq_then_ret ?_
        refine tq_ret [0] [Bo (decide ((wFirst ((wPut (lconcat ([a, b]))).1)).2.2 = 3))] (bp_ret (Mem.le_trans (Mem.le_trans (Mem.le_trans hl1 hl2) hl3) hl4) ?_)
        have hf_ : (decide ((wFirst ((wPut (lconcat ([a, b]))).1)).2.2 = 3)) = true := by
          (try simp only [lconcat2] at *); have q1 := @wJoin_ok a b; have q2 := @wPut_err (a ++ b); exact wJoin_case (l := a ++ b) (fun h0_ => by first | (exfalso; have h9_ := congrArg List.length h0_; simp only [List.length_append, List.length_nil] at h9_; omega) | (obtain ⟨h1_, h2_⟩ := List.append_eq_nil_iff.1 h0_; rw [h1_, h2_] at *; revert h1; decide) | (rw [h0_] at *; simp_all; done) | (rw [h0_]; decide) | grind) (fun x hx q3 => by (try simp only [List.any_cons, List.any_nil] at *); grind)
        exact congrArg Bo hf_
      ·
        try simp only [decide_eq_true_eq, decide_eq_false_iff_not, Bool.and_eq_true, Bool.or_eq_true, Bool.and_eq_false_imp, Bool.or_eq_false_iff, Bool.not_eq_true', Bool.not_eq_false', Bool.not_eq_true, Bool.not_eq_false, beq_iff_eq, beq_eq_false_iff_ne, bne_iff_ne, ne_eq, Decidable.not_not, Int.not_lt, Int.not_le] at h5
        refine tc_skip ?_
        refine tq_then ?_
        refine tc_seq ?_
        refine tc_region ?_
        refine runL_b [0,0] [(0, Sl a_a a.length c_a), (1, Sl a_b b.length c_b), (4, Bo false), (6, I ((wPut a).2)), (8, I ((wPut b).2)), (9, Sr ((wPut (lconcat ([a, b]))).1)), (10, I ((wPut (lconcat ([a, b]))).2)), (11, Sr ((wFirst ((wPut (lconcat ([a, b]))).1)).1)), (12, Sr ((wFirst ((wPut (lconcat ([a, b]))).1)).2.1)), (13, I ((wFirst ((wPut (lconcat ([a, b]))).1)).2.2)), (18, Bo false), (42, Bo (!(!(([(wPut a).2, (wPut b).2, (wPut (lconcat ([a, b]))).2]).any fun x0 => !decide (x0 = 0))))), (63, Bo (!((wPut (lconcat ([a, b]))).1 == ((wPut a).1) ++ ((wPut b).1)))), (75, Bo (decide ((((a.length : Nat) : Int)) + (((b.length : Nat) : Int)) = 0))), (78, Sl a_a a.length c_a), (79, Sl a_b b.length c_b)] ?_
        refine runL_bsl 80 2 #[Sl a_a a.length c_a, Sl a_b b.length c_b] 69 (fun b4 => ?_)
        refine runL_frz1 (b := b4) (o := 0) (cs := [Sl a_a a.length c_a, Sl a_b b.length c_b]) 0 (fun G6 hl6 hz4 => ?_)
        have hs5 : RS ESlS G6 (At b4 0) 2 [a, b] := RS.lit [[Sl a_a a.length c_a], [Sl a_b b.length c_b]] [a, b] ⟨⟨a_a, c_a, rfl, (h_a.mono (Mem.le_trans (Mem.le_trans (Mem.le_trans (Mem.le_trans hl1 hl2) hl3) hl4) hl6))⟩, ⟨⟨a_b, c_b, rfl, (h_b.mono (Mem.le_trans (Mem.le_trans (Mem.le_trans (Mem.le_trans hl1 hl2) hl3) hl4) hl6))⟩, trivial⟩⟩ hz4 (Nat.le_of_ble_eq_true rfl) (Nat.le_of_ble_eq_true rfl)
        refine runL_callR 81 (sconcat_ES G6 (At b4 0) 2 ([a, b]) hs5 (by simp; omega)) (fun v G7 L1 hl7 hp => ?_)
        obtain ⟨a2, c2, r2, rfl, hr2, rfl⟩ := hp
        refine runL_b [0] [(0, Sl a_a a.length c_a), (1, Sl a_b b.length c_b), (4, Bo false), (6, I ((wPut a).2)), (8, I ((wPut b).2)), (9, Sr ((wPut (lconcat ([a, b]))).1)), (10, I ((wPut (lconcat ([a, b]))).2)), (11, Sr ((wFirst ((wPut (lconcat ([a, b]))).1)).1)), (12, Sr ((wFirst ((wPut (lconcat ([a, b]))).1)).2.1)), (13, I ((wFirst ((wPut (lconcat ([a, b]))).1)).2.2)), (14, Sl a2 ((lconcat ([a, b])).length) c2), (18, Bo false), (42, Bo (!(!(([(wPut a).2, (wPut b).2, (wPut (lconcat ([a, b]))).2]).any fun x0 => !decide (x0 = 0))))), (63, Bo (!((wPut (lconcat ([a, b]))).1 == ((wPut a).1) ++ ((wPut b).1)))), (75, Bo (decide ((((a.length : Nat) : Int)) + (((b.length : Nat) : Int)) = 0)))] ?_
        refine runL_nil ?_
        refine tq_then ?_
        refine tc_seq ?_
        refine tc_region ?_
        refine runL_b [0] [(0, Sl a_a a.length c_a), (1, Sl a_b b.length c_b), (4, Bo false), (6, I ((wPut a).2)), (8, I ((wPut b).2)), (9, Sr ((wPut (lconcat ([a, b]))).1)), (10, I ((wPut (lconcat ([a, b]))).2)), (11, Sr ((wFirst ((wPut (lconcat ([a, b]))).1)).1)), (12, Sr ((wFirst ((wPut (lconcat ([a, b]))).1)).2.1)), (13, I ((wFirst ((wPut (lconcat ([a, b]))).1)).2.2)), (14, Sl a2 ((lconcat ([a, b])).length) c2), (18, Bo false), (42, Bo (!(!(([(wPut a).2, (wPut b).2, (wPut (lconcat ([a, b]))).2]).any fun x0 => !decide (x0 = 0))))), (63, Bo (!((wPut (lconcat ([a, b]))).1 == ((wPut a).1) ++ ((wPut b).1)))), (75, Bo (decide ((((a.length : Nat) : Int)) + (((b.length : Nat) : Int)) = 0))), (83, Sl a2 ((lconcat ([a, b])).length) c2)] ?_
        refine runL_frzR (E := ES) 0 hr2 (by (simp only [lconcat, ES, List.flatten_cons, List.flatten_nil, List.length_append, List.length_nil]; omega)) (fun G8 hl8 hs6 => ?_)
        refine runL_reslD 84 (some (I 1)) none 1 ((lconcat ([a, b])).length) hs6 (.inr ⟨_, rfl⟩) (.inl ⟨rfl, rfl⟩) (by first | omega | (simp only [lconcat2, List.length_append]; omega)) (by first | omega | (simp only [lconcat2, List.length_append]; omega)) (fun a3 c3 hs7 => ?_)
        refine runL_callV 85 (.tuple #[Sr ((wPut ((lconcat ([a, b])).drop 1)).1), I ((wPut ((lconcat ([a, b])).drop 1)).2)]) (wPut_con G8 a3 c3 ((lconcat ([a, b])).drop 1) hs7) ?_
        refine runL_b [0,0,0,0,0] [(0, Sl a_a a.length c_a), (1, Sl a_b b.length c_b), (4, Bo false), (6, I ((wPut a).2)), (8, I ((wPut b).2)), (9, Sr ((wPut (lconcat ([a, b]))).1)), (10, I ((wPut (lconcat ([a, b]))).2)), (11, Sr ((wFirst ((wPut (lconcat ([a, b]))).1)).1)), (12, Sr ((wFirst ((wPut (lconcat ([a, b]))).1)).2.1)), (13, I ((wFirst ((wPut (lconcat ([a, b]))).1)).2.2)), (14, Sl a2 ((lconcat ([a, b])).length) c2), (15, Sr ((wPut ((lconcat ([a, b])).drop 1)).1)), (16, I ((wPut ((lconcat ([a, b])).drop 1)).2)), (18, Bo false), (42, Bo (!(!(([(wPut a).2, (wPut b).2, (wPut (lconcat ([a, b]))).2]).any fun x0 => !decide (x0 = 0))))), (63, Bo (!((wPut (lconcat ([a, b]))).1 == ((wPut a).1) ++ ((wPut b).1)))), (75, Bo (decide ((((a.length : Nat) : Int)) + (((b.length : Nat) : Int)) = 0)))] ?_
        refine runL_nil ?_
        refine tq_then ?_
        refine tc_seq ?_
        refine tc_region ?_
        refine runL_b [0,0] [(0, Sl a_a a.length c_a), (1, Sl a_b b.length c_b), (4, Bo false), (6, I ((wPut a).2)), (8, I ((wPut b).2)), (9, Sr ((wPut (lconcat ([a, b]))).1)), (10, I ((wPut (lconcat ([a, b]))).2)), (11, Sr ((wFirst ((wPut (lconcat ([a, b]))).1)).1)), (12, Sr ((wFirst ((wPut (lconcat ([a, b]))).1)).2.1)), (13, I ((wFirst ((wPut (lconcat ([a, b]))).1)).2.2)), (14, Sl a2 ((lconcat ([a, b])).length) c2), (15, Sr ((wPut ((lconcat ([a, b])).drop 1)).1)), (18, Bo false), (42, Bo (!(!(([(wPut a).2, (wPut b).2, (wPut (lconcat ([a, b]))).2]).any fun x0 => !decide (x0 = 0))))), (63, Bo (!((wPut (lconcat ([a, b]))).1 == ((wPut a).1) ++ ((wPut b).1)))), (75, Bo (decide ((((a.length : Nat) : Int)) + (((b.length : Nat) : Int)) = 0))), (88, I ((wFirst ((wPut (lconcat ([a, b]))).1)).2.2)), (89, I ((wPut ((lconcat ([a, b])).drop 1)).2))] ?_
        refine runL_bsl 90 2 #[I ((wFirst ((wPut (lconcat ([a, b]))).1)).2.2), I ((wPut ((lconcat ([a, b])).drop 1)).2)] 25 (fun b5 => ?_)
        refine runL_frz1 (b := b5) (o := 0) (cs := [I ((wFirst ((wPut (lconcat ([a, b]))).1)).2.2), I ((wPut ((lconcat ([a, b])).drop 1)).2)]) 0 (fun G9 hl9 hz5 => ?_)
        have hs8 : RS EErr G9 (At b5 0) 2 [(wFirst ((wPut (lconcat ([a, b]))).1)).2.2, (wPut ((lconcat ([a, b])).drop 1)).2] := RS.lit [[I ((wFirst ((wPut (lconcat ([a, b]))).1)).2.2)], [I ((wPut ((lconcat ([a, b])).drop 1)).2)]] [(wFirst ((wPut (lconcat ([a, b]))).1)).2.2, (wPut ((lconcat ([a, b])).drop 1)).2] ⟨rfl, ⟨rfl, trivial⟩⟩ hz5 (Nat.le_of_ble_eq_true rfl) (Nat.le_of_ble_eq_true rfl)
        refine runL_callV 91 (Bo (!(([(wFirst ((wPut (lconcat ([a, b]))).1)).2.2, (wPut ((lconcat ([a, b])).drop 1)).2]).any fun x0 => !decide (x0 = 0)))) (good_con G9 (At b5 0) 2 ([(wFirst ((wPut (lconcat ([a, b]))).1)).2.2, (wPut ((lconcat ([a, b])).drop 1)).2]) hs8) ?_
        refine runL_b [0] [(0, Sl a_a a.length c_a), (1, Sl a_b b.length c_b), (4, Bo false), (6, I ((wPut a).2)), (8, I ((wPut b).2)), (9, Sr ((wPut (lconcat ([a, b]))).1)), (10, I ((wPut (lconcat ([a, b]))).2)), (11, Sr ((wFirst ((wPut (lconcat ([a, b]))).1)).1)), (12, Sr ((wFirst ((wPut (lconcat ([a, b]))).1)).2.1)), (13, I ((wFirst ((wPut (lconcat ([a, b]))).1)).2.2)), (14, Sl a2 ((lconcat ([a, b])).length) c2), (15, Sr ((wPut ((lconcat ([a, b])).drop 1)).1)), (18, Bo false), (42, Bo (!(!(([(wPut a).2, (wPut b).2, (wPut (lconcat ([a, b]))).2]).any fun x0 => !decide (x0 = 0))))), (63, Bo (!((wPut (lconcat ([a, b]))).1 == ((wPut a).1) ++ ((wPut b).1)))), (75, Bo (decide ((((a.length : Nat) : Int)) + (((b.length : Nat) : Int)) = 0))), (92, Bo (!(([(wFirst ((wPut (lconcat ([a, b]))).1)).2.2, (wPut ((lconcat ([a, b])).drop 1)).2]).any fun x0 => !decide (x0 = 0))))] ?_
        refine runL_cases (fun bb => [(0, Sl a_a a.length c_a), (1, Sl a_b b.length c_b), (4, Bo false), (6, I ((wPut a).2)), (8, I ((wPut b).2)), (9, Sr ((wPut (lconcat ([a, b]))).1)), (10, I ((wPut (lconcat ([a, b]))).2)), (11, Sr ((wFirst ((wPut (lconcat ([a, b]))).1)).1)), (12, Sr ((wFirst ((wPut (lconcat ([a, b]))).1)).2.1)), (13, I ((wFirst ((wPut (lconcat ([a, b]))).1)).2.2)), (14, Sl a2 ((lconcat ([a, b])).length) c2), (15, Sr ((wPut ((lconcat ([a, b])).drop 1)).1)), (18, Bo false), (42, Bo (!(!(([(wPut a).2, (wPut b).2, (wPut (lconcat ([a, b]))).2]).any fun x0 => !decide (x0 = 0))))), (63, Bo (!((wPut (lconcat ([a, b]))).1 == ((wPut a).1) ++ ((wPut b).1)))), (75, Bo (decide ((((a.length : Nat) : Int)) + (((b.length : Nat) : Int)) = 0))), (92, Bo bb)]) (!(([(wFirst ((wPut (lconcat ([a, b]))).1)).2.2, (wPut ((lconcat ([a, b])).drop 1)).2]).any fun x0 => !decide (x0 = 0))) (fun h6 => ?_) (fun h6 => ?_)
        ·
          try simp only [decide_eq_true_eq, decide_eq_false_iff_not, Bool.and_eq_true, Bool.or_eq_true, Bool.and_eq_false_imp, Bool.or_eq_false_iff, Bool.not_eq_true', Bool.not_eq_false', Bool.not_eq_true, Bool.not_eq_false, beq_iff_eq, beq_eq_false_iff_ne, bne_iff_ne, ne_eq, Decidable.not_not, Int.not_lt, Int.not_le] at h6
          refine runL_b [0,0] [(0, Sl a_a a.length c_a), (1, Sl a_b b.length c_b), (4, Bo false), (6, I ((wPut a).2)), (8, I ((wPut b).2)), (9, Sr ((wPut (lconcat ([a, b]))).1)), (10, I ((wPut (lconcat ([a, b]))).2)), (12, Sr ((wFirst ((wPut (lconcat ([a, b]))).1)).2.1)), (13, I ((wFirst ((wPut (lconcat ([a, b]))).1)).2.2)), (14, Sl a2 ((lconcat ([a, b])).length) c2), (15, Sr ((wPut ((lconcat ([a, b])).drop 1)).1)), (18, Bo false), (42, Bo (!(!(([(wPut a).2, (wPut b).2, (wPut (lconcat ([a, b]))).2]).any fun x0 => !decide (x0 = 0))))), (63, Bo (!((wPut (lconcat ([a, b]))).1 == ((wPut a).1) ++ ((wPut b).1)))), (75, Bo (decide ((((a.length : Nat) : Int)) + (((b.length : Nat) : Int)) = 0))), (92, Bo true), (93, Sr ((wFirst ((wPut (lconcat ([a, b]))).1)).1)), (94, Sl a2 ((lconcat ([a, b])).length) c2)] ?_
          obtain ⟨b6, o1, rfl⟩ := RS.addr (hs6.mono hl9) (k := 0) (by first | omega | (simp only [lconcat2, List.length_append]; omega))
          obtain ⟨x1, hx1⟩ := getX (l := lconcat ([a, b])) (k := 0) (by first | omega | (simp only [lconcat2, List.length_append]; omega))
          obtain ⟨_, ⟨rfl, w1⟩, hc1⟩ := RS.get (hs6.mono hl9) hx1
          refine runL_idx (b := b6) (off := o1) (len := (lconcat ([a, b])).length) (cap := c2) (ik := .i64) 95 9 1 0 (by first | omega | (simp only [lconcat2, List.length_append]; omega)) ?_
          refine runL_ldG 96 9 (cs := [Sr x1]) 0 (Sr x1) hc1 ?_
          refine runL_b [0,0,0] [(0, Sl a_a a.length c_a), (1, Sl a_b b.length c_b), (4, Bo false), (6, I ((wPut a).2)), (8, I ((wPut b).2)), (9, Sr ((wPut (lconcat ([a, b]))).1)), (10, I ((wPut (lconcat ([a, b]))).2)), (12, Sr ((wFirst ((wPut (lconcat ([a, b]))).1)).2.1)), (13, I ((wFirst ((wPut (lconcat ([a, b]))).1)).2.2)), (14, Sl (At b6 o1) ((lconcat ([a, b])).length) c2), (15, Sr ((wPut ((lconcat ([a, b])).drop 1)).1)), (18, Bo false), (42, Bo (!(!(([(wPut a).2, (wPut b).2, (wPut (lconcat ([a, b]))).2]).any fun x0 => !decide (x0 = 0))))), (63, Bo (!((wPut (lconcat ([a, b]))).1 == ((wPut a).1) ++ ((wPut b).1)))), (75, Bo (decide ((((a.length : Nat) : Int)) + (((b.length : Nat) : Int)) = 0))), (99, Bo (((B ((wFirst ((wPut (lconcat ([a, b]))).1)).1)).toList == (B x1).toList)))] ?_
          refine runL_eq (fr' := [(0, Sl a_a a.length c_a), (1, Sl a_b b.length c_b), (4, Bo false), (6, I ((wPut a).2)), (8, I ((wPut b).2)), (9, Sr ((wPut (lconcat ([a, b]))).1)), (10, I ((wPut (lconcat ([a, b]))).2)), (12, Sr ((wFirst ((wPut (lconcat ([a, b]))).1)).2.1)), (13, I ((wFirst ((wPut (lconcat ([a, b]))).1)).2.2)), (14, Sl (At b6 o1) ((lconcat ([a, b])).length) c2), (15, Sr ((wPut ((lconcat ([a, b])).drop 1)).1)), (18, Bo false), (42, Bo (!(!(([(wPut a).2, (wPut b).2, (wPut (lconcat ([a, b]))).2]).any fun x0 => !decide (x0 = 0))))), (63, Bo (!((wPut (lconcat ([a, b]))).1 == ((wPut a).1) ++ ((wPut b).1)))), (75, Bo (decide ((((a.length : Nat) : Int)) + (((b.length : Nat) : Int)) = 0))), (99, Bo (((wFirst ((wPut (lconcat ([a, b]))).1)).1 == x1)))]) (L' := [[], [], [], [], [], []]) (by simp only [B_toList]) (by rfl) ?_
          refine runL_b2 (((wFirst ((wPut (lconcat ([a, b]))).1)).1 == x1)) (fun bb => [(0, Sl a_a a.length c_a), (1, Sl a_b b.length c_b), (4, Bo false), (6, I ((wPut a).2)), (8, I ((wPut b).2)), (9, Sr ((wPut (lconcat ([a, b]))).1)), (10, I ((wPut (lconcat ([a, b]))).2)), (12, Sr ((wFirst ((wPut (lconcat ([a, b]))).1)).2.1)), (13, I ((wFirst ((wPut (lconcat ([a, b]))).1)).2.2)), (14, Sl (At b6 o1) ((lconcat ([a, b])).length) c2), (15, Sr ((wPut ((lconcat ([a, b])).drop 1)).1)), (18, Bo false), (42, Bo (!(!(([(wPut a).2, (wPut b).2, (wPut (lconcat ([a, b]))).2]).any fun x0 => !decide (x0 = 0))))), (63, Bo (!((wPut (lconcat ([a, b]))).1 == ((wPut a).1) ++ ((wPut b).1)))), (75, Bo (decide ((((a.length : Nat) : Int)) + (((b.length : Nat) : Int)) = 0))), (99, Bo bb)]) [0,0,0,0] [1,1,1,0] (fun bb => [(0, Sl a_a a.length c_a), (1, Sl a_b b.length c_b), (4, Bo false), (6, I ((wPut a).2)), (8, I ((wPut b).2)), (9, Sr ((wPut (lconcat ([a, b]))).1)), (10, I ((wPut (lconcat ([a, b]))).2)), (13, I ((wFirst ((wPut (lconcat ([a, b]))).1)).2.2)), (14, Sl (At b6 o1) ((lconcat ([a, b])).length) c2), (18, Bo false), (42, Bo (!(!(([(wPut a).2, (wPut b).2, (wPut (lconcat ([a, b]))).2]).any fun x0 => !decide (x0 = 0))))), (63, Bo (!((wPut (lconcat ([a, b]))).1 == ((wPut a).1) ++ ((wPut b).1)))), (75, Bo (decide ((((a.length : Nat) : Int)) + (((b.length : Nat) : Int)) = 0))), (103, Bo (bb && (((B ((wFirst ((wPut (lconcat ([a, b]))).1)).2.1)).toList == (B ((wPut ((lconcat ([a, b])).drop 1)).1)).toList))))]) ?_
          refine runL_eq (fr' := [(0, Sl a_a a.length c_a), (1, Sl a_b b.length c_b), (4, Bo false), (6, I ((wPut a).2)), (8, I ((wPut b).2)), (9, Sr ((wPut (lconcat ([a, b]))).1)), (10, I ((wPut (lconcat ([a, b]))).2)), (13, I ((wFirst ((wPut (lconcat ([a, b]))).1)).2.2)), (14, Sl (At b6 o1) ((lconcat ([a, b])).length) c2), (18, Bo false), (42, Bo (!(!(([(wPut a).2, (wPut b).2, (wPut (lconcat ([a, b]))).2]).any fun x0 => !decide (x0 = 0))))), (63, Bo (!((wPut (lconcat ([a, b]))).1 == ((wPut a).1) ++ ((wPut b).1)))), (75, Bo (decide ((((a.length : Nat) : Int)) + (((b.length : Nat) : Int)) = 0))), (103, Bo ((((wFirst ((wPut (lconcat ([a, b]))).1)).1 == x1)) && (((wFirst ((wPut (lconcat ([a, b]))).1)).2.1 == (wPut ((lconcat ([a, b])).drop 1)).1))))]) (L' := [[], [], [], [], [], []]) (by simp only [B_toList]) (by rfl) ?_
          refine runL_b [0] [(0, Sl a_a a.length c_a), (1, Sl a_b b.length c_b), (4, Bo ((((wFirst ((wPut (lconcat ([a, b]))).1)).1 == x1)) && (((wFirst ((wPut (lconcat ([a, b]))).1)).2.1 == (wPut ((lconcat ([a, b])).drop 1)).1)))), (6, I ((wPut a).2)), (8, I ((wPut b).2)), (9, Sr ((wPut (lconcat ([a, b]))).1)), (10, I ((wPut (lconcat ([a, b]))).2)), (13, I ((wFirst ((wPut (lconcat ([a, b]))).1)).2.2)), (14, Sl (At b6 o1) ((lconcat ([a, b])).length) c2), (18, Bo false), (42, Bo (!(!(([(wPut a).2, (wPut b).2, (wPut (lconcat ([a, b]))).2]).any fun x0 => !decide (x0 = 0))))), (63, Bo (!((wPut (lconcat ([a, b]))).1 == ((wPut a).1) ++ ((wPut b).1)))), (75, Bo (decide ((((a.length : Nat) : Int)) + (((b.length : Nat) : Int)) = 0)))] ?_
          refine runL_nil ?_
          refine tq_then ?_
          refine tc_ret ?_
          refine tq_ret [0] [Bo ((((wFirst ((wPut (lconcat ([a, b]))).1)).1 == x1)) && (((wFirst ((wPut (lconcat ([a, b]))).1)).2.1 == (wPut ((lconcat ([a, b])).drop 1)).1)))] (bp_ret (Mem.le_trans (Mem.le_trans (Mem.le_trans (Mem.le_trans (Mem.le_trans (Mem.le_trans (Mem.le_trans hl1 hl2) hl3) hl4) hl6) hl7) hl8) hl9) ?_)
          have hf_ : ((((wFirst ((wPut (lconcat ([a, b]))).1)).1 == x1)) && (((wFirst ((wPut (lconcat ([a, b]))).1)).2.1 == (wPut ((lconcat ([a, b])).drop 1)).1))) = true := by
            (try simp only [lconcat2] at *); have q1 := @wJoin_ok a b; have q2 := @wPut_err (a ++ b); exact wJoin_case (l := a ++ b) (fun h0_ => by first | (exfalso; have h9_ := congrArg List.length h0_; simp only [List.length_append, List.length_nil] at h9_; omega) | (obtain ⟨h1_, h2_⟩ := List.append_eq_nil_iff.1 h0_; rw [h1_, h2_] at *; revert h1; decide) | (rw [h0_] at *; simp_all; done) | (rw [h0_]; decide) | grind) (fun x hx q3 => by (try simp only [List.any_cons, List.any_nil] at *); grind)
          exact congrArg Bo hf_
        ·
          try simp only [decide_eq_true_eq, decide_eq_false_iff_not, Bool.and_eq_true, Bool.or_eq_true, Bool.and_eq_false_imp, Bool.or_eq_false_iff, Bool.not_eq_true', Bool.not_eq_false', Bool.not_eq_true, Bool.not_eq_false, beq_iff_eq, beq_eq_false_iff_ne, bne_iff_ne, ne_eq, Decidable.not_not, Int.not_lt, Int.not_le] at h6
          refine runL_b [1,1,1,1,1,0,0,1,1,1,0,0] [(0, Sl a_a a.length c_a), (1, Sl a_b b.length c_b), (4, Bo false), (6, I ((wPut a).2)), (8, I ((wPut b).2)), (9, Sr ((wPut (lconcat ([a, b]))).1)), (10, I ((wPut (lconcat ([a, b]))).2)), (13, I ((wFirst ((wPut (lconcat ([a, b]))).1)).2.2)), (14, Sl a2 ((lconcat ([a, b])).length) c2), (18, Bo false), (42, Bo (!(!(([(wPut a).2, (wPut b).2, (wPut (lconcat ([a, b]))).2]).any fun x0 => !decide (x0 = 0))))), (63, Bo (!((wPut (lconcat ([a, b]))).1 == ((wPut a).1) ++ ((wPut b).1)))), (75, Bo (decide ((((a.length : Nat) : Int)) + (((b.length : Nat) : Int)) = 0)))] ?_
          refine runL_nil ?_
          refine tq_then ?_
          refine tc_ret ?_
          refine tq_ret [0] [Bo false] (bp_ret (Mem.le_trans (Mem.le_trans (Mem.le_trans (Mem.le_trans (Mem.le_trans (Mem.le_trans (Mem.le_trans hl1 hl2) hl3) hl4) hl6) hl7) hl8) hl9) ?_)
          exfalso
          (try simp only [lconcat2] at *); have q1 := @wJoin_ok a b; have q2 := @wPut_err (a ++ b); exact wJoin_case (l := a ++ b) (fun h0_ => by first | (exfalso; have h9_ := congrArg List.length h0_; simp only [List.length_append, List.length_nil] at h9_; omega) | (obtain ⟨h1_, h2_⟩ := List.append_eq_nil_iff.1 h0_; rw [h1_, h2_] at *; revert h1; decide) | (rw [h0_] at *; simp_all; done) | (rw [h0_]; decide) | grind) (fun x hx q3 => by (try simp only [List.any_cons, List.any_nil] at *); grind)
end Go.Proofs.Ytgcnkcajfjpbcaa
