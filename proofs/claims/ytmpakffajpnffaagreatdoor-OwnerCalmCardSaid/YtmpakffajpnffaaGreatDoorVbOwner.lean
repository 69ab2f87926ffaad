import Derived.Test.YtmpakffajpnffaaGreatDoorVbHeadN
namespace Go.Proofs.YtmpakffajpnffaaGreatDoor
open Go.Tx
set_option linter.unusedVariables false
set_option linter.unusedSimpArgs false
def ownerZ : OwnerD := ⟨[], 0, headZ, [], 0⟩
def ownerLong (s : List UInt8) : Bool := decide (s.length > 20)
def ownerCheck (o : OwnerD) : Int := if pathName o.name = false then 3 else if headCheck o.head ≠ 0 then headCheck o.head else if 30 < (o.wanted.length : Int) ∨ (o.wanted.any fun x0 => ownerLong x0) = true then 2 else if o.had < 0 ∨ (o.wanted.length : Int) < o.had then 4 else 0
def ownerNew (name : List UInt8) (key : Int) (h : HeadD) : OwnerD × Int := if ownerCheck ⟨name, key, h, [], 0⟩ ≠ 0 then (ownerZ, ownerCheck ⟨name, key, h, [], 0⟩) else (⟨name, key, h, [], 0⟩, 0)
def ownerWantE (o : OwnerD) (v : List UInt8) : Int := if ownerCheck o ≠ 0 then ownerCheck o else if ownerLong v = true then 2 else if (o.wanted.length : Int) = 30 then 7 else 0
def ownerWant (o : OwnerD) (v : List UInt8) : OwnerD × AskD × Int := if ownerWantE o v ≠ 0 then (ownerZ, askZ, ownerWantE o v) else (⟨o.name, o.key, o.head, o.wanted ++ [v], o.had⟩, (tagAsk o.key o.name v o.wanted.length).1, 0)
theorem ownerCheck_iff {o : OwnerD} : ownerCheck o = 0 ↔ pathName o.name = true ∧ headCheck o.head = 0 ∧ o.wanted.length ≤ 30 ∧ (∀ s ∈ o.wanted, s.length ≤ 20) ∧ 0 ≤ o.had ∧ o.had ≤ o.wanted.length := by
  unfold ownerCheck
  have e : (o.wanted.any fun x0 => ownerLong x0) = true ↔ ¬ ∀ s ∈ o.wanted, s.length ≤ 20 := by
    rw [List.any_eq_true]
    unfold ownerLong
    constructor
    · rintro ⟨x, hx, h⟩ hc
      have := hc x hx
      simp at h; omega
    · intro h
      apply Classical.byContradiction
      intro hc
      refine h fun s hs => ?_
      apply Classical.byContradiction
      intro h2
      exact hc ⟨s, hs, by simp; omega⟩
  cases hn : pathName o.name with
  | false => simp
  | true =>
    rw [if_neg (by simp)]
    by_cases h1 : headCheck o.head = 0
    · rw [if_neg (by omega)]
      by_cases h2 : 30 < (o.wanted.length : Int) ∨ (o.wanted.any fun x0 => ownerLong x0) = true
      · rw [if_pos h2]
        constructor
        · intro h; cases h
        · rintro ⟨_, _, h3, h4, _⟩
          rcases h2 with h2 | h2
          · omega
          · exact absurd h4 (e.1 h2)
      · rw [if_neg h2]
        have h3 : o.wanted.length ≤ 30 := Nat.le_of_not_lt fun h => h2 (.inl (by omega))
        have h4 : ∀ s ∈ o.wanted, s.length ≤ 20 := Decidable.not_not.1 fun h => h2 (.inr (e.2 h))
        split
        · constructor
          · intro h; cases h
          · rintro ⟨_, _, _, _, _, _⟩; omega
        · exact ⟨fun _ => ⟨rfl, h1, h3, h4, by omega, by omega⟩, fun _ => rfl⟩
    · rw [if_pos h1]
      exact ⟨fun h => absurd h h1, fun h => absurd h.2.1 h1⟩
theorem ownerWant_ok {o : OwnerD} {v : List UInt8} (h : (ownerWant o v).2.2 = 0) : ownerCheck o = 0 ∧ v.length ≤ 20 ∧ o.wanted.length < 30 ∧ ownerWant o v = (⟨o.name, o.key, o.head, o.wanted ++ [v], o.had⟩, ⟨o.name, v, o.wanted.length, tagOf o.key (tagSaid o.name v o.wanted.length)⟩, 0) ∧ ownerCheck (ownerWant o v).1 = 0 ∧ tagHolds o.key (ownerWant o v).2.1 = true ∧ (ownerWant o v).1.key = o.key ∧ (ownerWant o v).2.1.n = o.wanted.length ∧ (ownerWant o v).1.wanted.length = o.wanted.length + 1 := by
  have key : ownerCheck o = 0 ∧ ownerLong v = false ∧ ¬ (o.wanted.length : Int) = 30 := by
    unfold ownerWant at h
    split at h
    · contradiction
    · rename_i h1
      unfold ownerWantE at h1
      by_cases e1 : ownerCheck o = 0
      · rw [if_neg (by omega)] at h1
        by_cases e2 : ownerLong v = true
        · rw [if_pos e2] at h1; omega
        · rw [if_neg e2] at h1
          by_cases e3 : (o.wanted.length : Int) = 30
          · rw [if_pos e3] at h1; omega
          · exact ⟨e1, by simpa using e2, e3⟩
      · rw [if_pos e1] at h1; omega
  obtain ⟨e1, e2, e3⟩ := key
  have hi := ownerCheck_iff.1 e1
  have hv : v.length ≤ 20 := by unfold ownerLong at e2; simp at e2; omega
  have hE : ownerWantE o v = 0 := by unfold ownerWantE; rw [if_neg (by omega), if_neg (by rw [e2]; simp), if_neg e3]
  have hr : askRight o.name v = 0 := by unfold askRight; rw [if_neg (by rw [hi.1]; simp), if_neg (by omega)]
  have ht : tagAsk o.key o.name v o.wanted.length = (⟨o.name, v, o.wanted.length, tagOf o.key (tagSaid o.name v o.wanted.length)⟩, 0) := by unfold tagAsk; rw [if_neg (by omega)]
  have hw : ownerWant o v = (⟨o.name, o.key, o.head, o.wanted ++ [v], o.had⟩, ⟨o.name, v, o.wanted.length, tagOf o.key (tagSaid o.name v o.wanted.length)⟩, 0) := by
    unfold ownerWant; rw [if_neg (by omega), ht]
  refine ⟨e1, hv, by omega, hw, ?_, ?_, ?_, ?_, ?_⟩ <;> rw [hw] <;> simp only
  · rw [ownerCheck_iff]
    refine ⟨hi.1, hi.2.1, by simp; omega, fun s hs => ?_, hi.2.2.2.2.1, by simp; omega⟩
    rcases List.mem_append.1 hs with hs | hs
    · exact hi.2.2.2.1 s hs
    · rw [List.mem_singleton.1 hs]; exact hv
  · unfold tagHolds; simp [hr]
  · simp
theorem ownerLong_con (G : Mem) (s : List UInt8)  : Con Tryz.prog 85 #[Sr s] G [] (fun u G' L' => u = Bo (ownerLong s)) := by
 refine con_of Tryz.func85 6 [(0, Sr s)] rfl (fun w0 G0 => ?_)
 refine tc_rb [0] [(0, Sr s)] ?_
 refine tc_rb [0,0,0,0] [(2, Bo (decide (((s).length : Int) > 20)))] (tc_ret ?_)
 refine tq_ret [0] [Bo (decide (((s).length : Int) > 20))] (bp_ret (Mem.le_refl _) ?_)
 have hf_ : (ownerLong s) = (decide (((s).length : Int) > 20)) := by
  unfold ownerLong; rw [Bool.eq_iff_iff]; simp; omega
 (try rw [hf_]); first | with_reducible rfl | (simp only [packR]; done) | rfl
theorem ownerCheck_con (G : Mem) (vs_o : List Value) (o : OwnerD) (h_o : EOwner.R G vs_o o)  : Con Tryz.prog 84 #[.agg vs_o.toArray] G [] (fun u G' L' => u = I (ownerCheck o)) := by
 obtain ⟨a1, c1, rfl, w1, w2, w3, w4, w5, w6, hs1, w7⟩ := h_o
 refine con_of Tryz.func84 36 [(0, .agg #[Sr o.name, U o.key, I o.head.epoch, U o.head.root, U o.head.prev, I o.head.at_, Sl a1 o.wanted.length c1, I o.had])] rfl (fun w0 G0 => ?_)
 refine tc_seq (tc_region ?_)
 refine runL_box 1 #[Sr o.name, U o.key, I o.head.epoch, U o.head.root, U o.head.prev, I o.head.at_, Sl a1 o.wanted.length c1, I o.had] 92 (fun b1 => ?_)
 refine runL_b [0] [(1, Pt b1 0)] (runL_nil (tq_then (tc_seq (tc_seq (tc_region ?_)))))
 refine runL_b [0,2] [(1, Pt b1 0), (5, Sr o.name)] ?_
 refine runL_callV 6 (Bo (pathName o.name)) (pathName_con G o.name) ?_
 refine runL_b [0] [(1, Pt b1 0), (7, Bo (!(pathName o.name)))] (runL_nil (tq_then ?_))
 refine tc_cond (!(pathName o.name)) (fun h1 => ?_) (fun h1 => ?_)
 ·
  try simp only [BB] at h1
  refine tc_rb [0] [(2, I 3)] (tc_ret (tq_then_ret ?_))
  refine tq_ret [0] [I 3] (bp_ret (Mem.le_refl _) ?_)
  have hf_ : (ownerCheck o) = 3 := by
   unfold ownerCheck; first | (rw [if_pos (by simp_all)]; done) | (rw [if_neg (by simp_all), if_pos (by omega)]; done) | (rw [if_neg (by simp_all), if_neg (by omega)]; first | (rw [if_pos (by simp_all; omega)]; done) | (rw [if_pos (by simp_all)]; done) | (rw [if_neg (by simp_all), if_pos (by omega)]; done) | (rw [if_neg (by simp_all; omega), if_pos (by omega)]; done) | (rw [if_neg (by simp_all), if_neg (by omega)]; done) | (rw [if_neg (by simp_all; omega), if_neg (by omega)]; done))
  (try rw [hf_]); first | with_reducible rfl | (simp only [packR]; done) | rfl
 ·
  try simp only [BB] at h1
  refine tc_skip (tq_then (tc_seq (tc_seq (tc_region ?_))))
  refine runL_b [0,2] [(1, Pt b1 0), (9, .agg #[I o.head.epoch, U o.head.root, U o.head.prev, I o.head.at_])] ?_
  refine runL_callV 10 (I (headCheck o.head)) (headCheck_con o.head G) ?_
  refine runL_b [0] [(1, Pt b1 0), (3, I (headCheck o.head))] (runL_nil (tq_then ?_))
  refine tc_rb [0,0] [(1, Pt b1 0), (3, I (headCheck o.head)), (12, Bo (!decide (headCheck o.head = 0)))] ?_
  refine tc_cond (!decide (headCheck o.head = 0)) (fun h2 => ?_) (fun h2 => ?_)
  ·
   try simp only [BB] at h2
   refine tc_rb [0,0] [(2, I (headCheck o.head))] (tc_ret (tq_then_ret ?_))
   refine tq_ret [0] [I (headCheck o.head)] (bp_ret (Mem.le_refl _) ?_)
   have hf_ : (ownerCheck o) = (headCheck o.head) := by
    unfold ownerCheck; first | (rw [if_pos (by simp_all)]; done) | (rw [if_neg (by simp_all), if_pos (by omega)]; done) | (rw [if_neg (by simp_all), if_neg (by omega)]; first | (rw [if_pos (by simp_all; omega)]; done) | (rw [if_pos (by simp_all)]; done) | (rw [if_neg (by simp_all), if_pos (by omega)]; done) | (rw [if_neg (by simp_all; omega), if_pos (by omega)]; done) | (rw [if_neg (by simp_all), if_neg (by omega)]; done) | (rw [if_neg (by simp_all; omega), if_neg (by omega)]; done))
   (try rw [hf_]); first | with_reducible rfl | (simp only [packR]; done) | rfl
  ·
   try simp only [BB] at h2
   refine tc_skip (tq_then (tc_seq (tc_block (tc_seq (tc_region ?_)))))
   refine runL_b [0,2,0,0,0] [(1, Pt b1 0), (19, Bo (decide ((o.wanted.length : Int) > 30)))] ?_
   refine runL_cases (fun bb => [(1, Pt b1 0), (19, Bo bb)]) (decide ((o.wanted.length : Int) > 30)) (fun h3 => ?_) (fun h3 => ?_)
   ·
    try simp only [BB] at h3
    refine runL_b [1,1,1,0,0] [(1, Pt b1 0), (14, Bo true)] (runL_nil (tq_then ?_))
    refine tc_cond_true ?_
    refine tc_rb [0] [(2, I 2)] (tc_ret (tq_block_ret (tq_then_ret ?_)))
    refine tq_ret [0] [I 2] (bp_ret (Mem.le_refl _) ?_)
    have hf_ : (ownerCheck o) = 2 := by
     unfold ownerCheck; first | (rw [if_pos (by simp_all)]; done) | (rw [if_neg (by simp_all), if_pos (by omega)]; done) | (rw [if_neg (by simp_all), if_neg (by omega)]; first | (rw [if_pos (by simp_all; omega)]; done) | (rw [if_pos (by simp_all)]; done) | (rw [if_neg (by simp_all), if_pos (by omega)]; done) | (rw [if_neg (by simp_all; omega), if_pos (by omega)]; done) | (rw [if_neg (by simp_all), if_neg (by omega)]; done) | (rw [if_neg (by simp_all; omega), if_neg (by omega)]; done))
    (try rw [hf_]); first | with_reducible rfl | (simp only [packR]; done) | rfl
   ·
    try simp only [BB] at h3
    refine runL_b [0,2] [(1, Pt b1 0), (19, Bo false), (21, Sl a1 o.wanted.length c1)] ?_
    refine runL_callV 22 (Bo (o.wanted.any (fun x0 => ownerLong x0))) (sany_ES G a1 c1 o.wanted hs1 85 #[] (fun x0 => ownerLong x0) (fun _ _ => by kernel_rfl) (fun x0 hx0 => ownerLong_con G x0)) ?_
    refine runL_b [0,0] [(1, Pt b1 0), (14, Bo (o.wanted.any (fun x0 => ownerLong x0)))] (runL_nil (tq_then ?_))
    refine tc_cond (o.wanted.any (fun x0 => ownerLong x0)) (fun h4 => ?_) (fun h4 => ?_)
    ·
     try simp only [BB] at h4
     refine tc_rb [0] [(2, I 2)] (tc_ret (tq_block_ret (tq_then_ret ?_)))
     refine tq_ret [0] [I 2] (bp_ret (Mem.le_refl _) ?_)
     have hf_ : (ownerCheck o) = 2 := by
      unfold ownerCheck; first | (rw [if_pos (by simp_all)]; done) | (rw [if_neg (by simp_all), if_pos (by omega)]; done) | (rw [if_neg (by simp_all), if_neg (by omega)]; first | (rw [if_pos (by simp_all; omega)]; done) | (rw [if_pos (by simp_all)]; done) | (rw [if_neg (by simp_all), if_pos (by omega)]; done) | (rw [if_neg (by simp_all; omega), if_pos (by omega)]; done) | (rw [if_neg (by simp_all), if_neg (by omega)]; done) | (rw [if_neg (by simp_all; omega), if_neg (by omega)]; done))
     (try rw [hf_]); first | with_reducible rfl | (simp only [packR]; done) | rfl
    ·
     try simp only [BB] at h4
     refine tc_seq (tc_region ?_)
     refine runL_b [0,2,0,0] [(1, Pt b1 0), (28, Bo (decide (o.had < 0)))] ?_
     refine runL_b2 (decide (o.had < 0)) (fun bb => [(1, Pt b1 0), (28, Bo bb)]) [1,1,1,1,1,1,0] [0,2,0,2,0,0,0] (fun bb => [(35, Bo (bb || (decide (o.had > (o.wanted.length : Int)))))]) ?_
     refine runL_b [0] [(24, Bo ((decide (o.had < 0)) || (decide (o.had > (o.wanted.length : Int)))))] (runL_nil (tq_then ?_))
     refine tc_cond ((decide (o.had < 0)) || (decide (o.had > (o.wanted.length : Int)))) (fun h5 => ?_) (fun h5 => ?_)
     ·
      try simp only [BB] at h5
      refine tc_rb [0] [(2, I 4)] (tc_ret (tq_block_ret (tq_then_ret ?_)))
      refine tq_ret [0] [I 4] (bp_ret (Mem.le_refl _) ?_)
      have hf_ : (ownerCheck o) = 4 := by
       unfold ownerCheck; first | (rw [if_pos (by simp_all)]; done) | (rw [if_neg (by simp_all), if_pos (by omega)]; done) | (rw [if_neg (by simp_all), if_neg (by omega)]; first | (rw [if_pos (by simp_all; omega)]; done) | (rw [if_pos (by simp_all)]; done) | (rw [if_neg (by simp_all), if_pos (by omega)]; done) | (rw [if_neg (by simp_all; omega), if_pos (by omega)]; done) | (rw [if_neg (by simp_all), if_neg (by omega)]; done) | (rw [if_neg (by simp_all; omega), if_neg (by omega)]; done))
      (try rw [hf_]); first | with_reducible rfl | (simp only [packR]; done) | rfl
     ·
      try simp only [BB] at h5
      refine tc_skip (tq_block (tq_then ?_))
      refine tc_rb [0] [(2, I 0)] (tc_ret ?_)
      refine tq_ret [0] [I 0] (bp_ret (Mem.le_refl _) ?_)
      have hf_ : (ownerCheck o) = 0 := by
       unfold ownerCheck; first | (rw [if_pos (by simp_all)]; done) | (rw [if_neg (by simp_all), if_pos (by omega)]; done) | (rw [if_neg (by simp_all), if_neg (by omega)]; first | (rw [if_pos (by simp_all; omega)]; done) | (rw [if_pos (by simp_all)]; done) | (rw [if_neg (by simp_all), if_pos (by omega)]; done) | (rw [if_neg (by simp_all; omega), if_pos (by omega)]; done) | (rw [if_neg (by simp_all), if_neg (by omega)]; done) | (rw [if_neg (by simp_all; omega), if_neg (by omega)]; done))
      (try rw [hf_]); first | with_reducible rfl | (simp only [packR]; done) | rfl
theorem ownerNew_con (G : Mem) (name : List UInt8) (hw_name : (name).length ≤ 140737488351232) (key : Int) (hw_key : 0 ≤ key ∧ key < 18446744073709551616) (vs_h : List Value) (h : HeadD) (h_h : EHead.R G vs_h h)  : Con Tryz.prog 44 #[Sr name, U key, .agg vs_h.toArray] G [] (fun u G' L' => ∃ (a1 : Option Addr) (c2 : Nat), u = .tuple #[.agg #[Sr (((ownerNew name key h).1).name), U (((ownerNew name key h).1).key), I (((ownerNew name key h).1).head.epoch), U (((ownerNew name key h).1).head.root), U (((ownerNew name key h).1).head.prev), I (((ownerNew name key h).1).head.at_), Sl a1 ((((ownerNew name key h).1).wanted).length) c2, I (((ownerNew name key h).1).had)], I ((ownerNew name key h).2)] ∧ ((((ownerNew name key h).1).name).length ≤ 140737488351232) ∧ (0 ≤ (((ownerNew name key h).1).key) ∧ (((ownerNew name key h).1).key) < 18446744073709551616) ∧ (-9223372036854775808 ≤ (((ownerNew name key h).1).head.epoch) ∧ (((ownerNew name key h).1).head.epoch) < 9223372036854775808) ∧ (0 ≤ (((ownerNew name key h).1).head.root) ∧ (((ownerNew name key h).1).head.root) < 18446744073709551616) ∧ (0 ≤ (((ownerNew name key h).1).head.prev) ∧ (((ownerNew name key h).1).head.prev) < 18446744073709551616) ∧ (-9223372036854775808 ≤ (((ownerNew name key h).1).head.at_) ∧ (((ownerNew name key h).1).head.at_) < 9223372036854775808) ∧ (RS ES G' a1 c2 (((ownerNew name key h).1).wanted)) ∧ (-9223372036854775808 ≤ (((ownerNew name key h).1).had) ∧ (((ownerNew name key h).1).had) < 9223372036854775808) ∧ L' = []) := by
 obtain ⟨rfl, w1, w2, w3, w4⟩ := h_h
 refine con_of Tryz.func44 21 [(0, Sr name), (1, U key), (2, .agg #[I h.epoch, U h.root, U h.prev, I h.at_])] rfl (fun w0 G0 => ?_)
 refine tc_seq (tc_region ?_)
 refine runL_box 5 #[I h.epoch, U h.root, U h.prev, I h.at_] 32 (fun b1 => ?_)
 refine runL_box 6 #[Sr ([]), U 0, I 0, U 0, U 0, I 0, Sl none 0 0, I 0] 92 (fun b2 => ?_)
 refine runL_b [0] [(0, Sr name), (1, U key), (5, Pt b1 0), (6, Pt b2 0)] (runL_nil (tq_then (tc_seq (tc_region ?_))))
 refine runL_b [0,0,4,0] [(6, Pt b2 0), (13, .agg #[Sr name, U key, I h.epoch, U h.root, U h.prev, I h.at_, Sl none 0 0, I 0])] ?_
 refine runL_box 8 #[Sr ([]), U 0, I 0, U 0, U 0, I 0, Sl none 0 0, I 0] 92 (fun b3 => ?_)
 refine runL_bs [3] [(6, Pt b2 0), (8, Pt b3 0)] [[Sg b3 0 [Sr name, U key, I h.epoch, U h.root, U h.prev, I h.at_, Sl none 0 0, I 0]], [Sg b2 0 [Sr ([]), U 0, I 0, U 0, U 0, I 0, Sl none 0 0, I 0]], [Sg b1 0 [I h.epoch, U h.root, U h.prev, I h.at_]]] (runL_nil (tq_then (tc_seq (tc_seq (tc_region ?_)))))
 refine runL_b [2] [(6, Pt b2 0), (8, Pt b3 0), (14, .agg #[Sr name, U key, I h.epoch, U h.root, U h.prev, I h.at_, Sl none 0 0, I 0])] ?_
 refine runL_callV 15 (I (ownerCheck (⟨name, key, h, [], 0⟩ : OwnerD))) (ownerCheck_con G [Sr name, U key, I h.epoch, U h.root, U h.prev, I h.at_, Sl none 0 0, I 0] (⟨name, key, h, [], 0⟩ : OwnerD) (⟨none, 0, rfl, hw_name, hw_key, w1, w2, w3, w4, (RS.nil' ES G), (by first | assumption | omega | (simp; done) | (simp; omega))⟩)) ?_
 refine runL_b [0] [(6, Pt b2 0), (8, Pt b3 0), (9, I (ownerCheck (⟨name, key, h, [], 0⟩ : OwnerD)))] (runL_nil (tq_then ?_))
 refine tc_rb [0,0] [(6, Pt b2 0), (8, Pt b3 0), (9, I (ownerCheck (⟨name, key, h, [], 0⟩ : OwnerD))), (17, Bo (!decide (ownerCheck (⟨name, key, h, [], 0⟩ : OwnerD) = 0)))] ?_
 refine tc_cond (!decide (ownerCheck (⟨name, key, h, [], 0⟩ : OwnerD) = 0)) (fun h1 => ?_) (fun h1 => ?_)
 ·
  try simp only [BB] at h1
  refine tc_rb [0,0,5,0] [(6, Pt b2 0), (7, I (ownerCheck (⟨name, key, h, [], 0⟩ : OwnerD)))] (tc_ret (tq_then_ret ?_))
  have hf1 : ownerNew name key h = ((⟨[], 0, (⟨0, 0, 0, 0⟩ : HeadD), [], 0⟩ : OwnerD), ownerCheck (⟨name, key, h, [], 0⟩ : OwnerD)) := by
   unfold ownerNew ownerZ headZ; simp_all
  refine tq_ret [1, 0] [.agg #[Sr ([]), U 0, I 0, U 0, U 0, I 0, Sl none 0 0, I 0], I (ownerCheck (⟨name, key, h, [], 0⟩ : OwnerD))] (bp_rows [] (.cons _ (.cons _ (.cons _ .slnil))) (Mem.le_refl _) ?_)
  rw [hf1]
  try dsimp only
  exact ⟨none, 0, rfl, (Nat.le_of_ble_eq_true rfl), (by first | assumption | omega | (simp; done) | (simp; omega)), (by first | assumption | omega | (simp; done) | (simp; omega)), (by first | assumption | omega | (simp; done) | (simp; omega)), (by first | assumption | omega | (simp; done) | (simp; omega)), (by first | assumption | omega | (simp; done) | (simp; omega)), (RS.nil' ES G), (by first | assumption | omega | (simp; done) | (simp; omega)), rfl⟩
 ·
  try simp only [BB] at h1
  refine tc_skip (tq_then ?_)
  refine tc_rbs [2,5,0] [(6, Pt b2 0), (7, I 0)] [[Sg b3 0 [Sr name, U key, I h.epoch, U h.root, U h.prev, I h.at_, Sl none 0 0, I 0]], [Sg b2 0 [Sr name, U key, I h.epoch, U h.root, U h.prev, I h.at_, Sl none 0 0, I 0]], [Sg b1 0 [I h.epoch, U h.root, U h.prev, I h.at_]]] ?_
  refine tc_ret ?_
  have hf2 : ownerNew name key h = ((⟨name, key, h, [], 0⟩ : OwnerD), 0) := by
   unfold ownerNew ownerZ headZ; simp_all
  refine tq_ret [1, 0] [.agg #[Sr name, U key, I h.epoch, U h.root, U h.prev, I h.at_, Sl none 0 0, I 0], I 0] (bp_rows [] (.cons _ (.cons _ (.cons _ .slnil))) (Mem.le_refl _) ?_)
  rw [hf2]
  try dsimp only
  exact ⟨none, 0, rfl, hw_name, hw_key, w1, w2, w3, w4, (RS.nil' ES G), (by first | assumption | omega | (simp; done) | (simp; omega)), rfl⟩
theorem ownerWant_con (G : Mem) (vs_o : List Value) (o : OwnerD) (h_o : EOwner.R G vs_o o) (v : List UInt8) (hw_v : (v).length ≤ 140737488351232)  : Con Tryz.prog 45 #[.agg vs_o.toArray, Sr v] G [] (fun u G' L' => ∃ (a1 : Option Addr) (c2 : Nat), u = .tuple #[.agg #[Sr (((ownerWant o v).1).name), U (((ownerWant o v).1).key), I (((ownerWant o v).1).head.epoch), U (((ownerWant o v).1).head.root), U (((ownerWant o v).1).head.prev), I (((ownerWant o v).1).head.at_), Sl a1 ((((ownerWant o v).1).wanted).length) c2, I (((ownerWant o v).1).had)], .agg #[Sr (((ownerWant o v).2.1).name), Sr (((ownerWant o v).2.1).value), U (((ownerWant o v).2.1).n), U (((ownerWant o v).2.1).tag)], I ((ownerWant o v).2.2)] ∧ ((((ownerWant o v).1).name).length ≤ 140737488351232) ∧ (0 ≤ (((ownerWant o v).1).key) ∧ (((ownerWant o v).1).key) < 18446744073709551616) ∧ (-9223372036854775808 ≤ (((ownerWant o v).1).head.epoch) ∧ (((ownerWant o v).1).head.epoch) < 9223372036854775808) ∧ (0 ≤ (((ownerWant o v).1).head.root) ∧ (((ownerWant o v).1).head.root) < 18446744073709551616) ∧ (0 ≤ (((ownerWant o v).1).head.prev) ∧ (((ownerWant o v).1).head.prev) < 18446744073709551616) ∧ (-9223372036854775808 ≤ (((ownerWant o v).1).head.at_) ∧ (((ownerWant o v).1).head.at_) < 9223372036854775808) ∧ (RS ES G' a1 c2 (((ownerWant o v).1).wanted)) ∧ (-9223372036854775808 ≤ (((ownerWant o v).1).had) ∧ (((ownerWant o v).1).had) < 9223372036854775808) ∧ ((((ownerWant o v).2.1).name).length ≤ 140737488351232) ∧ ((((ownerWant o v).2.1).value).length ≤ 140737488351232) ∧ (0 ≤ (((ownerWant o v).2.1).n) ∧ (((ownerWant o v).2.1).n) < 18446744073709551616) ∧ (0 ≤ (((ownerWant o v).2.1).tag) ∧ (((ownerWant o v).2.1).tag) < 18446744073709551616) ∧ L' = []) := by
 obtain ⟨a1, c1, rfl, w1, w2, w3, w4, w5, w6, hs1, w7⟩ := h_o
 refine con_of Tryz.func45 52 [(0, .agg #[Sr o.name, U o.key, I o.head.epoch, U o.head.root, U o.head.prev, I o.head.at_, Sl a1 o.wanted.length c1, I o.had]), (1, Sr v)] rfl (fun w0 G0 => ?_)
 refine tc_seq (tc_region ?_)
 refine runL_box 2 #[Sr o.name, U o.key, I o.head.epoch, U o.head.root, U o.head.prev, I o.head.at_, Sl a1 o.wanted.length c1, I o.had] 92 (fun b1 => ?_)
 refine runL_box 4 #[Sr ([]), U 0, I 0, U 0, U 0, I 0, Sl none 0 0, I 0] 92 (fun b2 => ?_)
 refine runL_box 5 #[Sr ([]), Sr ([]), U 0, U 0] 54 (fun b3 => ?_)
 refine runL_b [0] [(1, Sr v), (2, Pt b1 0), (4, Pt b2 0), (5, Pt b3 0)] (runL_nil (tq_then (tc_seq (tc_region ?_))))
 refine runL_b [6] [(1, Sr v), (2, Pt b1 0), (4, Pt b2 0), (5, Pt b3 0), (10, .agg #[Sr o.name, U o.key, I o.head.epoch, U o.head.root, U o.head.prev, I o.head.at_, Sl a1 o.wanted.length c1, I o.had])] ?_
 refine runL_callV 11 (I (ownerCheck o)) (ownerCheck_con G [Sr o.name, U o.key, I o.head.epoch, U o.head.root, U o.head.prev, I o.head.at_, Sl a1 o.wanted.length c1, I o.had] o (⟨a1, c1, rfl, w1, w2, w3, w4, w5, w6, hs1, w7⟩)) ?_
 refine runL_b [0] [(1, Sr v), (2, Pt b1 0), (4, Pt b2 0), (5, Pt b3 0), (7, I (ownerCheck o))] (runL_nil (tq_then (tc_seq (tc_block ?_))))
 refine tc_rb [0,0,0] [(1, Sr v), (2, Pt b1 0), (4, Pt b2 0), (5, Pt b3 0), (7, I (ownerCheck o)), (12, Bo (!decide (ownerCheck o = 0)))] ?_
 refine tc_cond (!decide (ownerCheck o = 0)) (fun h1 => ?_) (fun h1 => ?_)
 ·
  try simp only [BB] at h1
  refine tc_rb [0,0,0,5,3,0] [(4, Pt b2 0), (5, Pt b3 0), (6, I (ownerCheck o))] (tc_ret (tq_block_ret (tq_then_ret ?_)))
  have hf1 : ownerWant o v = ((⟨[], 0, (⟨0, 0, 0, 0⟩ : HeadD), [], 0⟩ : OwnerD), (⟨[], [], 0, 0⟩ : AskD), ownerCheck o) := by
   unfold ownerWant ownerWantE ownerZ askZ headZ; simp_all
  refine tq_ret [1, 0, 0] [.agg #[Sr ([]), U 0, I 0, U 0, U 0, I 0, Sl none 0 0, I 0], .agg #[Sr ([]), Sr ([]), U 0, U 0], I (ownerCheck o)] (bp_rows [] (.cons _ (.cons _ (.cons _ .slnil))) (Mem.le_refl _) ?_)
  rw [hf1]
  try dsimp only
  exact ⟨none, 0, rfl, (Nat.le_of_ble_eq_true rfl), (by first | (first | assumption | omega | (have q_ := ownerCheck_iff.1 (by assumption); omega)) | (dsimp only; first | assumption | omega | (have q_ := ownerCheck_iff.1 (by assumption); omega))), (by first | (first | assumption | omega | (have q_ := ownerCheck_iff.1 (by assumption); omega)) | (dsimp only; first | assumption | omega | (have q_ := ownerCheck_iff.1 (by assumption); omega))), (by first | (first | assumption | omega | (have q_ := ownerCheck_iff.1 (by assumption); omega)) | (dsimp only; first | assumption | omega | (have q_ := ownerCheck_iff.1 (by assumption); omega))), (by first | (first | assumption | omega | (have q_ := ownerCheck_iff.1 (by assumption); omega)) | (dsimp only; first | assumption | omega | (have q_ := ownerCheck_iff.1 (by assumption); omega))), (by first | (first | assumption | omega | (have q_ := ownerCheck_iff.1 (by assumption); omega)) | (dsimp only; first | assumption | omega | (have q_ := ownerCheck_iff.1 (by assumption); omega))), (RS.nil' ES G), (by first | (first | assumption | omega | (have q_ := ownerCheck_iff.1 (by assumption); omega)) | (dsimp only; first | assumption | omega | (have q_ := ownerCheck_iff.1 (by assumption); omega))), (Nat.le_of_ble_eq_true rfl), (Nat.le_of_ble_eq_true rfl), (by first | (first | assumption | omega | (have q_ := ownerCheck_iff.1 (by assumption); omega)) | (dsimp only; first | assumption | omega | (have q_ := ownerCheck_iff.1 (by assumption); omega))), (by first | (first | assumption | omega | (have q_ := ownerCheck_iff.1 (by assumption); omega)) | (dsimp only; first | assumption | omega | (have q_ := ownerCheck_iff.1 (by assumption); omega))), rfl⟩
 ·
  try simp only [BB] at h1
  refine tc_seq (tc_region ?_)
  refine runL_b [0] [(1, Sr v), (2, Pt b1 0), (4, Pt b2 0), (5, Pt b3 0), (19, Sr v)] ?_
  refine runL_callV 20 (Bo (ownerLong v)) (ownerLong_con G v) ?_
  refine runL_b [0] [(1, Sr v), (2, Pt b1 0), (4, Pt b2 0), (5, Pt b3 0), (18, Bo (ownerLong v))] (runL_nil (tq_then ?_))
  refine tc_cond (ownerLong v) (fun h2 => ?_) (fun h2 => ?_)
  ·
   try simp only [BB] at h2
   refine tc_rb [0,0,5,3,0] [(4, Pt b2 0), (5, Pt b3 0), (6, I 2)] (tc_ret (tq_block_ret (tq_then_ret ?_)))
   have hf2 : ownerWant o v = ((⟨[], 0, (⟨0, 0, 0, 0⟩ : HeadD), [], 0⟩ : OwnerD), (⟨[], [], 0, 0⟩ : AskD), 2) := by
    unfold ownerWant ownerWantE ownerZ askZ headZ; simp_all
   refine tq_ret [1, 0, 0] [.agg #[Sr ([]), U 0, I 0, U 0, U 0, I 0, Sl none 0 0, I 0], .agg #[Sr ([]), Sr ([]), U 0, U 0], I 2] (bp_rows [] (.cons _ (.cons _ (.cons _ .slnil))) (Mem.le_refl _) ?_)
   rw [hf2]
   try dsimp only
   exact ⟨none, 0, rfl, (Nat.le_of_ble_eq_true rfl), (by first | (first | assumption | omega | (have q_ := ownerCheck_iff.1 (by assumption); omega)) | (dsimp only; first | assumption | omega | (have q_ := ownerCheck_iff.1 (by assumption); omega))), (by first | (first | assumption | omega | (have q_ := ownerCheck_iff.1 (by assumption); omega)) | (dsimp only; first | assumption | omega | (have q_ := ownerCheck_iff.1 (by assumption); omega))), (by first | (first | assumption | omega | (have q_ := ownerCheck_iff.1 (by assumption); omega)) | (dsimp only; first | assumption | omega | (have q_ := ownerCheck_iff.1 (by assumption); omega))), (by first | (first | assumption | omega | (have q_ := ownerCheck_iff.1 (by assumption); omega)) | (dsimp only; first | assumption | omega | (have q_ := ownerCheck_iff.1 (by assumption); omega))), (by first | (first | assumption | omega | (have q_ := ownerCheck_iff.1 (by assumption); omega)) | (dsimp only; first | assumption | omega | (have q_ := ownerCheck_iff.1 (by assumption); omega))), (RS.nil' ES G), (by first | (first | assumption | omega | (have q_ := ownerCheck_iff.1 (by assumption); omega)) | (dsimp only; first | assumption | omega | (have q_ := ownerCheck_iff.1 (by assumption); omega))), (Nat.le_of_ble_eq_true rfl), (Nat.le_of_ble_eq_true rfl), (by first | (first | assumption | omega | (have q_ := ownerCheck_iff.1 (by assumption); omega)) | (dsimp only; first | assumption | omega | (have q_ := ownerCheck_iff.1 (by assumption); omega))), (by first | (first | assumption | omega | (have q_ := ownerCheck_iff.1 (by assumption); omega)) | (dsimp only; first | assumption | omega | (have q_ := ownerCheck_iff.1 (by assumption); omega))), rfl⟩
  ·
   try simp only [BB] at h2
   refine tc_rb [0,6,0,0,0] [(1, Sr v), (2, Pt b1 0), (4, Pt b2 0), (5, Pt b3 0), (23, Bo (decide ((o.wanted.length : Int) = 30)))] ?_
   refine tc_cond (decide ((o.wanted.length : Int) = 30)) (fun h3 => ?_) (fun h3 => ?_)
   ·
    try simp only [BB] at h3
    refine tc_rb [0,0,5,3,0] [(4, Pt b2 0), (5, Pt b3 0), (6, I 7)] (tc_ret (tq_block_ret (tq_then_ret ?_)))
    have hf3 : ownerWant o v = ((⟨[], 0, (⟨0, 0, 0, 0⟩ : HeadD), [], 0⟩ : OwnerD), (⟨[], [], 0, 0⟩ : AskD), 7) := by
     unfold ownerWant ownerWantE ownerZ askZ headZ; simp_all
    refine tq_ret [1, 0, 0] [.agg #[Sr ([]), U 0, I 0, U 0, U 0, I 0, Sl none 0 0, I 0], .agg #[Sr ([]), Sr ([]), U 0, U 0], I 7] (bp_rows [] (.cons _ (.cons _ (.cons _ .slnil))) (Mem.le_refl _) ?_)
    rw [hf3]
    try dsimp only
    exact ⟨none, 0, rfl, (Nat.le_of_ble_eq_true rfl), (by first | (first | assumption | omega | (have q_ := ownerCheck_iff.1 (by assumption); omega)) | (dsimp only; first | assumption | omega | (have q_ := ownerCheck_iff.1 (by assumption); omega))), (by first | (first | assumption | omega | (have q_ := ownerCheck_iff.1 (by assumption); omega)) | (dsimp only; first | assumption | omega | (have q_ := ownerCheck_iff.1 (by assumption); omega))), (by first | (first | assumption | omega | (have q_ := ownerCheck_iff.1 (by assumption); omega)) | (dsimp only; first | assumption | omega | (have q_ := ownerCheck_iff.1 (by assumption); omega))), (by first | (first | assumption | omega | (have q_ := ownerCheck_iff.1 (by assumption); omega)) | (dsimp only; first | assumption | omega | (have q_ := ownerCheck_iff.1 (by assumption); omega))), (by first | (first | assumption | omega | (have q_ := ownerCheck_iff.1 (by assumption); omega)) | (dsimp only; first | assumption | omega | (have q_ := ownerCheck_iff.1 (by assumption); omega))), (RS.nil' ES G), (by first | (first | assumption | omega | (have q_ := ownerCheck_iff.1 (by assumption); omega)) | (dsimp only; first | assumption | omega | (have q_ := ownerCheck_iff.1 (by assumption); omega))), (Nat.le_of_ble_eq_true rfl), (Nat.le_of_ble_eq_true rfl), (by first | (first | assumption | omega | (have q_ := ownerCheck_iff.1 (by assumption); omega)) | (dsimp only; first | assumption | omega | (have q_ := ownerCheck_iff.1 (by assumption); omega))), (by first | (first | assumption | omega | (have q_ := ownerCheck_iff.1 (by assumption); omega)) | (dsimp only; first | assumption | omega | (have q_ := ownerCheck_iff.1 (by assumption); omega))), rfl⟩
   ·
    try simp only [BB] at h3
    refine tc_skip (tq_block (tq_then (tc_seq (tc_region ?_))))
    refine runL_b [0,6,0,6,0,0,6,0,0] [(1, Sr v), (2, Pt b1 0), (4, Pt b2 0), (5, Pt b3 0), (32, U o.key), (34, Sr o.name), (35, Sr v), (39, U (IntKind.u64.wrap (o.wanted.length : Int)))] ?_
    have e1 : IntKind.u64.wrap (o.wanted.length : Int) = (o.wanted.length : Int) := IntWalk.u64_in _ (by first | omega | (have q_ := ownerCheck_iff.1 (by assumption); omega))
    refine runL_eq (fr' := [(1, Sr v), (2, Pt b1 0), (4, Pt b2 0), (5, Pt b3 0), (32, U o.key), (34, Sr o.name), (35, Sr v), (39, U (o.wanted.length : Int))]) (L' := [[Sg b3 0 [Sr ([]), Sr ([]), U 0, U 0]], [Sg b2 0 [Sr ([]), U 0, I 0, U 0, U 0, I 0, Sl none 0 0, I 0]], [Sg b1 0 [Sr o.name, U o.key, I o.head.epoch, U o.head.root, U o.head.prev, I o.head.at_, Sl a1 o.wanted.length c1, I o.had]]]) (by simp only [e1]) (by rfl) ?_
    clear e1
    refine runL_callR 40 (tagAsk_con G o.key o.name (by first | (first | assumption | omega | (have q_ := ownerCheck_iff.1 (by assumption); omega)) | (dsimp only; first | assumption | omega | (have q_ := ownerCheck_iff.1 (by assumption); omega))) v (by first | (first | assumption | omega | (have q_ := ownerCheck_iff.1 (by assumption); omega)) | (dsimp only; first | assumption | omega | (have q_ := ownerCheck_iff.1 (by assumption); omega))) (o.wanted.length : Int) (by first | (first | assumption | omega | (have q_ := ownerCheck_iff.1 (by assumption); omega)) | (dsimp only; first | assumption | omega | (have q_ := ownerCheck_iff.1 (by assumption); omega)))) (fun v G1 L1 hl1 hp => ?_)
    obtain ⟨rfl, w8, w9, w10, w11, rfl⟩ := hp
    refine runL_b [0,0,0] [(1, Sr v), (2, Pt b1 0), (4, Pt b2 0), (5, Pt b3 0), (41, .agg #[Sr (((tagAsk o.key o.name v (o.wanted.length : Int)).1).name), Sr (((tagAsk o.key o.name v (o.wanted.length : Int)).1).value), U (((tagAsk o.key o.name v (o.wanted.length : Int)).1).n), U (((tagAsk o.key o.name v (o.wanted.length : Int)).1).tag)]), (42, I ((tagAsk o.key o.name v (o.wanted.length : Int)).2))] ?_
    refine runL_box 8 #[Sr ([]), Sr ([]), U 0, U 0] 54 (fun b4 => ?_)
    refine runL_bs [3,0] [(1, Sr v), (2, Pt b1 0), (4, Pt b2 0), (5, Pt b3 0), (8, Pt b4 0)] [[Sg b4 0 [Sr (((tagAsk o.key o.name v (o.wanted.length : Int)).1).name), Sr (((tagAsk o.key o.name v (o.wanted.length : Int)).1).value), U (((tagAsk o.key o.name v (o.wanted.length : Int)).1).n), U (((tagAsk o.key o.name v (o.wanted.length : Int)).1).tag)]], [Sg b3 0 [Sr ([]), Sr ([]), U 0, U 0]], [Sg b2 0 [Sr ([]), U 0, I 0, U 0, U 0, I 0, Sl none 0 0, I 0]], [Sg b1 0 [Sr o.name, U o.key, I o.head.epoch, U o.head.root, U o.head.prev, I o.head.at_, Sl a1 o.wanted.length c1, I o.had]]] (runL_nil (tq_then (tc_seq (tc_region ?_))))
    refine runL_b [0,8] [(1, Sr v), (2, Pt b1 0), (4, Pt b2 0), (5, Pt b3 0), (8, Pt b4 0), (44, Sl a1 o.wanted.length c1)] ?_
    refine runL_callR 45 (sclone_ES G1 a1 c1 o.wanted (hs1.mono hl1)) (fun v G2 L1 hl2 hp => ?_)
    obtain ⟨a2, c2, r1, rfl, hr1, rfl⟩ := hp
    refine runL_b [0] [(2, Pt b1 0), (4, Pt b2 0), (5, Pt b3 0), (8, Pt b4 0), (45, Sl a2 o.wanted.length c2), (46, Sr v)] ?_
    refine runL_bsl 47 1 #[Sr v] 9 (fun b5 => ?_)
    refine runL_app1' (b := b5) (cs := [Sr v]) 48 9 1 0 (E := ES) v hr1 ⟨rfl, (by first | (first | assumption | omega | (have q_ := ownerCheck_iff.1 (by assumption); omega)) | (dsimp only; first | assumption | omega | (have q_ := ownerCheck_iff.1 (by assumption); omega)))⟩ (by have q_ := ownerCheck_iff.1 (by assumption); (try simp only [ES, List.length_append, List.length_cons, List.length_nil]); omega) (by have q_ := ownerCheck_iff.1 (by assumption); (try simp only [ES, List.length_append, List.length_cons, List.length_nil]); omega) (fun a3 c3 r2 hr2 => ?_)
    refine runL_bs [0,13] [(2, Pt b1 0), (4, Pt b2 0), (5, Pt b3 0), (8, Pt b4 0)] [[Sg b5 0 [Sr v]], r2, [Sg b4 0 [Sr (((tagAsk o.key o.name v (o.wanted.length : Int)).1).name), Sr (((tagAsk o.key o.name v (o.wanted.length : Int)).1).value), U (((tagAsk o.key o.name v (o.wanted.length : Int)).1).n), U (((tagAsk o.key o.name v (o.wanted.length : Int)).1).tag)]], [Sg b3 0 [Sr ([]), Sr ([]), U 0, U 0]], [Sg b2 0 [Sr ([]), U 0, I 0, U 0, U 0, I 0, Sl none 0 0, I 0]], [Sg b1 0 [Sr o.name, U o.key, I o.head.epoch, U o.head.root, U o.head.prev, I o.head.at_, Sl a3 ((o.wanted ++ [v]).length) c3, I o.had]]] (runL_nil (tq_then (tc_seq ?_)))
    refine tc_draw [2, 3] ?_
    refine dr_V [(0, .agg #[Sr o.name, U o.key, I o.head.epoch, U o.head.root, U o.head.prev, I o.head.at_, Sl a3 ((o.wanted ++ [v]).length) c3, I o.had]), (1, .agg #[Sr (((tagAsk o.key o.name v (o.wanted.length : Int)).1).name), Sr (((tagAsk o.key o.name v (o.wanted.length : Int)).1).value), U (((tagAsk o.key o.name v (o.wanted.length : Int)).1).n), U (((tagAsk o.key o.name v (o.wanted.length : Int)).1).tag)])] ?_
    refine dr_mid [] [(0,12), (1,6)] [] [2] (List.forall_mem_nil _) (List.forall_mem_cons.2 ⟨?_, List.forall_mem_nil _⟩)
    refine act_of 2 [(4, Pt b2 0), (50, .agg #[Sr o.name, U o.key, I o.head.epoch, U o.head.root, U o.head.prev, I o.head.at_, Sl a3 ((o.wanted ++ [v]).length) c3, I o.had])] (fun X => ?_)
    refine runL_st 4 [[Sg b5 0 [Sr v]], r2, [Sg b4 0 [Sr (((tagAsk o.key o.name v (o.wanted.length : Int)).1).name), Sr (((tagAsk o.key o.name v (o.wanted.length : Int)).1).value), U (((tagAsk o.key o.name v (o.wanted.length : Int)).1).n), U (((tagAsk o.key o.name v (o.wanted.length : Int)).1).tag)]], [Sg b3 0 [Sr ([]), Sr ([]), U 0, U 0]], [Sg b2 0 [Sr o.name, U o.key, I o.head.epoch, U o.head.root, U o.head.prev, I o.head.at_, Sl a3 ((o.wanted ++ [v]).length) c3, I o.had]], [Sg b1 0 [Sr o.name, U o.key, I o.head.epoch, U o.head.root, U o.head.prev, I o.head.at_, Sl a3 ((o.wanted ++ [v]).length) c3, I o.had]]] ?_
    refine act_end0 (V' := [(0, .agg #[Sr o.name, U o.key, I o.head.epoch, U o.head.root, U o.head.prev, I o.head.at_, Sl a3 ((o.wanted ++ [v]).length) c3, I o.had]), (1, .agg #[Sr (((tagAsk o.key o.name v (o.wanted.length : Int)).1).name), Sr (((tagAsk o.key o.name v (o.wanted.length : Int)).1).value), U (((tagAsk o.key o.name v (o.wanted.length : Int)).1).n), U (((tagAsk o.key o.name v (o.wanted.length : Int)).1).tag)])]) ?_
    refine dr_mid [0] [(1,6)] [] [3] (List.forall_mem_nil _) (List.forall_mem_cons.2 ⟨?_, List.forall_mem_nil _⟩)
    refine act_of 3 [(5, Pt b3 0), (51, .agg #[Sr (((tagAsk o.key o.name v (o.wanted.length : Int)).1).name), Sr (((tagAsk o.key o.name v (o.wanted.length : Int)).1).value), U (((tagAsk o.key o.name v (o.wanted.length : Int)).1).n), U (((tagAsk o.key o.name v (o.wanted.length : Int)).1).tag)])] (fun X => ?_)
    refine runL_st 3 [[Sg b5 0 [Sr v]], r2, [Sg b4 0 [Sr (((tagAsk o.key o.name v (o.wanted.length : Int)).1).name), Sr (((tagAsk o.key o.name v (o.wanted.length : Int)).1).value), U (((tagAsk o.key o.name v (o.wanted.length : Int)).1).n), U (((tagAsk o.key o.name v (o.wanted.length : Int)).1).tag)]], [Sg b3 0 [Sr (((tagAsk o.key o.name v (o.wanted.length : Int)).1).name), Sr (((tagAsk o.key o.name v (o.wanted.length : Int)).1).value), U (((tagAsk o.key o.name v (o.wanted.length : Int)).1).n), U (((tagAsk o.key o.name v (o.wanted.length : Int)).1).tag)]], [Sg b2 0 [Sr o.name, U o.key, I o.head.epoch, U o.head.root, U o.head.prev, I o.head.at_, Sl a3 ((o.wanted ++ [v]).length) c3, I o.had]], [Sg b1 0 [Sr o.name, U o.key, I o.head.epoch, U o.head.root, U o.head.prev, I o.head.at_, Sl a3 ((o.wanted ++ [v]).length) c3, I o.had]]] ?_
    refine act_end0 (V' := [(0, .agg #[Sr o.name, U o.key, I o.head.epoch, U o.head.root, U o.head.prev, I o.head.at_, Sl a3 ((o.wanted ++ [v]).length) c3, I o.had]), (1, .agg #[Sr (((tagAsk o.key o.name v (o.wanted.length : Int)).1).name), Sr (((tagAsk o.key o.name v (o.wanted.length : Int)).1).value), U (((tagAsk o.key o.name v (o.wanted.length : Int)).1).n), U (((tagAsk o.key o.name v (o.wanted.length : Int)).1).tag)]), (4, I 0)]) ?_
    refine dr_end [0, 1] [(4,0)] [] [(4, Pt b2 0), (5, Pt b3 0), (6, I 0)] (List.forall_mem_nil _) ?_
    refine tq_then (tc_ret ?_)
    refine tq_frzR (E := ES) 1 hr2 (by have q_ := ownerCheck_iff.1 (by assumption); (try simp only [ES, List.length_append, List.length_cons, List.length_nil]); omega) (fun G3 hl3 hs2 => ?_)
    have hf4 : ownerWant o v = ((⟨o.name, o.key, o.head, o.wanted ++ [v], o.had⟩ : OwnerD), ((tagAsk o.key o.name v (o.wanted.length : Int)).1), 0) := by
     unfold ownerWant ownerWantE ownerZ askZ headZ; simp_all
    refine tq_ret [4, 3, 0] [.agg #[Sr o.name, U o.key, I o.head.epoch, U o.head.root, U o.head.prev, I o.head.at_, Sl a3 ((o.wanted ++ [v]).length) c3, I o.had], .agg #[Sr (((tagAsk o.key o.name v (o.wanted.length : Int)).1).name), Sr (((tagAsk o.key o.name v (o.wanted.length : Int)).1).value), U (((tagAsk o.key o.name v (o.wanted.length : Int)).1).n), U (((tagAsk o.key o.name v (o.wanted.length : Int)).1).tag)], I 0] (bp_rows [] (.cons _ (.cons _ (.cons _ (.cons _ (.cons _ (.cons _ .slnil)))))) (Mem.le_trans (Mem.le_trans hl1 hl2) hl3) ?_)
    rw [hf4]
    try dsimp only
    exact ⟨a3, c3, rfl, (by first | (first | assumption | omega | (have q_ := ownerCheck_iff.1 (by assumption); omega)) | (dsimp only; first | assumption | omega | (have q_ := ownerCheck_iff.1 (by assumption); omega))), (by first | (first | assumption | omega | (have q_ := ownerCheck_iff.1 (by assumption); omega)) | (dsimp only; first | assumption | omega | (have q_ := ownerCheck_iff.1 (by assumption); omega))), (by first | (first | assumption | omega | (have q_ := ownerCheck_iff.1 (by assumption); omega)) | (dsimp only; first | assumption | omega | (have q_ := ownerCheck_iff.1 (by assumption); omega))), (by first | (first | assumption | omega | (have q_ := ownerCheck_iff.1 (by assumption); omega)) | (dsimp only; first | assumption | omega | (have q_ := ownerCheck_iff.1 (by assumption); omega))), (by first | (first | assumption | omega | (have q_ := ownerCheck_iff.1 (by assumption); omega)) | (dsimp only; first | assumption | omega | (have q_ := ownerCheck_iff.1 (by assumption); omega))), (by first | (first | assumption | omega | (have q_ := ownerCheck_iff.1 (by assumption); omega)) | (dsimp only; first | assumption | omega | (have q_ := ownerCheck_iff.1 (by assumption); omega))), hs2, (by first | (first | assumption | omega | (have q_ := ownerCheck_iff.1 (by assumption); omega)) | (dsimp only; first | assumption | omega | (have q_ := ownerCheck_iff.1 (by assumption); omega))), w8, w9, w10, w11, rfl⟩
theorem owners_con (G : Mem)   : Con Tryz.prog 42 #[] G [] (fun u G' L' => u = Bo true) := by
 refine con_of Tryz.func42 15 [] rfl (fun w0 G0 => ?_)
 refine tc_rb [0] [] (tc_seq (tc_region ?_))
 refine runL_b [0] [(4, .agg #[I 0, U 0, U 0, I 0])] ?_
 refine runL_callR 5 (ownerNew_con G ([97]) (Nat.le_of_ble_eq_true rfl) 1 (by first | assumption | omega | (simp; done) | (simp; omega)) [I 0, U 0, U 0, I 0] (⟨0, 0, 0, 0⟩ : HeadD) (⟨rfl, (by first | assumption | omega | (simp; done) | (simp; omega)), (by first | assumption | omega | (simp; done) | (simp; omega)), (by first | assumption | omega | (simp; done) | (simp; omega)), (by first | assumption | omega | (simp; done) | (simp; omega))⟩)) (fun v G1 L1 hl1 hp => ?_)
 obtain ⟨a1, c1, rfl, w1, w2, w3, w4, w5, w6, hs1, w7, rfl⟩ := hp
 refine runL_b [0,0,0] [(6, .agg #[Sr (((ownerNew ([97]) 1 (⟨0, 0, 0, 0⟩ : HeadD)).1).name), U (((ownerNew ([97]) 1 (⟨0, 0, 0, 0⟩ : HeadD)).1).key), I (((ownerNew ([97]) 1 (⟨0, 0, 0, 0⟩ : HeadD)).1).head.epoch), U (((ownerNew ([97]) 1 (⟨0, 0, 0, 0⟩ : HeadD)).1).head.root), U (((ownerNew ([97]) 1 (⟨0, 0, 0, 0⟩ : HeadD)).1).head.prev), I (((ownerNew ([97]) 1 (⟨0, 0, 0, 0⟩ : HeadD)).1).head.at_), Sl a1 ((((ownerNew ([97]) 1 (⟨0, 0, 0, 0⟩ : HeadD)).1).wanted).length) c1, I (((ownerNew ([97]) 1 (⟨0, 0, 0, 0⟩ : HeadD)).1).had)]), (7, I ((ownerNew ([97]) 1 (⟨0, 0, 0, 0⟩ : HeadD)).2))] ?_
 refine runL_box 1 #[Sr ([]), U 0, I 0, U 0, U 0, I 0, Sl none 0 0, I 0] 92 (fun b1 => ?_)
 refine runL_bs [3,0] [(1, Pt b1 0), (2, I ((ownerNew ([97]) 1 (⟨0, 0, 0, 0⟩ : HeadD)).2))] [[Sg b1 0 [Sr (((ownerNew ([97]) 1 (⟨0, 0, 0, 0⟩ : HeadD)).1).name), U (((ownerNew ([97]) 1 (⟨0, 0, 0, 0⟩ : HeadD)).1).key), I (((ownerNew ([97]) 1 (⟨0, 0, 0, 0⟩ : HeadD)).1).head.epoch), U (((ownerNew ([97]) 1 (⟨0, 0, 0, 0⟩ : HeadD)).1).head.root), U (((ownerNew ([97]) 1 (⟨0, 0, 0, 0⟩ : HeadD)).1).head.prev), I (((ownerNew ([97]) 1 (⟨0, 0, 0, 0⟩ : HeadD)).1).head.at_), Sl a1 ((((ownerNew ([97]) 1 (⟨0, 0, 0, 0⟩ : HeadD)).1).wanted).length) c1, I (((ownerNew ([97]) 1 (⟨0, 0, 0, 0⟩ : HeadD)).1).had)]]] (runL_nil (tq_then (tc_seq (tc_region ?_))))
 refine runL_b [0,0,0] [(1, Pt b1 0), (10, Bo (decide ((ownerNew ([97]) 1 (⟨0, 0, 0, 0⟩ : HeadD)).2 = 0)))] ?_
 refine runL_b2 (decide ((ownerNew ([97]) 1 (⟨0, 0, 0, 0⟩ : HeadD)).2 = 0)) (fun bb => [(1, Pt b1 0), (10, Bo bb)]) [0,2,0,0] [1,1,1,0] (fun bb => [(14, Bo (bb && ((B (((ownerNew ([97]) 1 (⟨0, 0, 0, 0⟩ : HeadD)).1).name)).toList == (B ([97])).toList)))]) ?_
 refine runL_eq (fr' := [(14, Bo ((decide ((ownerNew ([97]) 1 (⟨0, 0, 0, 0⟩ : HeadD)).2 = 0)) && (((ownerNew ([97]) 1 (⟨0, 0, 0, 0⟩ : HeadD)).1).name == [97])))]) (L' := [[Sg b1 0 [Sr (((ownerNew ([97]) 1 (⟨0, 0, 0, 0⟩ : HeadD)).1).name), U (((ownerNew ([97]) 1 (⟨0, 0, 0, 0⟩ : HeadD)).1).key), I (((ownerNew ([97]) 1 (⟨0, 0, 0, 0⟩ : HeadD)).1).head.epoch), U (((ownerNew ([97]) 1 (⟨0, 0, 0, 0⟩ : HeadD)).1).head.root), U (((ownerNew ([97]) 1 (⟨0, 0, 0, 0⟩ : HeadD)).1).head.prev), I (((ownerNew ([97]) 1 (⟨0, 0, 0, 0⟩ : HeadD)).1).head.at_), Sl a1 ((((ownerNew ([97]) 1 (⟨0, 0, 0, 0⟩ : HeadD)).1).wanted).length) c1, I (((ownerNew ([97]) 1 (⟨0, 0, 0, 0⟩ : HeadD)).1).had)]]]) (by simp only [B_toList]) (by rfl) ?_
 refine runL_b [0] [(0, Bo ((decide ((ownerNew ([97]) 1 (⟨0, 0, 0, 0⟩ : HeadD)).2 = 0)) && (((ownerNew ([97]) 1 (⟨0, 0, 0, 0⟩ : HeadD)).1).name == [97])))] (runL_nil (tq_then (tc_ret ?_)))
 refine tq_ret [0] [Bo ((decide ((ownerNew ([97]) 1 (⟨0, 0, 0, 0⟩ : HeadD)).2 = 0)) && (((ownerNew ([97]) 1 (⟨0, 0, 0, 0⟩ : HeadD)).1).name == [97]))] (bp_ret hl1 ?_)
 have hf_ : ((decide ((ownerNew ([97]) 1 (⟨0, 0, 0, 0⟩ : HeadD)).2 = 0)) && (((ownerNew ([97]) 1 (⟨0, 0, 0, 0⟩ : HeadD)).1).name == [97])) = true := by
  first | decide +kernel | (revert h1; decide +kernel)
 exact congrArg Bo hf_
end Go.Proofs.YtmpakffajpnffaaGreatDoor
