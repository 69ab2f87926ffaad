import Derived.Test.YtmpakffajpnffaaGreatDoorYTick
namespace Go.Proofs.YtmpakffajpnffaaGreatDoor
open Go.Tx
set_option linter.unusedVariables false
set_option linter.unusedSimpArgs false

open Go.Tx Go.Proofs
structure Right (c x : ClerkD) : Prop where
  ok : ClerkOk x
  heads : ∃ m, x.heads = c.heads ++ m
  books : ∃ m, x.books = c.books ++ m
theorem right_refl {c : ClerkD} (h : clerkCheck c = 0) : Right c c := ⟨clerkCheck_iff.1 h, ⟨[], by simp⟩, ⟨[], by simp⟩⟩
theorem right_ask {c x : ClerkD} {a : AskD} (h : Right c x) (hk : (clerkAsk x a).2.2 = 0) : Right c (clerkAsk x a).1 := by
  refine ⟨clerkAsk_right hk, ?_, ?_⟩ <;> rw [(clerkAsk_ok hk).2.2.2.2]
  · exact h.heads
  · exact h.books
theorem right_tick {c x : ClerkD} (h : Right c x) : Right c (clerkTick x).1 := by
  obtain ⟨_, t⟩ := clerkTick_ok h.ok
  obtain ⟨m, hm⟩ := h.heads; obtain ⟨n, hn⟩ := h.books; obtain ⟨m', hm'⟩ := t.heads; obtain ⟨n', hn'⟩ := t.books
  exact ⟨t.ok, ⟨m ++ m', by rw [hm', hm, List.append_assoc]⟩, ⟨n ++ n', by rw [hn', hn, List.append_assoc]⟩⟩
theorem right_tick0 {c x : ClerkD} (h : Right c x) : (clerkTick x).2.2 = 0 := (clerkTick_ok h.ok).1
theorem right_end {c x : ClerkD} (h : Right c x) : clerkCheck x = 0 ∧ c.heads.length ≤ x.heads.length ∧ x.heads.take c.heads.length = c.heads ∧ c.books.length ≤ x.books.length ∧ x.books.length = x.heads.length := by
  obtain ⟨m, hm⟩ := h.heads; obtain ⟨n, hn⟩ := h.books
  refine ⟨clerkCheck_iff.2 h.ok, by rw [hm]; simp, by rw [hm]; simp, by rw [hn]; simp, h.ok.len⟩
theorem right_book {c x : ClerkD} {k : Nat} {b : List EntD} (h : Right c x) (hb : c.books[k]? = some b) : clerkBook x (k : Int) = (b, 0) := by
  obtain ⟨n, hn⟩ := h.books
  have hl := (List.getElem?_eq_some_iff.1 hb).1
  have hx : x.books[k]? = some b := by rw [hn, List.getElem?_append_left hl]; exact hb
  unfold clerkBook
  rw [if_neg (by rw [clerkCheck_iff.2 h.ok]; simp), if_neg (by rw [hn, List.length_append]; omega)]
  simp only [Int.toNat_natCast, hx, Option.getD_some]
theorem right_bookL {c x : ClerkD} {k : Nat} (h : Right c x) (hk : k < c.books.length) : (clerkBook x (k : Int)).2 = 0 ∧ ∀ b, c.books[k]? = some b → (clerkBook x (k : Int)).1 = b := by
  have := right_book h (List.getElem?_eq_getElem hk)
  exact ⟨by rw [this], fun b hb => by rw [right_book h hb]⟩

theorem clerkRight_con (G : Mem) (vs_c : List Value) (c : ClerkD) (h_c : EClerk.R G vs_c c) (a_l : Option Addr) (c_l : Nat) (l : List AskD) (h_l : RS EAsk G a_l c_l l) (a_ticks : Option Addr) (c_ticks : Nat) (ticks : List Int) (h_ticks : RS EI G a_ticks c_ticks ticks) (hf_l : l.length * 48 ≤ 140737488351232) (hf_ticks : ticks.length * 8 ≤ 140737488351232) : Con Tryz.prog 6 #[.agg vs_c.toArray, Sl a_l l.length c_l, Sl a_ticks ticks.length c_ticks] G [] (fun u G' L' => u = Bo true) := by
  obtain ⟨a1, c1, a2, c2, a3, c3, rfl, w1, hs1, w2, w3, w4, hs2, hs3⟩ := h_c
  refine con_of Tryz.func6 114 [(0, .agg #[I c.queue.most, Sl a1 c.queue.wait.length c1, I c.batch, I c.every, I c.now, Sl a2 c.heads.length c2, Sl a3 c.books.length c3]), (1, Sl a_l l.length c_l), (2, Sl a_ticks ticks.length c_ticks)] rfl (fun w0 G0 => ?_)
  refine tc_seq ?_
  refine tc_region ?_
  refine runL_box 3 #[I c.queue.most, Sl a1 c.queue.wait.length c1, I c.batch, I c.every, I c.now, Sl a2 c.heads.length c2, Sl a3 c.books.length c3] 28 (fun b1 => ?_)
  refine runL_b [0] [(1, Sl a_l l.length c_l), (2, Sl a_ticks ticks.length c_ticks), (3, Pt b1 0)] ?_
  refine runL_nil ?_
  refine tq_then ?_
  refine tc_seq ?_
  refine tc_seq ?_
  refine tc_region ?_
  refine runL_callV 20 (Bo true) (clerks_con G) ?_
  refine runL_b [0] [(1, Sl a_l l.length c_l), (2, Sl a_ticks ticks.length c_ticks), (3, Pt b1 0), (21, Bo false)] ?_
  refine runL_nil ?_
  refine tq_then ?_
  refine tc_cond_false ?_
  refine tc_skip ?_
  refine tq_then ?_
  refine tc_seq ?_
  refine tc_seq ?_
  refine tc_region ?_
  refine runL_b [2] [(1, Sl a_l l.length c_l), (2, Sl a_ticks ticks.length c_ticks), (3, Pt b1 0), (22, .agg #[I c.queue.most, Sl a1 c.queue.wait.length c1, I c.batch, I c.every, I c.now, Sl a2 c.heads.length c2, Sl a3 c.books.length c3])] ?_
  refine runL_callV 23 (I (clerkCheck c)) (clerkCheck_con G [I c.queue.most, Sl a1 c.queue.wait.length c1, I c.batch, I c.every, I c.now, Sl a2 c.heads.length c2, Sl a3 c.books.length c3] c (⟨a1, c1, a2, c2, a3, c3, rfl, w1, hs1, w2, w3, w4, hs2, hs3⟩)) ?_
  refine runL_b [0] [(1, Sl a_l l.length c_l), (2, Sl a_ticks ticks.length c_ticks), (3, Pt b1 0), (24, Bo (!decide (clerkCheck c = 0)))] ?_
  refine runL_nil ?_
  refine tq_then ?_
  refine tc_cond (!decide (clerkCheck c = 0)) (fun h1 => ?_) (fun h1 => ?_)
  ·
    try simp only [decide_eq_true_eq, decide_eq_false_iff_not, Bool.and_eq_true, Bool.or_eq_true, Bool.and_eq_false_imp, Bool.or_eq_false_iff, Bool.not_eq_true', Bool.not_eq_false', Bool.not_eq_true, Bool.not_eq_false, beq_iff_eq, beq_eq_false_iff_ne, bne_iff_ne, ne_eq, Decidable.not_not, Int.not_lt, Int.not_le] at h1
    refine tc_rb [0] [(6, Bo true)] ?_
    refine tc_ret ?_
    refine tq_then_ret ?_
    refine tq_ret [0] [Bo true] (bp_ret (Mem.le_refl _) ?_)
    rfl
  ·
    try simp only [decide_eq_true_eq, decide_eq_false_iff_not, Bool.and_eq_true, Bool.or_eq_true, Bool.and_eq_false_imp, Bool.or_eq_false_iff, Bool.not_eq_true', Bool.not_eq_false', Bool.not_eq_true, Bool.not_eq_false, beq_iff_eq, beq_eq_false_iff_ne, bne_iff_ne, ne_eq, Decidable.not_not, Int.not_lt, Int.not_le] at h1
    refine tc_skip ?_
    refine tq_then ?_
    refine tc_rb [0,2,0,0] [(1, Sl a_l l.length c_l), (2, Sl a_ticks ticks.length c_ticks), (3, Pt b1 0), (7, I (((c.heads.length : Nat) : Int)))] ?_
    refine tc_seq ?_
    refine tc_region ?_
    refine runL_b [2] [(1, Sl a_l l.length c_l), (2, Sl a_ticks ticks.length c_ticks), (3, Pt b1 0), (7, I (((c.heads.length : Nat) : Int))), (28, .agg #[I c.queue.most, Sl a1 c.queue.wait.length c1, I c.batch, I c.every, I c.now, Sl a2 c.heads.length c2, Sl a3 c.books.length c3])] ?_
    refine runL_box 8 #[I 0, Sl none 0 0, I 0, I 0, I 0, Sl none 0 0, Sl none 0 0] 28 (fun b2 => ?_)
    refine runL_bs [3] [(1, Sl a_l l.length c_l), (2, Sl a_ticks ticks.length c_ticks), (3, Pt b1 0), (7, I (((c.heads.length : Nat) : Int))), (8, Pt b2 0)] [[Sg b2 0 [I c.queue.most, Sl a1 c.queue.wait.length c1, I c.batch, I c.every, I c.now, Sl a2 c.heads.length c2, Sl a3 c.books.length c3]], [Sg b1 0 [I c.queue.most, Sl a1 c.queue.wait.length c1, I c.batch, I c.every, I c.now, Sl a2 c.heads.length c2, Sl a3 c.books.length c3]]] ?_
    refine runL_nil ?_
    refine tq_then ?_
    refine tc_seq ?_
    refine tc_rb [0,0,0] [(2, Sl a_ticks ticks.length c_ticks), (3, Pt b1 0), (7, I (((c.heads.length : Nat) : Int))), (8, Pt b2 0), (29, Sl a_l l.length c_l), (30, I (((l.length : Nat) : Int))), (31, I 0)] ?_
    refine tc_block ?_
    have hlm_h_ticks : ticks.length ≤ 9223372036854775807 := Nat.le_trans (h_ticks).le (h_ticks).max
    have hlm_h_l : l.length ≤ 9223372036854775807 := Nat.le_trans (h_l).le (h_l).max
    refine tc_loop (σ := Nat × ClerkD × Option Addr × Nat × Option Addr × Nat × Option Addr × Nat × Mem) (fun q_ => (Mem.le G q_.2.2.2.2.2.2.2.2) ∧ (q_.1 ≤ l.length) ∧ (-9223372036854775808 ≤ q_.2.1.queue.most ∧ q_.2.1.queue.most < 9223372036854775808) ∧ (RS EAsk q_.2.2.2.2.2.2.2.2 q_.2.2.1 q_.2.2.2.1 q_.2.1.queue.wait) ∧ (-9223372036854775808 ≤ q_.2.1.batch ∧ q_.2.1.batch < 9223372036854775808) ∧ (-9223372036854775808 ≤ q_.2.1.every ∧ q_.2.1.every < 9223372036854775808) ∧ (-9223372036854775808 ≤ q_.2.1.now ∧ q_.2.1.now < 9223372036854775808) ∧ (RS EHead q_.2.2.2.2.2.2.2.2 q_.2.2.2.2.1 q_.2.2.2.2.2.1 q_.2.1.heads) ∧ (RS ESlEnt q_.2.2.2.2.2.2.2.2 q_.2.2.2.2.2.2.1 q_.2.2.2.2.2.2.2.1 q_.2.1.books) ∧ (Right c q_.2.1)) (fun q_ => [(2, Sl a_ticks ticks.length c_ticks), (3, Pt b1 0), (7, I (((c.heads.length : Nat) : Int))), (8, Pt b2 0), (29, Sl a_l l.length c_l), (30, I (((l.length : Nat) : Int))), (31, I ((q_.1 : Int)))]) (fun q_ => q_.2.2.2.2.2.2.2.2) (fun q_ => [[Sg b2 0 [I c.queue.most, Sl a1 c.queue.wait.length c1, I c.batch, I c.every, I c.now, Sl a2 c.heads.length c2, Sl a3 c.books.length c3]], [Sg b1 0 [I q_.2.1.queue.most, Sl q_.2.2.1 q_.2.1.queue.wait.length q_.2.2.2.1, I q_.2.1.batch, I q_.2.1.every, I q_.2.1.now, Sl q_.2.2.2.2.1 q_.2.1.heads.length q_.2.2.2.2.2.1, Sl q_.2.2.2.2.2.2.1 q_.2.1.books.length q_.2.2.2.2.2.2.2.1]]]) (fun q_ => l.length - q_.1) ((0, c, a1, c1, a2, c2, a3, c3, G)) ⟨(Mem.le_refl _), (by (try dsimp only); first | exact Nat.zero_le _ | omega | (simp; done) | (repeat' split <;> omega)), w1, hs1, w2, w3, w4, hs2, hs3, (by (try dsimp only); first | exact right_refl (by assumption) | exact hI | exact hJ | exact right_ask hI (by assumption) | exact right_tick hJ)⟩ (fun q_ hs => ?_)
    obtain ⟨i, kx, akx0, ckx0, akx1, ckx1, akx2, ckx2, g⟩ := q_
    obtain ⟨hle, hi, hkx0, hkx1, hkx2, hkx3, hkx4, hkx5, hkx6, hI⟩ := hs
    dsimp only at hle hi hkx0 hkx1 hkx2 hkx3 hkx4 hkx5 hkx6 hI
    refine tc_eq (fr' := [(2, Sl a_ticks ticks.length c_ticks), (3, Pt b1 0), (7, I (((c.heads.length : Nat) : Int))), (8, Pt b2 0), (29, Sl a_l l.length c_l), (30, I (((l.length : Nat) : Int))), (31, I ((i : Int)))]) (L' := [[Sg b2 0 [I c.queue.most, Sl a1 c.queue.wait.length c1, I c.batch, I c.every, I c.now, Sl a2 c.heads.length c2, Sl a3 c.books.length c3]], [Sg b1 0 [I kx.queue.most, Sl akx0 kx.queue.wait.length ckx0, I kx.batch, I kx.every, I kx.now, Sl akx1 kx.heads.length ckx1, Sl akx2 kx.books.length ckx2]]]) rfl rfl ?_
    refine tc_rb [0] [(2, Sl a_ticks ticks.length c_ticks), (3, Pt b1 0), (7, I (((c.heads.length : Nat) : Int))), (8, Pt b2 0), (29, Sl a_l l.length c_l), (30, I (((l.length : Nat) : Int))), (31, I ((i : Int))), (32, Bo (decide ((i : Int) < ((l.length : Nat) : Int))))] ?_
    refine tc_seq ?_
    refine tc_cond (decide ((i : Int) < ((l.length : Nat) : Int))) (fun h2 => ?_) (fun h2 => ?_)
    ·
      try simp only [decide_eq_true_eq, decide_eq_false_iff_not, Bool.and_eq_true, Bool.or_eq_true, Bool.and_eq_false_imp, Bool.or_eq_false_iff, Bool.not_eq_true', Bool.not_eq_false', Bool.not_eq_true, Bool.not_eq_false, beq_iff_eq, beq_eq_false_iff_ne, bne_iff_ne, ne_eq, Decidable.not_not, Int.not_lt, Int.not_le] at h2
      refine tc_skip ?_
      refine tq_then ?_
      refine tc_seq ?_
      refine tc_block ?_
      refine tc_seq ?_
      refine tc_region ?_
      refine runL_b [0] [(2, Sl a_ticks ticks.length c_ticks), (3, Pt b1 0), (7, I (((c.heads.length : Nat) : Int))), (8, Pt b2 0), (29, Sl a_l l.length c_l), (30, I (((l.length : Nat) : Int))), (31, I ((i : Int))), (33, I ((i : Int)))] ?_
      obtain ⟨b3, o1, rfl⟩ := RS.addr (h_l.mono hle) (k := i) (by first | omega | (have q_ := right_end hI; obtain ⟨q1_, q2_, q3_, q4_, q5_⟩ := q_; have q6_ := hI.ok.chain.len; have q7_ := ((clerkCheck_iff (c := c)).1 (by assumption)).len; (try simp only [Nat.sub_zero] at *); omega))
      obtain ⟨x1, hx1⟩ := getX (l := l) (k := i) (by first | omega | (have q_ := right_end hI; obtain ⟨q1_, q2_, q3_, q4_, q5_⟩ := q_; have q6_ := hI.ok.chain.len; have q7_ := ((clerkCheck_iff (c := c)).1 (by assumption)).len; (try simp only [Nat.sub_zero] at *); omega))
      obtain ⟨_, ⟨rfl, w5, w6, w7, w8⟩, hc1⟩ := RS.get (h_l.mono hle) hx1
      refine runL_idx (b := b3) (off := o1) (len := l.length) (cap := c_l) (ik := .i64) 34 54 4 i (by first | omega | (have q_ := right_end hI; obtain ⟨q1_, q2_, q3_, q4_, q5_⟩ := q_; have q6_ := hI.ok.chain.len; have q7_ := ((clerkCheck_iff (c := c)).1 (by assumption)).len; (try simp only [Nat.sub_zero] at *); omega)) ?_
      refine runL_ldG 35 54 (cs := [Sr x1.name, Sr x1.value, U x1.n, U x1.tag]) 0 (.agg #[Sr x1.name, Sr x1.value, U x1.n, U x1.tag]) hc1 ?_
      refine runL_box 10 #[Sr ([]), Sr ([]), U 0, U 0] 54 (fun b4 => ?_)
      refine runL_bs [0,3] [(2, Sl a_ticks ticks.length c_ticks), (3, Pt b1 0), (7, I (((c.heads.length : Nat) : Int))), (8, Pt b2 0), (9, I ((i : Int))), (10, Pt b4 0), (29, Sl (At b3 o1) l.length c_l), (30, I (((l.length : Nat) : Int))), (31, I ((i : Int)))] [[Sg b4 0 [Sr x1.name, Sr x1.value, U x1.n, U x1.tag]], [Sg b2 0 [I c.queue.most, Sl a1 c.queue.wait.length c1, I c.batch, I c.every, I c.now, Sl a2 c.heads.length c2, Sl a3 c.books.length c3]], [Sg b1 0 [I kx.queue.most, Sl akx0 kx.queue.wait.length ckx0, I kx.batch, I kx.every, I kx.now, Sl akx1 kx.heads.length ckx1, Sl akx2 kx.books.length ckx2]]] ?_
      refine runL_nil ?_
      refine tq_then ?_
      refine tc_seq ?_
      refine tc_rb [0,0] [(2, Sl a_ticks ticks.length c_ticks), (3, Pt b1 0), (7, I (((c.heads.length : Nat) : Int))), (8, Pt b2 0), (9, I ((i : Int))), (10, Pt b4 0), (29, Sl (At b3 o1) l.length c_l), (30, I (((l.length : Nat) : Int))), (31, I ((i : Int))), (37, Bo (decide ((i : Int) ≥ 20)))] ?_
      refine tc_cond (decide ((i : Int) ≥ 20)) (fun h3 => ?_) (fun h3 => ?_)
      ·
        try simp only [decide_eq_true_eq, decide_eq_false_iff_not, Bool.and_eq_true, Bool.or_eq_true, Bool.and_eq_false_imp, Bool.or_eq_false_iff, Bool.not_eq_true', Bool.not_eq_false', Bool.not_eq_true, Bool.not_eq_false, beq_iff_eq, beq_eq_false_iff_ne, bne_iff_ne, ne_eq, Decidable.not_not, Int.not_lt, Int.not_le] at h3
        refine tc_exit ?_
        refine tq_then_exit ?_
        refine tq_block_out rfl ?_
        refine tq_then_exit ?_
        refine tq_rnd_exit ?_
        refine tq_block_here ?_
        refine tq_then ?_
        refine tc_seq ?_
        refine tc_seq ?_
        rcases Bool.eq_false_or_eq_true (!decide (clerkCheck kx = 0)) with h4 | h4
        ·
          have h4d := h4
          try simp only [decide_eq_true_eq, decide_eq_false_iff_not, Bool.and_eq_true, Bool.or_eq_true, Bool.and_eq_false_imp, Bool.or_eq_false_iff, Bool.not_eq_true', Bool.not_eq_false', Bool.not_eq_true, Bool.not_eq_false, beq_iff_eq, beq_eq_false_iff_ne, bne_iff_ne, ne_eq, Decidable.not_not, Int.not_lt, Int.not_le] at h4d
          refine tc_draw [] ?_
          refine dr_V [(0, .agg #[I kx.queue.most, Sl akx0 kx.queue.wait.length ckx0, I kx.batch, I kx.every, I kx.now, Sl akx1 kx.heads.length ckx1, Sl akx2 kx.books.length ckx2]), (1, I (clerkCheck kx)), (2, Bo true), (3, Bo true), (4, undef), (5, undef), (6, undef), (7, undef), (8, undef), (9, Bo true), (10, Bo true), (11, undef), (12, undef), (13, undef), (14, undef), (15, undef), (16, undef), (17, undef), (18, undef), (19, Bo true)] ?_
          refine dr_end [] [(0,6), (3,0), (4,1), (5,1), (6,1), (7,1), (8,1), (9,0), (10,0), (11,1), (12,1), (13,1), (14,1), (15,1), (16,1), (17,1), (18,1), (19,0)] [1, 2] [(3, Pt b1 0), (7, I (((c.heads.length : Nat) : Int))), (8, Pt b2 0), (90, Bo true)] (List.forall_mem_cons.2 ⟨?_, (List.forall_mem_cons.2 ⟨?_, List.forall_mem_nil _⟩)⟩) ?_
          · refine stab_of 1 72 (I (clerkCheck kx)) [(71, .agg #[I kx.queue.most, Sl akx0 kx.queue.wait.length ckx0, I kx.batch, I kx.every, I kx.now, Sl akx1 kx.heads.length ckx1, Sl akx2 kx.books.length ckx2])] (fun X => ?_)
            exact runL_callV 72 (I (clerkCheck kx)) (clerkCheck_con g [I kx.queue.most, Sl akx0 kx.queue.wait.length ckx0, I kx.batch, I kx.every, I kx.now, Sl akx1 kx.heads.length ckx1, Sl akx2 kx.books.length ckx2] kx (⟨akx0, ckx0, akx1, ckx1, akx2, ckx2, rfl, hkx0, hkx1, hkx2, hkx3, hkx4, hkx5, hkx6⟩)) stab_end
          · refine stab_of 2 73 (Bo true) [(72, I (clerkCheck kx))] (fun X => ?_)
            exact runL_p1 73 (Bo (!decide (clerkCheck kx = 0))) (Bo true) (by rw [h4]) stab_end
          refine tq_then ?_
          refine tc_cond_true ?_
          refine tc_rb [0] [(6, Bo false)] ?_
          refine tc_ret ?_
          refine tq_then_ret ?_
          refine tq_ret [0] [Bo false] (bp_ret hle ?_)
          exfalso
          first | rfl | (exact absurd (right_tick0 hJ) (by assumption)) | (have q_ := right_end hI; obtain ⟨q1_, q2_, q3_, q4_, q5_⟩ := q_; have q6_ := hI.ok.chain.len; have q7_ := ((clerkCheck_iff (c := c)).1 (by assumption)).len; (try simp only [Nat.sub_zero] at *); first | (have q8_ := right_bookL (k := k) hI (by omega); first | exact absurd q8_.1 (by assumption) | (have q9_ := q8_.2 _ (by assumption); simp_all; done)) | (simp_all; done) | (exfalso; simp_all; omega))
        ·
          have h4d := h4
          try simp only [decide_eq_true_eq, decide_eq_false_iff_not, Bool.and_eq_true, Bool.or_eq_true, Bool.and_eq_false_imp, Bool.or_eq_false_iff, Bool.not_eq_true', Bool.not_eq_false', Bool.not_eq_true, Bool.not_eq_false, beq_iff_eq, beq_eq_false_iff_ne, bne_iff_ne, ne_eq, Decidable.not_not, Int.not_lt, Int.not_le] at h4d
          rcases Bool.eq_false_or_eq_true (decide (((kx.heads.length : Nat) : Int) < ((c.heads.length : Nat) : Int))) with h5 | h5
          ·
            have h5d := h5
            try simp only [decide_eq_true_eq, decide_eq_false_iff_not, Bool.and_eq_true, Bool.or_eq_true, Bool.and_eq_false_imp, Bool.or_eq_false_iff, Bool.not_eq_true', Bool.not_eq_false', Bool.not_eq_true, Bool.not_eq_false, beq_iff_eq, beq_eq_false_iff_ne, bne_iff_ne, ne_eq, Decidable.not_not, Int.not_lt, Int.not_le] at h5d
            refine tc_draw [] ?_
            refine dr_V [(0, .agg #[I kx.queue.most, Sl akx0 kx.queue.wait.length ckx0, I kx.batch, I kx.every, I kx.now, Sl akx1 kx.heads.length ckx1, Sl akx2 kx.books.length ckx2]), (1, I (clerkCheck kx)), (2, Bo false), (3, Bo false), (4, Pt b1 5), (5, Sl akx1 kx.heads.length ckx1), (6, I (((kx.heads.length : Nat) : Int))), (7, I (((c.heads.length : Nat) : Int))), (8, Bo true), (9, Bo true), (10, Bo true), (11, undef), (12, undef), (13, undef), (14, undef), (15, undef), (16, undef), (17, undef), (18, undef), (19, Bo true)] ?_
            refine dr_end [] [(0,6), (3,0), (4,0), (5,6), (6,0), (7,0), (9,0), (10,0), (11,1), (12,1), (13,1), (14,1), (15,1), (16,1), (17,1), (18,1), (19,0)] [1, 2, 8] [(3, Pt b1 0), (7, I (((c.heads.length : Nat) : Int))), (8, Pt b2 0), (90, Bo true)] (List.forall_mem_cons.2 ⟨?_, (List.forall_mem_cons.2 ⟨?_, (List.forall_mem_cons.2 ⟨?_, List.forall_mem_nil _⟩)⟩)⟩) ?_
            · refine stab_of 1 72 (I (clerkCheck kx)) [(71, .agg #[I kx.queue.most, Sl akx0 kx.queue.wait.length ckx0, I kx.batch, I kx.every, I kx.now, Sl akx1 kx.heads.length ckx1, Sl akx2 kx.books.length ckx2])] (fun X => ?_)
              exact runL_callV 72 (I (clerkCheck kx)) (clerkCheck_con g [I kx.queue.most, Sl akx0 kx.queue.wait.length ckx0, I kx.batch, I kx.every, I kx.now, Sl akx1 kx.heads.length ckx1, Sl akx2 kx.books.length ckx2] kx (⟨akx0, ckx0, akx1, ckx1, akx2, ckx2, rfl, hkx0, hkx1, hkx2, hkx3, hkx4, hkx5, hkx6⟩)) stab_end
            · refine stab_of 2 73 (Bo false) [(72, I (clerkCheck kx))] (fun X => ?_)
              exact runL_p1 73 (Bo (!decide (clerkCheck kx = 0))) (Bo false) (by rw [h4]) stab_end
            · refine stab_of 8 79 (Bo true) [(74, Bo false), (77, I (((kx.heads.length : Nat) : Int))), (78, I (((c.heads.length : Nat) : Int)))] (fun X => ?_)
              exact runL_p1 79 (Bo (decide (((kx.heads.length : Nat) : Int) < ((c.heads.length : Nat) : Int)))) (Bo true) (by rw [h5]) stab_end
            refine tq_then ?_
            refine tc_cond_true ?_
            refine tc_rb [0] [(6, Bo false)] ?_
            refine tc_ret ?_
            refine tq_then_ret ?_
            refine tq_ret [0] [Bo false] (bp_ret hle ?_)
            exfalso
            first | rfl | (exact absurd (right_tick0 hJ) (by assumption)) | (have q_ := right_end hI; obtain ⟨q1_, q2_, q3_, q4_, q5_⟩ := q_; have q6_ := hI.ok.chain.len; have q7_ := ((clerkCheck_iff (c := c)).1 (by assumption)).len; (try simp only [Nat.sub_zero] at *); first | (have q8_ := right_bookL (k := k) hI (by omega); first | exact absurd q8_.1 (by assumption) | (have q9_ := q8_.2 _ (by assumption); simp_all; done)) | (simp_all; done) | (exfalso; simp_all; omega))
          ·
            have h5d := h5
            try simp only [decide_eq_true_eq, decide_eq_false_iff_not, Bool.and_eq_true, Bool.or_eq_true, Bool.and_eq_false_imp, Bool.or_eq_false_iff, Bool.not_eq_true', Bool.not_eq_false', Bool.not_eq_true, Bool.not_eq_false, beq_iff_eq, beq_eq_false_iff_ne, bne_iff_ne, ne_eq, Decidable.not_not, Int.not_lt, Int.not_le] at h5d
            obtain ⟨a4, c4, ea1, ec1, en1, eh1, hs4⟩ := RS.reslXT hkx5 c.heads.length (by first | omega | (have q_ := right_end hI; obtain ⟨q1_, q2_, q3_, q4_, q5_⟩ := q_; have q6_ := hI.ok.chain.len; have q7_ := ((clerkCheck_iff (c := c)).1 (by assumption)).len; (try simp only [Nat.sub_zero] at *); omega))
            refine tc_draw [] ?_
            refine dr_V [(0, .agg #[I kx.queue.most, Sl akx0 kx.queue.wait.length ckx0, I kx.batch, I kx.every, I kx.now, Sl akx1 kx.heads.length ckx1, Sl akx2 kx.books.length ckx2]), (1, I (clerkCheck kx)), (2, Bo false), (3, Bo false), (4, Pt b1 5), (5, Sl akx1 kx.heads.length ckx1), (6, I (((kx.heads.length : Nat) : Int))), (7, I (((c.heads.length : Nat) : Int))), (8, Bo false), (9, Bo false), (10, Bo false), (11, Pt b1 5), (12, Sl akx1 kx.heads.length ckx1), (13, I (((c.heads.length : Nat) : Int))), (14, Sl a4 ((kx.heads.take c.heads.length).length) c4), (15, Pt b2 5), (16, Sl a2 c.heads.length c2), (17, Bo (decide (kx.heads.take c.heads.length = c.heads))), (18, Bo (!(decide (kx.heads.take c.heads.length = c.heads)))), (19, Bo (!(decide (kx.heads.take c.heads.length = c.heads))))] ?_
            refine dr_end [] [(0,6), (3,0), (4,0), (5,6), (6,0), (7,0), (9,0), (10,0), (11,0), (12,6), (13,0), (15,0), (16,4), (18,0), (19,0)] [1, 2, 8, 14, 17] [(3, Pt b1 0), (7, I (((c.heads.length : Nat) : Int))), (8, Pt b2 0), (90, Bo (!(decide (kx.heads.take c.heads.length = c.heads))))] (List.forall_mem_cons.2 ⟨?_, (List.forall_mem_cons.2 ⟨?_, (List.forall_mem_cons.2 ⟨?_, (List.forall_mem_cons.2 ⟨?_, (List.forall_mem_cons.2 ⟨?_, List.forall_mem_nil _⟩)⟩)⟩)⟩)⟩) ?_
            · refine stab_of 1 72 (I (clerkCheck kx)) [(71, .agg #[I kx.queue.most, Sl akx0 kx.queue.wait.length ckx0, I kx.batch, I kx.every, I kx.now, Sl akx1 kx.heads.length ckx1, Sl akx2 kx.books.length ckx2])] (fun X => ?_)
              exact runL_callV 72 (I (clerkCheck kx)) (clerkCheck_con g [I kx.queue.most, Sl akx0 kx.queue.wait.length ckx0, I kx.batch, I kx.every, I kx.now, Sl akx1 kx.heads.length ckx1, Sl akx2 kx.books.length ckx2] kx (⟨akx0, ckx0, akx1, ckx1, akx2, ckx2, rfl, hkx0, hkx1, hkx2, hkx3, hkx4, hkx5, hkx6⟩)) stab_end
            · refine stab_of 2 73 (Bo false) [(72, I (clerkCheck kx))] (fun X => ?_)
              exact runL_p1 73 (Bo (!decide (clerkCheck kx = 0))) (Bo false) (by rw [h4]) stab_end
            · refine stab_of 8 79 (Bo false) [(74, Bo false), (77, I (((kx.heads.length : Nat) : Int))), (78, I (((c.heads.length : Nat) : Int)))] (fun X => ?_)
              exact runL_p1 79 (Bo (decide (((kx.heads.length : Nat) : Int) < ((c.heads.length : Nat) : Int)))) (Bo false) (by rw [h5]) stab_end
            · refine stab_of 14 85 (Sl a4 ((kx.heads.take c.heads.length).length) c4) [(81, Bo false), (83, Sl akx1 kx.heads.length ckx1), (84, I (((c.heads.length : Nat) : Int)))] (fun X => ?_)
              exact runL_reslE (a := akx1) (len := kx.heads.length) (cap := ckx1) 85 4 none (some (I (((c.heads.length : Nat) : Int)))) 0 c.heads.length (.inl ⟨rfl, rfl⟩) (.inr ⟨_, rfl⟩) (by exact Nat.zero_le _) ea1 ec1 en1 eh1 stab_end
            · refine stab_of 17 88 (Bo (decide (kx.heads.take c.heads.length = c.heads))) [(81, Bo false), (85, Sl a4 ((kx.heads.take c.heads.length).length) c4), (87, Sl a2 c.heads.length c2)] (fun X => ?_)
              exact runL_callV 88 (Bo (decide (kx.heads.take c.heads.length = c.heads))) (seq_EHead g a4 c4 (kx.heads.take c.heads.length) hs4 a2 c2 c.heads (hs2.mono hle)) stab_end
            refine tq_then ?_
            refine tc_cond (!(decide (kx.heads.take c.heads.length = c.heads))) (fun h6 => ?_) (fun h6 => ?_)
            ·
              try simp only [decide_eq_true_eq, decide_eq_false_iff_not, Bool.and_eq_true, Bool.or_eq_true, Bool.and_eq_false_imp, Bool.or_eq_false_iff, Bool.not_eq_true', Bool.not_eq_false', Bool.not_eq_true, Bool.not_eq_false, beq_iff_eq, beq_eq_false_iff_ne, bne_iff_ne, ne_eq, Decidable.not_not, Int.not_lt, Int.not_le] at h6
              refine tc_rb [0] [(6, Bo false)] ?_
              refine tc_ret ?_
              refine tq_then_ret ?_
              refine tq_ret [0] [Bo false] (bp_ret hle ?_)
              exfalso
              first | rfl | (exact absurd (right_tick0 hJ) (by assumption)) | (have q_ := right_end hI; obtain ⟨q1_, q2_, q3_, q4_, q5_⟩ := q_; have q6_ := hI.ok.chain.len; have q7_ := ((clerkCheck_iff (c := c)).1 (by assumption)).len; (try simp only [Nat.sub_zero] at *); first | (have q8_ := right_bookL (k := k) hI (by omega); first | exact absurd q8_.1 (by assumption) | (have q9_ := q8_.2 _ (by assumption); simp_all; done)) | (simp_all; done) | (exfalso; simp_all; omega))
            ·
              try simp only [decide_eq_true_eq, decide_eq_false_iff_not, Bool.and_eq_true, Bool.or_eq_true, Bool.and_eq_false_imp, Bool.or_eq_false_iff, Bool.not_eq_true', Bool.not_eq_false', Bool.not_eq_true, Bool.not_eq_false, beq_iff_eq, beq_eq_false_iff_ne, bne_iff_ne, ne_eq, Decidable.not_not, Int.not_lt, Int.not_le] at h6
              refine tc_skip ?_
              refine tq_then ?_
              refine tc_seq ?_
              refine tc_rb [0,0] [(3, Pt b1 0), (8, Pt b2 0), (91, I (((c.heads.length : Nat) : Int))), (92, I 0)] ?_
              refine tc_block ?_
              refine tc_loop (σ := Nat × Mem) (fun q_ => (Mem.le g q_.2) ∧ (q_.1 ≤ c.heads.length)) (fun q_ => [(3, Pt b1 0), (8, Pt b2 0), (91, I (((c.heads.length : Nat) : Int))), (92, I ((q_.1 : Int)))]) (fun q_ => q_.2) (fun q_ => [[Sg b4 0 [Sr x1.name, Sr x1.value, U x1.n, U x1.tag]], [Sg b2 0 [I c.queue.most, Sl a1 c.queue.wait.length c1, I c.batch, I c.every, I c.now, Sl a2 c.heads.length c2, Sl a3 c.books.length c3]], [Sg b1 0 [I kx.queue.most, Sl akx0 kx.queue.wait.length ckx0, I kx.batch, I kx.every, I kx.now, Sl akx1 kx.heads.length ckx1, Sl akx2 kx.books.length ckx2]]]) (fun q_ => c.heads.length - q_.1) ((0, g)) ⟨(Mem.le_refl _), (by (try dsimp only); first | exact Nat.zero_le _ | omega | (simp; done) | (repeat' split <;> omega))⟩ (fun q_ hs => ?_)
              obtain ⟨k, g1_⟩ := q_
              obtain ⟨hle1_, hi⟩ := hs
              dsimp only at hle1_ hi
              refine tc_eq (fr' := [(3, Pt b1 0), (8, Pt b2 0), (91, I (((c.heads.length : Nat) : Int))), (92, I ((k : Int)))]) (L' := [[Sg b4 0 [Sr x1.name, Sr x1.value, U x1.n, U x1.tag]], [Sg b2 0 [I c.queue.most, Sl a1 c.queue.wait.length c1, I c.batch, I c.every, I c.now, Sl a2 c.heads.length c2, Sl a3 c.books.length c3]], [Sg b1 0 [I kx.queue.most, Sl akx0 kx.queue.wait.length ckx0, I kx.batch, I kx.every, I kx.now, Sl akx1 kx.heads.length ckx1, Sl akx2 kx.books.length ckx2]]]) rfl rfl ?_
              refine tc_rb [0] [(3, Pt b1 0), (8, Pt b2 0), (91, I (((c.heads.length : Nat) : Int))), (92, I ((k : Int))), (93, Bo (decide ((k : Int) < ((c.heads.length : Nat) : Int))))] ?_
              refine tc_seq ?_
              refine tc_cond (decide ((k : Int) < ((c.heads.length : Nat) : Int))) (fun h7 => ?_) (fun h7 => ?_)
              ·
                try simp only [decide_eq_true_eq, decide_eq_false_iff_not, Bool.and_eq_true, Bool.or_eq_true, Bool.and_eq_false_imp, Bool.or_eq_false_iff, Bool.not_eq_true', Bool.not_eq_false', Bool.not_eq_true, Bool.not_eq_false, beq_iff_eq, beq_eq_false_iff_ne, bne_iff_ne, ne_eq, Decidable.not_not, Int.not_lt, Int.not_le] at h7
                refine tc_skip ?_
                refine tq_then ?_
                refine tc_seq ?_
                refine tc_block ?_
                refine tc_rb [0,0] [(3, Pt b1 0), (8, Pt b2 0), (17, I ((k : Int))), (91, I (((c.heads.length : Nat) : Int))), (92, I ((k : Int)))] ?_
                refine tc_seq ?_
                refine tc_region ?_
                refine runL_b [6,0] [(3, Pt b1 0), (8, Pt b2 0), (17, I ((k : Int))), (91, I (((c.heads.length : Nat) : Int))), (92, I ((k : Int))), (96, .agg #[I kx.queue.most, Sl akx0 kx.queue.wait.length ckx0, I kx.batch, I kx.every, I kx.now, Sl akx1 kx.heads.length ckx1, Sl akx2 kx.books.length ckx2]), (97, I ((k : Int)))] ?_
                refine runL_callR 98 (clerkBook_con g1_ [I kx.queue.most, Sl akx0 kx.queue.wait.length ckx0, I kx.batch, I kx.every, I kx.now, Sl akx1 kx.heads.length ckx1, Sl akx2 kx.books.length ckx2] kx (⟨akx0, ckx0, akx1, ckx1, akx2, ckx2, rfl, hkx0, (hkx1.mono hle1_), hkx2, hkx3, hkx4, (hkx5.mono hle1_), (hkx6.mono hle1_)⟩) ((k : Int)) (by have q_ := right_end hI; obtain ⟨q1_, q2_, q3_, q4_, q5_⟩ := q_; have q6_ := hI.ok.chain.len; have q7_ := ((clerkCheck_iff (c := c)).1 (by assumption)).len; (try simp only [Nat.sub_zero] at *); omega)) (fun v G1 L1 hl1 hp => ?_)
                obtain ⟨a5, c5, r1, rfl, hr1, rfl⟩ := hp
                refine runL_b [0,0,0,0,0] [(3, Pt b1 0), (8, Pt b2 0), (17, I ((k : Int))), (18, Sl a5 (((clerkBook kx ((k : Int))).1).length) c5), (19, I ((clerkBook kx ((k : Int))).2)), (91, I (((c.heads.length : Nat) : Int))), (92, I ((k : Int)))] ?_
                refine runL_nil ?_
                refine tq_then ?_
                refine tc_seq ?_
                refine tc_region ?_
                refine runL_b [0,0,0] [(3, Pt b1 0), (8, Pt b2 0), (17, I ((k : Int))), (18, Sl a5 (((clerkBook kx ((k : Int))).1).length) c5), (91, I (((c.heads.length : Nat) : Int))), (92, I ((k : Int))), (103, Bo (!decide ((clerkBook kx ((k : Int))).2 = 0)))] ?_
                refine runL_cases (fun bb => [(3, Pt b1 0), (8, Pt b2 0), (17, I ((k : Int))), (18, Sl a5 (((clerkBook kx ((k : Int))).1).length) c5), (91, I (((c.heads.length : Nat) : Int))), (92, I ((k : Int))), (103, Bo bb)]) (!decide ((clerkBook kx ((k : Int))).2 = 0)) (fun h8 => ?_) (fun h8 => ?_)
                ·
                  try simp only [decide_eq_true_eq, decide_eq_false_iff_not, Bool.and_eq_true, Bool.or_eq_true, Bool.and_eq_false_imp, Bool.or_eq_false_iff, Bool.not_eq_true', Bool.not_eq_false', Bool.not_eq_true, Bool.not_eq_false, beq_iff_eq, beq_eq_false_iff_ne, bne_iff_ne, ne_eq, Decidable.not_not, Int.not_lt, Int.not_le] at h8
                  refine runL_b [1,1,1,1,1,1,1,1,0] [(3, Pt b1 0), (8, Pt b2 0), (91, I (((c.heads.length : Nat) : Int))), (92, I ((k : Int))), (112, Bo true)] ?_
                  refine runL_nil ?_
                  refine tq_then ?_
                  refine tc_cond_true ?_
                  refine tc_rb [0] [(6, Bo false)] ?_
                  refine tc_ret ?_
                  refine tq_block_ret ?_
                  refine tq_then_ret ?_
                  refine tq_rnd_ret ?_
                  refine tq_block_ret ?_
                  refine tq_then_ret ?_
                  refine tq_ret [0] [Bo false] (bp_ret (Mem.le_trans (Mem.le_trans hle hle1_) hl1) ?_)
                  exfalso
                  first | rfl | (exact absurd (right_tick0 hJ) (by assumption)) | (have q_ := right_end hI; obtain ⟨q1_, q2_, q3_, q4_, q5_⟩ := q_; have q6_ := hI.ok.chain.len; have q7_ := ((clerkCheck_iff (c := c)).1 (by assumption)).len; (try simp only [Nat.sub_zero] at *); first | (have q8_ := right_bookL (k := k) hI (by omega); first | exact absurd q8_.1 (by assumption) | (have q9_ := q8_.2 _ (by assumption); simp_all; done)) | (simp_all; done) | (exfalso; simp_all; omega))
                ·
                  try simp only [decide_eq_true_eq, decide_eq_false_iff_not, Bool.and_eq_true, Bool.or_eq_true, Bool.and_eq_false_imp, Bool.or_eq_false_iff, Bool.not_eq_true', Bool.not_eq_false', Bool.not_eq_true, Bool.not_eq_false, beq_iff_eq, beq_eq_false_iff_ne, bne_iff_ne, ne_eq, Decidable.not_not, Int.not_lt, Int.not_le] at h8
                  refine runL_b [0,0,6,0] [(3, Pt b1 0), (8, Pt b2 0), (91, I (((c.heads.length : Nat) : Int))), (92, I ((k : Int))), (103, Bo false), (104, Sl a5 (((clerkBook kx ((k : Int))).1).length) c5), (106, Sl a3 c.books.length c3), (107, I ((k : Int)))] ?_
                  obtain ⟨b5, o2, rfl⟩ := RS.addr (hs3.mono (Mem.le_trans (Mem.le_trans hle hle1_) hl1)) (k := k) (by first | omega | (have q_ := right_end hI; obtain ⟨q1_, q2_, q3_, q4_, q5_⟩ := q_; have q6_ := hI.ok.chain.len; have q7_ := ((clerkCheck_iff (c := c)).1 (by assumption)).len; (try simp only [Nat.sub_zero] at *); omega))
                  obtain ⟨x2, hx2⟩ := getX (l := c.books) (k := k) (by first | omega | (have q_ := right_end hI; obtain ⟨q1_, q2_, q3_, q4_, q5_⟩ := q_; have q6_ := hI.ok.chain.len; have q7_ := ((clerkCheck_iff (c := c)).1 (by assumption)).len; (try simp only [Nat.sub_zero] at *); omega))
                  obtain ⟨_, ⟨a6, c6, rfl, hs5⟩, hc2⟩ := RS.get (hs3.mono (Mem.le_trans (Mem.le_trans hle hle1_) hl1)) hx2
                  refine runL_idx (b := b5) (off := o2) (len := c.books.length) (cap := c3) (ik := .i64) 108 33 1 k (by first | omega | (have q_ := right_end hI; obtain ⟨q1_, q2_, q3_, q4_, q5_⟩ := q_; have q6_ := hI.ok.chain.len; have q7_ := ((clerkCheck_iff (c := c)).1 (by assumption)).len; (try simp only [Nat.sub_zero] at *); omega)) ?_
                  refine runL_ldG 109 33 (cs := [Sl a6 x2.length c6]) 0 (Sl a6 x2.length c6) hc2 ?_
                  refine runL_frzR (E := EEnt) 0 hr1 (by have q_ := book_len kx ((k : Int)); simp only [EEnt]; omega) (fun G2 hl2 hs6 => ?_)
                  refine runL_callV 110 (Bo (decide ((clerkBook kx ((k : Int))).1 = x2))) (seq_EEnt G2 a5 c5 ((clerkBook kx ((k : Int))).1) hs6 a6 c6 x2 (hs5.mono hl2)) ?_
                  refine runL_b [0,0] [(3, Pt b1 0), (8, Pt b2 0), (91, I (((c.heads.length : Nat) : Int))), (92, I ((k : Int))), (112, Bo (!(decide ((clerkBook kx ((k : Int))).1 = x2))))] ?_
                  refine runL_nil ?_
                  refine tq_then ?_
                  refine tc_cond (!(decide ((clerkBook kx ((k : Int))).1 = x2))) (fun h9 => ?_) (fun h9 => ?_)
                  ·
                    try simp only [decide_eq_true_eq, decide_eq_false_iff_not, Bool.and_eq_true, Bool.or_eq_true, Bool.and_eq_false_imp, Bool.or_eq_false_iff, Bool.not_eq_true', Bool.not_eq_false', Bool.not_eq_true, Bool.not_eq_false, beq_iff_eq, beq_eq_false_iff_ne, bne_iff_ne, ne_eq, Decidable.not_not, Int.not_lt, Int.not_le] at h9
                    refine tc_rb [0] [(6, Bo false)] ?_
                    refine tc_ret ?_
                    refine tq_block_ret ?_
                    refine tq_then_ret ?_
                    refine tq_rnd_ret ?_
                    refine tq_block_ret ?_
                    refine tq_then_ret ?_
                    refine tq_ret [0] [Bo false] (bp_ret (Mem.le_trans (Mem.le_trans (Mem.le_trans hle hle1_) hl1) hl2) ?_)
                    exfalso
                    first | rfl | (exact absurd (right_tick0 hJ) (by assumption)) | (have q_ := right_end hI; obtain ⟨q1_, q2_, q3_, q4_, q5_⟩ := q_; have q6_ := hI.ok.chain.len; have q7_ := ((clerkCheck_iff (c := c)).1 (by assumption)).len; (try simp only [Nat.sub_zero] at *); first | (have q8_ := right_bookL (k := k) hI (by omega); first | exact absurd q8_.1 (by assumption) | (have q9_ := q8_.2 _ (by assumption); simp_all; done)) | (simp_all; done) | (exfalso; simp_all; omega))
                  ·
                    try simp only [decide_eq_true_eq, decide_eq_false_iff_not, Bool.and_eq_true, Bool.or_eq_true, Bool.and_eq_false_imp, Bool.or_eq_false_iff, Bool.not_eq_true', Bool.not_eq_false', Bool.not_eq_true, Bool.not_eq_false, beq_iff_eq, beq_eq_false_iff_ne, bne_iff_ne, ne_eq, Decidable.not_not, Int.not_lt, Int.not_le] at h9
                    refine tc_skip ?_
                    refine tq_block ?_
                    refine tq_then ?_
                    refine tc_region ?_
                    refine runL_b [0,0] [(3, Pt b1 0), (8, Pt b2 0), (91, I (((c.heads.length : Nat) : Int))), (92, I (IntKind.i64.wrap (((k : Int)) + 1)))] ?_
                    have e1 : IntKind.i64.wrap (((k : Int)) + 1) = ((k : Int)) + 1 := IntWalk.i64_in _ (by first | omega | (have q_ := right_end hI; obtain ⟨q1_, q2_, q3_, q4_, q5_⟩ := q_; have q6_ := hI.ok.chain.len; have q7_ := ((clerkCheck_iff (c := c)).1 (by assumption)).len; (try simp only [Nat.sub_zero] at *); omega))
                    refine runL_eq (fr' := [(3, Pt b1 0), (8, Pt b2 0), (91, I (((c.heads.length : Nat) : Int))), (92, I (((k : Int)) + 1))]) (L' := [[], [Sg b4 0 [Sr x1.name, Sr x1.value, U x1.n, U x1.tag]], [Sg b2 0 [I c.queue.most, Sl a1 c.queue.wait.length c1, I c.batch, I c.every, I c.now, Sl a2 c.heads.length c2, Sl (At b5 o2) c.books.length c3]], [Sg b1 0 [I kx.queue.most, Sl akx0 kx.queue.wait.length ckx0, I kx.batch, I kx.every, I kx.now, Sl akx1 kx.heads.length ckx1, Sl akx2 kx.books.length ckx2]]]) (by simp only [e1]) (by rfl) ?_
                    clear e1
                    refine runL_nil ?_
                    refine tq_owns [[Sg b4 0 [Sr x1.name, Sr x1.value, U x1.n, U x1.tag]], [Sg b2 0 [I c.queue.most, Sl a1 c.queue.wait.length c1, I c.batch, I c.every, I c.now, Sl a2 c.heads.length c2, Sl (At b5 o2) c.books.length c3]], [Sg b1 0 [I kx.queue.most, Sl akx0 kx.queue.wait.length ckx0, I kx.batch, I kx.every, I kx.now, Sl akx1 kx.heads.length ckx1, Sl akx2 kx.books.length ckx2]]] ((.cons _ (.cons_cons _ (.cons_cons _ (.cons_cons _ .slnil))))) ?_
                    exact tq_rnd ((k + 1, G2)) ⟨(Mem.le_trans hle1_ (Mem.le_trans hl1 hl2)), (by omega)⟩ (by (try dsimp only); omega)
              ·
                try simp only [decide_eq_true_eq, decide_eq_false_iff_not, Bool.and_eq_true, Bool.or_eq_true, Bool.and_eq_false_imp, Bool.or_eq_false_iff, Bool.not_eq_true', Bool.not_eq_false', Bool.not_eq_true, Bool.not_eq_false, beq_iff_eq, beq_eq_false_iff_ne, bne_iff_ne, ne_eq, Decidable.not_not, Int.not_lt, Int.not_le] at h7
                refine tc_exit ?_
                refine tq_then_exit ?_
                refine tq_rnd_exit ?_
                refine tq_block_here ?_
                refine tq_then ?_
                refine tc_rb [0] [(6, Bo true)] ?_
                refine tc_ret ?_
                refine tq_ret [0] [Bo true] (bp_ret (Mem.le_trans hle hle1_) ?_)
                rfl
      ·
        try simp only [decide_eq_true_eq, decide_eq_false_iff_not, Bool.and_eq_true, Bool.or_eq_true, Bool.and_eq_false_imp, Bool.or_eq_false_iff, Bool.not_eq_true', Bool.not_eq_false', Bool.not_eq_true, Bool.not_eq_false, beq_iff_eq, beq_eq_false_iff_ne, bne_iff_ne, ne_eq, Decidable.not_not, Int.not_lt, Int.not_le] at h3
        refine tc_skip ?_
        refine tq_then ?_
        refine tc_seq ?_
        refine tc_seq ?_
        refine tc_region ?_
        refine runL_b [6,2] [(2, Sl a_ticks ticks.length c_ticks), (3, Pt b1 0), (7, I (((c.heads.length : Nat) : Int))), (8, Pt b2 0), (9, I ((i : Int))), (29, Sl (At b3 o1) l.length c_l), (30, I (((l.length : Nat) : Int))), (31, I ((i : Int))), (39, .agg #[I kx.queue.most, Sl akx0 kx.queue.wait.length ckx0, I kx.batch, I kx.every, I kx.now, Sl akx1 kx.heads.length ckx1, Sl akx2 kx.books.length ckx2]), (40, .agg #[Sr x1.name, Sr x1.value, U x1.n, U x1.tag])] ?_
        refine runL_callR 41 (clerkAsk_con g [I kx.queue.most, Sl akx0 kx.queue.wait.length ckx0, I kx.batch, I kx.every, I kx.now, Sl akx1 kx.heads.length ckx1, Sl akx2 kx.books.length ckx2] kx (⟨akx0, ckx0, akx1, ckx1, akx2, ckx2, rfl, hkx0, hkx1, hkx2, hkx3, hkx4, hkx5, hkx6⟩) [Sr x1.name, Sr x1.value, U x1.n, U x1.tag] x1 (⟨rfl, w5, w6, w7, w8⟩)) (fun v G3 L1 hl3 hp => ?_)
        obtain ⟨a7, c7, a8, c8, a9, c9, rfl, w9, hs7, w10, w11, w12, hs8, hs9, w13, rfl⟩ := hp
        refine runL_b [0,0,0,0] [(2, Sl a_ticks ticks.length c_ticks), (3, Pt b1 0), (7, I (((c.heads.length : Nat) : Int))), (8, Pt b2 0), (9, I ((i : Int))), (29, Sl (At b3 o1) l.length c_l), (30, I (((l.length : Nat) : Int))), (31, I ((i : Int))), (42, .agg #[I (((clerkAsk kx x1).1).queue.most), Sl a7 ((((clerkAsk kx x1).1).queue.wait).length) c7, I (((clerkAsk kx x1).1).batch), I (((clerkAsk kx x1).1).every), I (((clerkAsk kx x1).1).now), Sl a8 ((((clerkAsk kx x1).1).heads).length) c8, Sl a9 ((((clerkAsk kx x1).1).books).length) c9]), (43, I ((clerkAsk kx x1).2.1)), (44, I ((clerkAsk kx x1).2.2))] ?_
        refine runL_box 11 #[I 0, Sl none 0 0, I 0, I 0, I 0, Sl none 0 0, Sl none 0 0] 28 (fun b6 => ?_)
        refine runL_bs [3,0,0] [(2, Sl a_ticks ticks.length c_ticks), (3, Pt b1 0), (7, I (((c.heads.length : Nat) : Int))), (8, Pt b2 0), (9, I ((i : Int))), (11, Pt b6 0), (13, I ((clerkAsk kx x1).2.2)), (29, Sl (At b3 o1) l.length c_l), (30, I (((l.length : Nat) : Int))), (31, I ((i : Int)))] [[Sg b6 0 [I (((clerkAsk kx x1).1).queue.most), Sl a7 ((((clerkAsk kx x1).1).queue.wait).length) c7, I (((clerkAsk kx x1).1).batch), I (((clerkAsk kx x1).1).every), I (((clerkAsk kx x1).1).now), Sl a8 ((((clerkAsk kx x1).1).heads).length) c8, Sl a9 ((((clerkAsk kx x1).1).books).length) c9]], [Sg b4 0 [Sr x1.name, Sr x1.value, U x1.n, U x1.tag]], [Sg b2 0 [I c.queue.most, Sl a1 c.queue.wait.length c1, I c.batch, I c.every, I c.now, Sl a2 c.heads.length c2, Sl a3 c.books.length c3]], [Sg b1 0 [I kx.queue.most, Sl akx0 kx.queue.wait.length ckx0, I kx.batch, I kx.every, I kx.now, Sl akx1 kx.heads.length ckx1, Sl akx2 kx.books.length ckx2]]] ?_
        refine runL_nil ?_
        refine tq_then ?_
        refine tc_rb [0,0] [(2, Sl a_ticks ticks.length c_ticks), (3, Pt b1 0), (7, I (((c.heads.length : Nat) : Int))), (8, Pt b2 0), (9, I ((i : Int))), (11, Pt b6 0), (29, Sl (At b3 o1) l.length c_l), (30, I (((l.length : Nat) : Int))), (31, I ((i : Int))), (46, Bo (decide ((clerkAsk kx x1).2.2 = 0)))] ?_
        refine tc_cond (decide ((clerkAsk kx x1).2.2 = 0)) (fun h10 => ?_) (fun h10 => ?_)
        ·
          try simp only [decide_eq_true_eq, decide_eq_false_iff_not, Bool.and_eq_true, Bool.or_eq_true, Bool.and_eq_false_imp, Bool.or_eq_false_iff, Bool.not_eq_true', Bool.not_eq_false', Bool.not_eq_true, Bool.not_eq_false, beq_iff_eq, beq_eq_false_iff_ne, bne_iff_ne, ne_eq, Decidable.not_not, Int.not_lt, Int.not_le] at h10
          refine tc_region ?_
          refine runL_bs [2,9] [(2, Sl a_ticks ticks.length c_ticks), (3, Pt b1 0), (7, I (((c.heads.length : Nat) : Int))), (8, Pt b2 0), (9, I ((i : Int))), (29, Sl (At b3 o1) l.length c_l), (30, I (((l.length : Nat) : Int))), (31, I ((i : Int)))] [[Sg b6 0 [I (((clerkAsk kx x1).1).queue.most), Sl a7 ((((clerkAsk kx x1).1).queue.wait).length) c7, I (((clerkAsk kx x1).1).batch), I (((clerkAsk kx x1).1).every), I (((clerkAsk kx x1).1).now), Sl a8 ((((clerkAsk kx x1).1).heads).length) c8, Sl a9 ((((clerkAsk kx x1).1).books).length) c9]], [Sg b4 0 [Sr x1.name, Sr x1.value, U x1.n, U x1.tag]], [Sg b2 0 [I c.queue.most, Sl a1 c.queue.wait.length c1, I c.batch, I c.every, I c.now, Sl a2 c.heads.length c2, Sl a3 c.books.length c3]], [Sg b1 0 [I (((clerkAsk kx x1).1).queue.most), Sl a7 ((((clerkAsk kx x1).1).queue.wait).length) c7, I (((clerkAsk kx x1).1).batch), I (((clerkAsk kx x1).1).every), I (((clerkAsk kx x1).1).now), Sl a8 ((((clerkAsk kx x1).1).heads).length) c8, Sl a9 ((((clerkAsk kx x1).1).books).length) c9]]] ?_
          refine runL_nil ?_
          refine tq_then ?_
          refine tc_rb [0,0,0,0] [(2, Sl a_ticks ticks.length c_ticks), (3, Pt b1 0), (7, I (((c.heads.length : Nat) : Int))), (8, Pt b2 0), (9, I ((i : Int))), (29, Sl (At b3 o1) l.length c_l), (30, I (((l.length : Nat) : Int))), (31, I ((i : Int))), (51, Bo (decide ((i : Int) < ((ticks.length : Nat) : Int))))] ?_
          refine tc_cond (decide ((i : Int) < ((ticks.length : Nat) : Int))) (fun h11 => ?_) (fun h11 => ?_)
          ·
            try simp only [decide_eq_true_eq, decide_eq_false_iff_not, Bool.and_eq_true, Bool.or_eq_true, Bool.and_eq_false_imp, Bool.or_eq_false_iff, Bool.not_eq_true', Bool.not_eq_false', Bool.not_eq_true, Bool.not_eq_false, beq_iff_eq, beq_eq_false_iff_ne, bne_iff_ne, ne_eq, Decidable.not_not, Int.not_lt, Int.not_le] at h11
            refine tc_seq ?_
            refine tc_region ?_
            refine runL_b [0,0] [(2, Sl a_ticks ticks.length c_ticks), (3, Pt b1 0), (7, I (((c.heads.length : Nat) : Int))), (8, Pt b2 0), (29, Sl (At b3 o1) l.length c_l), (30, I (((l.length : Nat) : Int))), (31, I ((i : Int))), (52, Sl a_ticks ticks.length c_ticks), (53, I ((i : Int)))] ?_
            obtain ⟨b7, o3, rfl⟩ := RS.addr (h_ticks.mono (Mem.le_trans hle hl3)) (k := i) (by first | omega | (have q_ := right_end hI; obtain ⟨q1_, q2_, q3_, q4_, q5_⟩ := q_; have q6_ := hI.ok.chain.len; have q7_ := ((clerkCheck_iff (c := c)).1 (by assumption)).len; (try simp only [Nat.sub_zero] at *); omega))
            obtain ⟨x3, hx3⟩ := getX (l := ticks) (k := i) (by first | omega | (have q_ := right_end hI; obtain ⟨q1_, q2_, q3_, q4_, q5_⟩ := q_; have q6_ := hI.ok.chain.len; have q7_ := ((clerkCheck_iff (c := c)).1 (by assumption)).len; (try simp only [Nat.sub_zero] at *); omega))
            obtain ⟨_, ⟨rfl, w14⟩, hc3⟩ := RS.get (h_ticks.mono (Mem.le_trans hle hl3)) hx3
            refine runL_idx (b := b7) (off := o3) (len := ticks.length) (cap := c_ticks) (ik := .i64) 54 3 1 i (by first | omega | (have q_ := right_end hI; obtain ⟨q1_, q2_, q3_, q4_, q5_⟩ := q_; have q6_ := hI.ok.chain.len; have q7_ := ((clerkCheck_iff (c := c)).1 (by assumption)).len; (try simp only [Nat.sub_zero] at *); omega)) ?_
            refine runL_ldG 55 3 (cs := [I x3]) 0 (I x3) hc3 ?_
            refine runL_b [0,0,0] [(2, Sl (At b7 o3) ticks.length c_ticks), (3, Pt b1 0), (7, I (((c.heads.length : Nat) : Int))), (8, Pt b2 0), (29, Sl (At b3 o1) l.length c_l), (30, I (((l.length : Nat) : Int))), (31, I ((i : Int))), (57, I (if 5 < (if 0 > x3 then 0 else x3) then 5 else (if 0 > x3 then 0 else x3))), (58, I 0)] ?_
            refine runL_nil ?_
            refine tq_then ?_
            refine tc_block ?_
            have hlm_h_ticks : ticks.length ≤ 9223372036854775807 := Nat.le_trans (h_ticks).le (h_ticks).max
            have hlm_h_l : l.length ≤ 9223372036854775807 := Nat.le_trans (h_l).le (h_l).max
            refine tc_loop (σ := Nat × ClerkD × Option Addr × Nat × Option Addr × Nat × Option Addr × Nat × Mem) (fun q_ => (Mem.le G3 q_.2.2.2.2.2.2.2.2) ∧ ((q_.1 : Int) ≤ if 5 < (if 0 > x3 then 0 else x3) then 5 else (if 0 > x3 then 0 else x3)) ∧ (-9223372036854775808 ≤ q_.2.1.queue.most ∧ q_.2.1.queue.most < 9223372036854775808) ∧ (RS EAsk q_.2.2.2.2.2.2.2.2 q_.2.2.1 q_.2.2.2.1 q_.2.1.queue.wait) ∧ (-9223372036854775808 ≤ q_.2.1.batch ∧ q_.2.1.batch < 9223372036854775808) ∧ (-9223372036854775808 ≤ q_.2.1.every ∧ q_.2.1.every < 9223372036854775808) ∧ (-9223372036854775808 ≤ q_.2.1.now ∧ q_.2.1.now < 9223372036854775808) ∧ (RS EHead q_.2.2.2.2.2.2.2.2 q_.2.2.2.2.1 q_.2.2.2.2.2.1 q_.2.1.heads) ∧ (RS ESlEnt q_.2.2.2.2.2.2.2.2 q_.2.2.2.2.2.2.1 q_.2.2.2.2.2.2.2.1 q_.2.1.books) ∧ (Right c q_.2.1)) (fun q_ => [(2, Sl (At b7 o3) ticks.length c_ticks), (3, Pt b1 0), (7, I (((c.heads.length : Nat) : Int))), (8, Pt b2 0), (29, Sl (At b3 o1) l.length c_l), (30, I (((l.length : Nat) : Int))), (31, I ((i : Int))), (57, I (if 5 < (if 0 > x3 then 0 else x3) then 5 else (if 0 > x3 then 0 else x3))), (58, I ((q_.1 : Int)))]) (fun q_ => q_.2.2.2.2.2.2.2.2) (fun q_ => [[Sg b6 0 [I (((clerkAsk kx x1).1).queue.most), Sl a7 ((((clerkAsk kx x1).1).queue.wait).length) c7, I (((clerkAsk kx x1).1).batch), I (((clerkAsk kx x1).1).every), I (((clerkAsk kx x1).1).now), Sl a8 ((((clerkAsk kx x1).1).heads).length) c8, Sl a9 ((((clerkAsk kx x1).1).books).length) c9]], [Sg b4 0 [Sr x1.name, Sr x1.value, U x1.n, U x1.tag]], [Sg b2 0 [I c.queue.most, Sl a1 c.queue.wait.length c1, I c.batch, I c.every, I c.now, Sl a2 c.heads.length c2, Sl a3 c.books.length c3]], [Sg b1 0 [I q_.2.1.queue.most, Sl q_.2.2.1 q_.2.1.queue.wait.length q_.2.2.2.1, I q_.2.1.batch, I q_.2.1.every, I q_.2.1.now, Sl q_.2.2.2.2.1 q_.2.1.heads.length q_.2.2.2.2.2.1, Sl q_.2.2.2.2.2.2.1 q_.2.1.books.length q_.2.2.2.2.2.2.2.1]]]) (fun q_ => 5 - q_.1) ((0, ((clerkAsk kx x1).1), a7, c7, a8, c8, a9, c9, G3)) ⟨(Mem.le_refl _), (by (try dsimp only); first | exact Nat.zero_le _ | omega | (simp; done) | (repeat' split <;> omega)), w9, hs7, w10, w11, w12, hs8, hs9, (by (try dsimp only); first | exact right_refl (by assumption) | exact hI | exact hJ | exact right_ask hI (by assumption) | exact right_tick hJ)⟩ (fun q_ hs => ?_)
            obtain ⟨j, ky, aky0, cky0, aky1, cky1, aky2, cky2, g1_⟩ := q_
            obtain ⟨hle1_, hi, hky0, hky1, hky2, hky3, hky4, hky5, hky6, hJ⟩ := hs
            dsimp only at hle1_ hi hky0 hky1 hky2 hky3 hky4 hky5 hky6 hJ
            refine tc_eq (fr' := [(2, Sl (At b7 o3) ticks.length c_ticks), (3, Pt b1 0), (7, I (((c.heads.length : Nat) : Int))), (8, Pt b2 0), (29, Sl (At b3 o1) l.length c_l), (30, I (((l.length : Nat) : Int))), (31, I ((i : Int))), (57, I (if 5 < (if 0 > x3 then 0 else x3) then 5 else (if 0 > x3 then 0 else x3))), (58, I ((j : Int)))]) (L' := [[Sg b6 0 [I (((clerkAsk kx x1).1).queue.most), Sl a7 ((((clerkAsk kx x1).1).queue.wait).length) c7, I (((clerkAsk kx x1).1).batch), I (((clerkAsk kx x1).1).every), I (((clerkAsk kx x1).1).now), Sl a8 ((((clerkAsk kx x1).1).heads).length) c8, Sl a9 ((((clerkAsk kx x1).1).books).length) c9]], [Sg b4 0 [Sr x1.name, Sr x1.value, U x1.n, U x1.tag]], [Sg b2 0 [I c.queue.most, Sl a1 c.queue.wait.length c1, I c.batch, I c.every, I c.now, Sl a2 c.heads.length c2, Sl a3 c.books.length c3]], [Sg b1 0 [I ky.queue.most, Sl aky0 ky.queue.wait.length cky0, I ky.batch, I ky.every, I ky.now, Sl aky1 ky.heads.length cky1, Sl aky2 ky.books.length cky2]]]) rfl rfl ?_
            refine tc_rb [0] [(2, Sl (At b7 o3) ticks.length c_ticks), (3, Pt b1 0), (7, I (((c.heads.length : Nat) : Int))), (8, Pt b2 0), (29, Sl (At b3 o1) l.length c_l), (30, I (((l.length : Nat) : Int))), (31, I ((i : Int))), (57, I (if 5 < (if 0 > x3 then 0 else x3) then 5 else (if 0 > x3 then 0 else x3))), (58, I ((j : Int))), (59, Bo (decide ((j : Int) < (if 5 < (if 0 > x3 then 0 else x3) then 5 else (if 0 > x3 then 0 else x3)))))] ?_
            refine tc_seq ?_
            refine tc_cond (decide ((j : Int) < (if 5 < (if 0 > x3 then 0 else x3) then 5 else (if 0 > x3 then 0 else x3)))) (fun h12 => ?_) (fun h12 => ?_)
            ·
              try simp only [decide_eq_true_eq, decide_eq_false_iff_not, Bool.and_eq_true, Bool.or_eq_true, Bool.and_eq_false_imp, Bool.or_eq_false_iff, Bool.not_eq_true', Bool.not_eq_false', Bool.not_eq_true, Bool.not_eq_false, beq_iff_eq, beq_eq_false_iff_ne, bne_iff_ne, ne_eq, Decidable.not_not, Int.not_lt, Int.not_le] at h12
              refine tc_skip ?_
              refine tq_then ?_
              refine tc_seq ?_
              refine tc_block ?_
              refine tc_seq ?_
              refine tc_region ?_
              refine runL_b [8] [(2, Sl (At b7 o3) ticks.length c_ticks), (3, Pt b1 0), (7, I (((c.heads.length : Nat) : Int))), (8, Pt b2 0), (29, Sl (At b3 o1) l.length c_l), (30, I (((l.length : Nat) : Int))), (31, I ((i : Int))), (57, I (if 5 < (if 0 > x3 then 0 else x3) then 5 else (if 0 > x3 then 0 else x3))), (58, I ((j : Int))), (61, .agg #[I ky.queue.most, Sl aky0 ky.queue.wait.length cky0, I ky.batch, I ky.every, I ky.now, Sl aky1 ky.heads.length cky1, Sl aky2 ky.books.length cky2])] ?_
              refine runL_callR 62 (clerkTick_con g1_ [I ky.queue.most, Sl aky0 ky.queue.wait.length cky0, I ky.batch, I ky.every, I ky.now, Sl aky1 ky.heads.length cky1, Sl aky2 ky.books.length cky2] ky (⟨aky0, cky0, aky1, cky1, aky2, cky2, rfl, hky0, hky1, hky2, hky3, hky4, hky5, hky6⟩)) (fun v G4 L1 hl4 hp => ?_)
              obtain ⟨a10, c10, a11, c11, a12, c12, rfl, w15, hs10, w16, w17, w18, hs11, hs12, rfl⟩ := hp
              refine runL_b [0,0,0,0] [(2, Sl (At b7 o3) ticks.length c_ticks), (3, Pt b1 0), (7, I (((c.heads.length : Nat) : Int))), (8, Pt b2 0), (29, Sl (At b3 o1) l.length c_l), (30, I (((l.length : Nat) : Int))), (31, I ((i : Int))), (57, I (if 5 < (if 0 > x3 then 0 else x3) then 5 else (if 0 > x3 then 0 else x3))), (58, I ((j : Int))), (63, .agg #[I (((clerkTick ky).1).queue.most), Sl a10 ((((clerkTick ky).1).queue.wait).length) c10, I (((clerkTick ky).1).batch), I (((clerkTick ky).1).every), I (((clerkTick ky).1).now), Sl a11 ((((clerkTick ky).1).heads).length) c11, Sl a12 ((((clerkTick ky).1).books).length) c12]), (64, Bo ((clerkTick ky).2.1)), (65, I ((clerkTick ky).2.2))] ?_
              refine runL_box 14 #[I 0, Sl none 0 0, I 0, I 0, I 0, Sl none 0 0, Sl none 0 0] 28 (fun b8 => ?_)
              refine runL_bs [3,0,0] [(2, Sl (At b7 o3) ticks.length c_ticks), (3, Pt b1 0), (7, I (((c.heads.length : Nat) : Int))), (8, Pt b2 0), (14, Pt b8 0), (16, I ((clerkTick ky).2.2)), (29, Sl (At b3 o1) l.length c_l), (30, I (((l.length : Nat) : Int))), (31, I ((i : Int))), (57, I (if 5 < (if 0 > x3 then 0 else x3) then 5 else (if 0 > x3 then 0 else x3))), (58, I ((j : Int)))] [[Sg b8 0 [I (((clerkTick ky).1).queue.most), Sl a10 ((((clerkTick ky).1).queue.wait).length) c10, I (((clerkTick ky).1).batch), I (((clerkTick ky).1).every), I (((clerkTick ky).1).now), Sl a11 ((((clerkTick ky).1).heads).length) c11, Sl a12 ((((clerkTick ky).1).books).length) c12]], [Sg b6 0 [I (((clerkAsk kx x1).1).queue.most), Sl a7 ((((clerkAsk kx x1).1).queue.wait).length) c7, I (((clerkAsk kx x1).1).batch), I (((clerkAsk kx x1).1).every), I (((clerkAsk kx x1).1).now), Sl a8 ((((clerkAsk kx x1).1).heads).length) c8, Sl a9 ((((clerkAsk kx x1).1).books).length) c9]], [Sg b4 0 [Sr x1.name, Sr x1.value, U x1.n, U x1.tag]], [Sg b2 0 [I c.queue.most, Sl a1 c.queue.wait.length c1, I c.batch, I c.every, I c.now, Sl a2 c.heads.length c2, Sl a3 c.books.length c3]], [Sg b1 0 [I ky.queue.most, Sl aky0 ky.queue.wait.length cky0, I ky.batch, I ky.every, I ky.now, Sl aky1 ky.heads.length cky1, Sl aky2 ky.books.length cky2]]] ?_
              refine runL_nil ?_
              refine tq_then ?_
              refine tc_seq ?_
              refine tc_rb [0,0] [(2, Sl (At b7 o3) ticks.length c_ticks), (3, Pt b1 0), (7, I (((c.heads.length : Nat) : Int))), (8, Pt b2 0), (14, Pt b8 0), (29, Sl (At b3 o1) l.length c_l), (30, I (((l.length : Nat) : Int))), (31, I ((i : Int))), (57, I (if 5 < (if 0 > x3 then 0 else x3) then 5 else (if 0 > x3 then 0 else x3))), (58, I ((j : Int))), (67, Bo (!decide ((clerkTick ky).2.2 = 0)))] ?_
              refine tc_cond (!decide ((clerkTick ky).2.2 = 0)) (fun h13 => ?_) (fun h13 => ?_)
              ·
                try simp only [decide_eq_true_eq, decide_eq_false_iff_not, Bool.and_eq_true, Bool.or_eq_true, Bool.and_eq_false_imp, Bool.or_eq_false_iff, Bool.not_eq_true', Bool.not_eq_false', Bool.not_eq_true, Bool.not_eq_false, beq_iff_eq, beq_eq_false_iff_ne, bne_iff_ne, ne_eq, Decidable.not_not, Int.not_lt, Int.not_le] at h13
                refine tc_rb [0] [(6, Bo false)] ?_
                refine tc_ret ?_
                refine tq_then_ret ?_
                refine tq_block_ret ?_
                refine tq_then_ret ?_
                refine tq_rnd_ret ?_
                refine tq_block_ret ?_
                refine tq_block_ret ?_
                refine tq_then_ret ?_
                refine tq_rnd_ret ?_
                refine tq_block_ret ?_
                refine tq_then_ret ?_
                refine tq_ret [0] [Bo false] (bp_ret (Mem.le_trans (Mem.le_trans (Mem.le_trans hle hl3) hle1_) hl4) ?_)
                exfalso
                first | rfl | (exact absurd (right_tick0 hJ) (by assumption)) | (have q_ := right_end hI; obtain ⟨q1_, q2_, q3_, q4_, q5_⟩ := q_; have q6_ := hI.ok.chain.len; have q7_ := ((clerkCheck_iff (c := c)).1 (by assumption)).len; (try simp only [Nat.sub_zero] at *); first | (have q8_ := right_bookL (k := k) hI (by omega); first | exact absurd q8_.1 (by assumption) | (have q9_ := q8_.2 _ (by assumption); simp_all; done)) | (simp_all; done) | (exfalso; simp_all; omega))
              ·
                try simp only [decide_eq_true_eq, decide_eq_false_iff_not, Bool.and_eq_true, Bool.or_eq_true, Bool.and_eq_false_imp, Bool.or_eq_false_iff, Bool.not_eq_true', Bool.not_eq_false', Bool.not_eq_true, Bool.not_eq_false, beq_iff_eq, beq_eq_false_iff_ne, bne_iff_ne, ne_eq, Decidable.not_not, Int.not_lt, Int.not_le] at h13
                refine tc_skip ?_
                refine tq_then ?_
                refine tc_region ?_
                refine runL_bs [2,11] [(2, Sl (At b7 o3) ticks.length c_ticks), (3, Pt b1 0), (7, I (((c.heads.length : Nat) : Int))), (8, Pt b2 0), (29, Sl (At b3 o1) l.length c_l), (30, I (((l.length : Nat) : Int))), (31, I ((i : Int))), (57, I (if 5 < (if 0 > x3 then 0 else x3) then 5 else (if 0 > x3 then 0 else x3))), (58, I ((j : Int)))] [[Sg b8 0 [I (((clerkTick ky).1).queue.most), Sl a10 ((((clerkTick ky).1).queue.wait).length) c10, I (((clerkTick ky).1).batch), I (((clerkTick ky).1).every), I (((clerkTick ky).1).now), Sl a11 ((((clerkTick ky).1).heads).length) c11, Sl a12 ((((clerkTick ky).1).books).length) c12]], [Sg b6 0 [I (((clerkAsk kx x1).1).queue.most), Sl a7 ((((clerkAsk kx x1).1).queue.wait).length) c7, I (((clerkAsk kx x1).1).batch), I (((clerkAsk kx x1).1).every), I (((clerkAsk kx x1).1).now), Sl a8 ((((clerkAsk kx x1).1).heads).length) c8, Sl a9 ((((clerkAsk kx x1).1).books).length) c9]], [Sg b4 0 [Sr x1.name, Sr x1.value, U x1.n, U x1.tag]], [Sg b2 0 [I c.queue.most, Sl a1 c.queue.wait.length c1, I c.batch, I c.every, I c.now, Sl a2 c.heads.length c2, Sl a3 c.books.length c3]], [Sg b1 0 [I (((clerkTick ky).1).queue.most), Sl a10 ((((clerkTick ky).1).queue.wait).length) c10, I (((clerkTick ky).1).batch), I (((clerkTick ky).1).every), I (((clerkTick ky).1).now), Sl a11 ((((clerkTick ky).1).heads).length) c11, Sl a12 ((((clerkTick ky).1).books).length) c12]]] ?_
                refine runL_nil ?_
                refine tq_block ?_
                refine tq_then ?_
                refine tc_region ?_
                refine runL_b [0,0] [(2, Sl (At b7 o3) ticks.length c_ticks), (3, Pt b1 0), (7, I (((c.heads.length : Nat) : Int))), (8, Pt b2 0), (29, Sl (At b3 o1) l.length c_l), (30, I (((l.length : Nat) : Int))), (31, I ((i : Int))), (57, I (if 5 < (if 0 > x3 then 0 else x3) then 5 else (if 0 > x3 then 0 else x3))), (58, I (IntKind.i64.wrap (((j : Int)) + 1)))] ?_
                have e2 : IntKind.i64.wrap (((j : Int)) + 1) = ((j : Int)) + 1 := IntWalk.i64_in _ (by first | omega | (have q_ := right_end hI; obtain ⟨q1_, q2_, q3_, q4_, q5_⟩ := q_; have q6_ := hI.ok.chain.len; have q7_ := ((clerkCheck_iff (c := c)).1 (by assumption)).len; (try simp only [Nat.sub_zero] at *); omega))
                refine runL_eq (fr' := [(2, Sl (At b7 o3) ticks.length c_ticks), (3, Pt b1 0), (7, I (((c.heads.length : Nat) : Int))), (8, Pt b2 0), (29, Sl (At b3 o1) l.length c_l), (30, I (((l.length : Nat) : Int))), (31, I ((i : Int))), (57, I (if 5 < (if 0 > x3 then 0 else x3) then 5 else (if 0 > x3 then 0 else x3))), (58, I (((j : Int)) + 1))]) (L' := [[Sg b8 0 [I (((clerkTick ky).1).queue.most), Sl a10 ((((clerkTick ky).1).queue.wait).length) c10, I (((clerkTick ky).1).batch), I (((clerkTick ky).1).every), I (((clerkTick ky).1).now), Sl a11 ((((clerkTick ky).1).heads).length) c11, Sl a12 ((((clerkTick ky).1).books).length) c12]], [Sg b6 0 [I (((clerkAsk kx x1).1).queue.most), Sl a7 ((((clerkAsk kx x1).1).queue.wait).length) c7, I (((clerkAsk kx x1).1).batch), I (((clerkAsk kx x1).1).every), I (((clerkAsk kx x1).1).now), Sl a8 ((((clerkAsk kx x1).1).heads).length) c8, Sl a9 ((((clerkAsk kx x1).1).books).length) c9]], [Sg b4 0 [Sr x1.name, Sr x1.value, U x1.n, U x1.tag]], [Sg b2 0 [I c.queue.most, Sl a1 c.queue.wait.length c1, I c.batch, I c.every, I c.now, Sl a2 c.heads.length c2, Sl a3 c.books.length c3]], [Sg b1 0 [I (((clerkTick ky).1).queue.most), Sl a10 ((((clerkTick ky).1).queue.wait).length) c10, I (((clerkTick ky).1).batch), I (((clerkTick ky).1).every), I (((clerkTick ky).1).now), Sl a11 ((((clerkTick ky).1).heads).length) c11, Sl a12 ((((clerkTick ky).1).books).length) c12]]]) (by simp only [e2]) (by rfl) ?_
                clear e2
                refine runL_nil ?_
                refine tq_owns [[Sg b6 0 [I (((clerkAsk kx x1).1).queue.most), Sl a7 ((((clerkAsk kx x1).1).queue.wait).length) c7, I (((clerkAsk kx x1).1).batch), I (((clerkAsk kx x1).1).every), I (((clerkAsk kx x1).1).now), Sl a8 ((((clerkAsk kx x1).1).heads).length) c8, Sl a9 ((((clerkAsk kx x1).1).books).length) c9]], [Sg b4 0 [Sr x1.name, Sr x1.value, U x1.n, U x1.tag]], [Sg b2 0 [I c.queue.most, Sl a1 c.queue.wait.length c1, I c.batch, I c.every, I c.now, Sl a2 c.heads.length c2, Sl a3 c.books.length c3]], [Sg b1 0 [I (((clerkTick ky).1).queue.most), Sl a10 ((((clerkTick ky).1).queue.wait).length) c10, I (((clerkTick ky).1).batch), I (((clerkTick ky).1).every), I (((clerkTick ky).1).now), Sl a11 ((((clerkTick ky).1).heads).length) c11, Sl a12 ((((clerkTick ky).1).books).length) c12]]] ((.cons _ (.cons_cons _ (.cons_cons _ (.cons_cons _ (.cons_cons _ .slnil)))))) ?_
                exact tq_rnd ((j + 1, ((clerkTick ky).1), a10, c10, a11, c11, a12, c12, G4)) ⟨(Mem.le_trans hle1_ hl4), (by omega), (by first | assumption | omega | (simp; done) | (simp; omega)), hs10, (by first | assumption | omega | (simp; done) | (simp; omega)), (by first | assumption | omega | (simp; done) | (simp; omega)), (by first | assumption | omega | (simp; done) | (simp; omega)), hs11, hs12, (by (try dsimp only); first | exact right_refl (by assumption) | exact hI | exact hJ | exact right_ask hI (by assumption) | exact right_tick hJ)⟩ (by (try dsimp only); omega)
            ·
              try simp only [decide_eq_true_eq, decide_eq_false_iff_not, Bool.and_eq_true, Bool.or_eq_true, Bool.and_eq_false_imp, Bool.or_eq_false_iff, Bool.not_eq_true', Bool.not_eq_false', Bool.not_eq_true, Bool.not_eq_false, beq_iff_eq, beq_eq_false_iff_ne, bne_iff_ne, ne_eq, Decidable.not_not, Int.not_lt, Int.not_le] at h12
              refine tc_exit ?_
              refine tq_then_exit ?_
              refine tq_rnd_exit ?_
              refine tq_block_here ?_
              refine tq_block ?_
              refine tq_then ?_
              refine tc_region ?_
              refine runL_b [0,0] [(2, Sl (At b7 o3) ticks.length c_ticks), (3, Pt b1 0), (7, I (((c.heads.length : Nat) : Int))), (8, Pt b2 0), (29, Sl (At b3 o1) l.length c_l), (30, I (((l.length : Nat) : Int))), (31, I (IntKind.i64.wrap (((i : Int)) + 1)))] ?_
              have e3 : IntKind.i64.wrap (((i : Int)) + 1) = ((i : Int)) + 1 := IntWalk.i64_in _ (by first | omega | (have q_ := right_end hI; obtain ⟨q1_, q2_, q3_, q4_, q5_⟩ := q_; have q6_ := hI.ok.chain.len; have q7_ := ((clerkCheck_iff (c := c)).1 (by assumption)).len; (try simp only [Nat.sub_zero] at *); omega))
              refine runL_eq (fr' := [(2, Sl (At b7 o3) ticks.length c_ticks), (3, Pt b1 0), (7, I (((c.heads.length : Nat) : Int))), (8, Pt b2 0), (29, Sl (At b3 o1) l.length c_l), (30, I (((l.length : Nat) : Int))), (31, I (((i : Int)) + 1))]) (L' := [[Sg b6 0 [I (((clerkAsk kx x1).1).queue.most), Sl a7 ((((clerkAsk kx x1).1).queue.wait).length) c7, I (((clerkAsk kx x1).1).batch), I (((clerkAsk kx x1).1).every), I (((clerkAsk kx x1).1).now), Sl a8 ((((clerkAsk kx x1).1).heads).length) c8, Sl a9 ((((clerkAsk kx x1).1).books).length) c9]], [Sg b4 0 [Sr x1.name, Sr x1.value, U x1.n, U x1.tag]], [Sg b2 0 [I c.queue.most, Sl a1 c.queue.wait.length c1, I c.batch, I c.every, I c.now, Sl a2 c.heads.length c2, Sl a3 c.books.length c3]], [Sg b1 0 [I ky.queue.most, Sl aky0 ky.queue.wait.length cky0, I ky.batch, I ky.every, I ky.now, Sl aky1 ky.heads.length cky1, Sl aky2 ky.books.length cky2]]]) (by simp only [e3]) (by rfl) ?_
              clear e3
              refine runL_nil ?_
              refine tq_owns [[Sg b2 0 [I c.queue.most, Sl a1 c.queue.wait.length c1, I c.batch, I c.every, I c.now, Sl a2 c.heads.length c2, Sl a3 c.books.length c3]], [Sg b1 0 [I ky.queue.most, Sl aky0 ky.queue.wait.length cky0, I ky.batch, I ky.every, I ky.now, Sl aky1 ky.heads.length cky1, Sl aky2 ky.books.length cky2]]] ((.cons _ (.cons _ (.cons_cons _ (.cons_cons _ .slnil))))) ?_
              exact tq_rnd ((i + 1, ky, aky0, cky0, aky1, cky1, aky2, cky2, g1_)) ⟨(Mem.le_trans hle (Mem.le_trans hl3 hle1_)), (by omega), (by first | assumption | omega | (simp; done) | (simp; omega)), hky1, (by first | assumption | omega | (simp; done) | (simp; omega)), (by first | assumption | omega | (simp; done) | (simp; omega)), (by first | assumption | omega | (simp; done) | (simp; omega)), hky5, hky6, (by (try dsimp only); first | exact right_refl (by assumption) | exact hI | exact hJ | exact right_ask hI (by assumption) | exact right_tick hJ)⟩ (by (try dsimp only); omega)
          ·
            try simp only [decide_eq_true_eq, decide_eq_false_iff_not, Bool.and_eq_true, Bool.or_eq_true, Bool.and_eq_false_imp, Bool.or_eq_false_iff, Bool.not_eq_true', Bool.not_eq_false', Bool.not_eq_true, Bool.not_eq_false, beq_iff_eq, beq_eq_false_iff_ne, bne_iff_ne, ne_eq, Decidable.not_not, Int.not_lt, Int.not_le] at h11
            refine tc_skip ?_
            refine tq_block ?_
            refine tq_then ?_
            refine tc_region ?_
            refine runL_b [0,0] [(2, Sl a_ticks ticks.length c_ticks), (3, Pt b1 0), (7, I (((c.heads.length : Nat) : Int))), (8, Pt b2 0), (29, Sl (At b3 o1) l.length c_l), (30, I (((l.length : Nat) : Int))), (31, I (IntKind.i64.wrap (((i : Int)) + 1)))] ?_
            have e4 : IntKind.i64.wrap (((i : Int)) + 1) = ((i : Int)) + 1 := IntWalk.i64_in _ (by first | omega | (have q_ := right_end hI; obtain ⟨q1_, q2_, q3_, q4_, q5_⟩ := q_; have q6_ := hI.ok.chain.len; have q7_ := ((clerkCheck_iff (c := c)).1 (by assumption)).len; (try simp only [Nat.sub_zero] at *); omega))
            refine runL_eq (fr' := [(2, Sl a_ticks ticks.length c_ticks), (3, Pt b1 0), (7, I (((c.heads.length : Nat) : Int))), (8, Pt b2 0), (29, Sl (At b3 o1) l.length c_l), (30, I (((l.length : Nat) : Int))), (31, I (((i : Int)) + 1))]) (L' := [[Sg b6 0 [I (((clerkAsk kx x1).1).queue.most), Sl a7 ((((clerkAsk kx x1).1).queue.wait).length) c7, I (((clerkAsk kx x1).1).batch), I (((clerkAsk kx x1).1).every), I (((clerkAsk kx x1).1).now), Sl a8 ((((clerkAsk kx x1).1).heads).length) c8, Sl a9 ((((clerkAsk kx x1).1).books).length) c9]], [Sg b4 0 [Sr x1.name, Sr x1.value, U x1.n, U x1.tag]], [Sg b2 0 [I c.queue.most, Sl a1 c.queue.wait.length c1, I c.batch, I c.every, I c.now, Sl a2 c.heads.length c2, Sl a3 c.books.length c3]], [Sg b1 0 [I (((clerkAsk kx x1).1).queue.most), Sl a7 ((((clerkAsk kx x1).1).queue.wait).length) c7, I (((clerkAsk kx x1).1).batch), I (((clerkAsk kx x1).1).every), I (((clerkAsk kx x1).1).now), Sl a8 ((((clerkAsk kx x1).1).heads).length) c8, Sl a9 ((((clerkAsk kx x1).1).books).length) c9]]]) (by simp only [e4]) (by rfl) ?_
            clear e4
            refine runL_nil ?_
            refine tq_owns [[Sg b2 0 [I c.queue.most, Sl a1 c.queue.wait.length c1, I c.batch, I c.every, I c.now, Sl a2 c.heads.length c2, Sl a3 c.books.length c3]], [Sg b1 0 [I (((clerkAsk kx x1).1).queue.most), Sl a7 ((((clerkAsk kx x1).1).queue.wait).length) c7, I (((clerkAsk kx x1).1).batch), I (((clerkAsk kx x1).1).every), I (((clerkAsk kx x1).1).now), Sl a8 ((((clerkAsk kx x1).1).heads).length) c8, Sl a9 ((((clerkAsk kx x1).1).books).length) c9]]] ((.cons _ (.cons _ (.cons_cons _ (.cons_cons _ .slnil))))) ?_
            exact tq_rnd ((i + 1, ((clerkAsk kx x1).1), a7, c7, a8, c8, a9, c9, G3)) ⟨(Mem.le_trans hle hl3), (by omega), (by first | assumption | omega | (simp; done) | (simp; omega)), hs7, (by first | assumption | omega | (simp; done) | (simp; omega)), (by first | assumption | omega | (simp; done) | (simp; omega)), (by first | assumption | omega | (simp; done) | (simp; omega)), hs8, hs9, (by (try dsimp only); first | exact right_refl (by assumption) | exact hI | exact hJ | exact right_ask hI (by assumption) | exact right_tick hJ)⟩ (by (try dsimp only); omega)
        ·
          try simp only [decide_eq_true_eq, decide_eq_false_iff_not, Bool.and_eq_true, Bool.or_eq_true, Bool.and_eq_false_imp, Bool.or_eq_false_iff, Bool.not_eq_true', Bool.not_eq_false', Bool.not_eq_true, Bool.not_eq_false, beq_iff_eq, beq_eq_false_iff_ne, bne_iff_ne, ne_eq, Decidable.not_not, Int.not_lt, Int.not_le] at h10
          refine tc_skip ?_
          refine tq_then ?_
          refine tc_rb [0,0,0,0] [(2, Sl a_ticks ticks.length c_ticks), (3, Pt b1 0), (7, I (((c.heads.length : Nat) : Int))), (8, Pt b2 0), (9, I ((i : Int))), (29, Sl (At b3 o1) l.length c_l), (30, I (((l.length : Nat) : Int))), (31, I ((i : Int))), (51, Bo (decide ((i : Int) < ((ticks.length : Nat) : Int))))] ?_
          refine tc_cond (decide ((i : Int) < ((ticks.length : Nat) : Int))) (fun h14 => ?_) (fun h14 => ?_)
          ·
            try simp only [decide_eq_true_eq, decide_eq_false_iff_not, Bool.and_eq_true, Bool.or_eq_true, Bool.and_eq_false_imp, Bool.or_eq_false_iff, Bool.not_eq_true', Bool.not_eq_false', Bool.not_eq_true, Bool.not_eq_false, beq_iff_eq, beq_eq_false_iff_ne, bne_iff_ne, ne_eq, Decidable.not_not, Int.not_lt, Int.not_le] at h14
            refine tc_seq ?_
            refine tc_region ?_
            refine runL_b [0,0] [(2, Sl a_ticks ticks.length c_ticks), (3, Pt b1 0), (7, I (((c.heads.length : Nat) : Int))), (8, Pt b2 0), (29, Sl (At b3 o1) l.length c_l), (30, I (((l.length : Nat) : Int))), (31, I ((i : Int))), (52, Sl a_ticks ticks.length c_ticks), (53, I ((i : Int)))] ?_
            obtain ⟨b9, o4, rfl⟩ := RS.addr (h_ticks.mono (Mem.le_trans hle hl3)) (k := i) (by first | omega | (have q_ := right_end hI; obtain ⟨q1_, q2_, q3_, q4_, q5_⟩ := q_; have q6_ := hI.ok.chain.len; have q7_ := ((clerkCheck_iff (c := c)).1 (by assumption)).len; (try simp only [Nat.sub_zero] at *); omega))
            obtain ⟨x4, hx4⟩ := getX (l := ticks) (k := i) (by first | omega | (have q_ := right_end hI; obtain ⟨q1_, q2_, q3_, q4_, q5_⟩ := q_; have q6_ := hI.ok.chain.len; have q7_ := ((clerkCheck_iff (c := c)).1 (by assumption)).len; (try simp only [Nat.sub_zero] at *); omega))
            obtain ⟨_, ⟨rfl, w19⟩, hc4⟩ := RS.get (h_ticks.mono (Mem.le_trans hle hl3)) hx4
            refine runL_idx (b := b9) (off := o4) (len := ticks.length) (cap := c_ticks) (ik := .i64) 54 3 1 i (by first | omega | (have q_ := right_end hI; obtain ⟨q1_, q2_, q3_, q4_, q5_⟩ := q_; have q6_ := hI.ok.chain.len; have q7_ := ((clerkCheck_iff (c := c)).1 (by assumption)).len; (try simp only [Nat.sub_zero] at *); omega)) ?_
            refine runL_ldG 55 3 (cs := [I x4]) 0 (I x4) hc4 ?_
            refine runL_b [0,0,0] [(2, Sl (At b9 o4) ticks.length c_ticks), (3, Pt b1 0), (7, I (((c.heads.length : Nat) : Int))), (8, Pt b2 0), (29, Sl (At b3 o1) l.length c_l), (30, I (((l.length : Nat) : Int))), (31, I ((i : Int))), (57, I (if 5 < (if 0 > x4 then 0 else x4) then 5 else (if 0 > x4 then 0 else x4))), (58, I 0)] ?_
            refine runL_nil ?_
            refine tq_then ?_
            refine tc_block ?_
            have hlm_h_ticks : ticks.length ≤ 9223372036854775807 := Nat.le_trans (h_ticks).le (h_ticks).max
            have hlm_h_l : l.length ≤ 9223372036854775807 := Nat.le_trans (h_l).le (h_l).max
            refine tc_loop (σ := Nat × ClerkD × Option Addr × Nat × Option Addr × Nat × Option Addr × Nat × Mem) (fun q_ => (Mem.le G3 q_.2.2.2.2.2.2.2.2) ∧ ((q_.1 : Int) ≤ if 5 < (if 0 > x4 then 0 else x4) then 5 else (if 0 > x4 then 0 else x4)) ∧ (-9223372036854775808 ≤ q_.2.1.queue.most ∧ q_.2.1.queue.most < 9223372036854775808) ∧ (RS EAsk q_.2.2.2.2.2.2.2.2 q_.2.2.1 q_.2.2.2.1 q_.2.1.queue.wait) ∧ (-9223372036854775808 ≤ q_.2.1.batch ∧ q_.2.1.batch < 9223372036854775808) ∧ (-9223372036854775808 ≤ q_.2.1.every ∧ q_.2.1.every < 9223372036854775808) ∧ (-9223372036854775808 ≤ q_.2.1.now ∧ q_.2.1.now < 9223372036854775808) ∧ (RS EHead q_.2.2.2.2.2.2.2.2 q_.2.2.2.2.1 q_.2.2.2.2.2.1 q_.2.1.heads) ∧ (RS ESlEnt q_.2.2.2.2.2.2.2.2 q_.2.2.2.2.2.2.1 q_.2.2.2.2.2.2.2.1 q_.2.1.books) ∧ (Right c q_.2.1)) (fun q_ => [(2, Sl (At b9 o4) ticks.length c_ticks), (3, Pt b1 0), (7, I (((c.heads.length : Nat) : Int))), (8, Pt b2 0), (29, Sl (At b3 o1) l.length c_l), (30, I (((l.length : Nat) : Int))), (31, I ((i : Int))), (57, I (if 5 < (if 0 > x4 then 0 else x4) then 5 else (if 0 > x4 then 0 else x4))), (58, I ((q_.1 : Int)))]) (fun q_ => q_.2.2.2.2.2.2.2.2) (fun q_ => [[Sg b6 0 [I (((clerkAsk kx x1).1).queue.most), Sl a7 ((((clerkAsk kx x1).1).queue.wait).length) c7, I (((clerkAsk kx x1).1).batch), I (((clerkAsk kx x1).1).every), I (((clerkAsk kx x1).1).now), Sl a8 ((((clerkAsk kx x1).1).heads).length) c8, Sl a9 ((((clerkAsk kx x1).1).books).length) c9]], [Sg b4 0 [Sr x1.name, Sr x1.value, U x1.n, U x1.tag]], [Sg b2 0 [I c.queue.most, Sl a1 c.queue.wait.length c1, I c.batch, I c.every, I c.now, Sl a2 c.heads.length c2, Sl a3 c.books.length c3]], [Sg b1 0 [I q_.2.1.queue.most, Sl q_.2.2.1 q_.2.1.queue.wait.length q_.2.2.2.1, I q_.2.1.batch, I q_.2.1.every, I q_.2.1.now, Sl q_.2.2.2.2.1 q_.2.1.heads.length q_.2.2.2.2.2.1, Sl q_.2.2.2.2.2.2.1 q_.2.1.books.length q_.2.2.2.2.2.2.2.1]]]) (fun q_ => 5 - q_.1) ((0, kx, akx0, ckx0, akx1, ckx1, akx2, ckx2, G3)) ⟨(Mem.le_refl _), (by (try dsimp only); first | exact Nat.zero_le _ | omega | (simp; done) | (repeat' split <;> omega)), hkx0, (hkx1.mono hl3), hkx2, hkx3, hkx4, (hkx5.mono hl3), (hkx6.mono hl3), (by (try dsimp only); first | exact right_refl (by assumption) | exact hI | exact hJ | exact right_ask hI (by assumption) | exact right_tick hJ)⟩ (fun q_ hs => ?_)
            obtain ⟨j, ky, aky0, cky0, aky1, cky1, aky2, cky2, g1_⟩ := q_
            obtain ⟨hle1_, hi, hky0, hky1, hky2, hky3, hky4, hky5, hky6, hJ⟩ := hs
            dsimp only at hle1_ hi hky0 hky1 hky2 hky3 hky4 hky5 hky6 hJ
            refine tc_eq (fr' := [(2, Sl (At b9 o4) ticks.length c_ticks), (3, Pt b1 0), (7, I (((c.heads.length : Nat) : Int))), (8, Pt b2 0), (29, Sl (At b3 o1) l.length c_l), (30, I (((l.length : Nat) : Int))), (31, I ((i : Int))), (57, I (if 5 < (if 0 > x4 then 0 else x4) then 5 else (if 0 > x4 then 0 else x4))), (58, I ((j : Int)))]) (L' := [[Sg b6 0 [I (((clerkAsk kx x1).1).queue.most), Sl a7 ((((clerkAsk kx x1).1).queue.wait).length) c7, I (((clerkAsk kx x1).1).batch), I (((clerkAsk kx x1).1).every), I (((clerkAsk kx x1).1).now), Sl a8 ((((clerkAsk kx x1).1).heads).length) c8, Sl a9 ((((clerkAsk kx x1).1).books).length) c9]], [Sg b4 0 [Sr x1.name, Sr x1.value, U x1.n, U x1.tag]], [Sg b2 0 [I c.queue.most, Sl a1 c.queue.wait.length c1, I c.batch, I c.every, I c.now, Sl a2 c.heads.length c2, Sl a3 c.books.length c3]], [Sg b1 0 [I ky.queue.most, Sl aky0 ky.queue.wait.length cky0, I ky.batch, I ky.every, I ky.now, Sl aky1 ky.heads.length cky1, Sl aky2 ky.books.length cky2]]]) rfl rfl ?_
            refine tc_rb [0] [(2, Sl (At b9 o4) ticks.length c_ticks), (3, Pt b1 0), (7, I (((c.heads.length : Nat) : Int))), (8, Pt b2 0), (29, Sl (At b3 o1) l.length c_l), (30, I (((l.length : Nat) : Int))), (31, I ((i : Int))), (57, I (if 5 < (if 0 > x4 then 0 else x4) then 5 else (if 0 > x4 then 0 else x4))), (58, I ((j : Int))), (59, Bo (decide ((j : Int) < (if 5 < (if 0 > x4 then 0 else x4) then 5 else (if 0 > x4 then 0 else x4)))))] ?_
            refine tc_seq ?_
            refine tc_cond (decide ((j : Int) < (if 5 < (if 0 > x4 then 0 else x4) then 5 else (if 0 > x4 then 0 else x4)))) (fun h15 => ?_) (fun h15 => ?_)
            ·
              try simp only [decide_eq_true_eq, decide_eq_false_iff_not, Bool.and_eq_true, Bool.or_eq_true, Bool.and_eq_false_imp, Bool.or_eq_false_iff, Bool.not_eq_true', Bool.not_eq_false', Bool.not_eq_true, Bool.not_eq_false, beq_iff_eq, beq_eq_false_iff_ne, bne_iff_ne, ne_eq, Decidable.not_not, Int.not_lt, Int.not_le] at h15
              refine tc_skip ?_
              refine tq_then ?_
              refine tc_seq ?_
              refine tc_block ?_
              refine tc_seq ?_
              refine tc_region ?_
              refine runL_b [8] [(2, Sl (At b9 o4) ticks.length c_ticks), (3, Pt b1 0), (7, I (((c.heads.length : Nat) : Int))), (8, Pt b2 0), (29, Sl (At b3 o1) l.length c_l), (30, I (((l.length : Nat) : Int))), (31, I ((i : Int))), (57, I (if 5 < (if 0 > x4 then 0 else x4) then 5 else (if 0 > x4 then 0 else x4))), (58, I ((j : Int))), (61, .agg #[I ky.queue.most, Sl aky0 ky.queue.wait.length cky0, I ky.batch, I ky.every, I ky.now, Sl aky1 ky.heads.length cky1, Sl aky2 ky.books.length cky2])] ?_
              refine runL_callR 62 (clerkTick_con g1_ [I ky.queue.most, Sl aky0 ky.queue.wait.length cky0, I ky.batch, I ky.every, I ky.now, Sl aky1 ky.heads.length cky1, Sl aky2 ky.books.length cky2] ky (⟨aky0, cky0, aky1, cky1, aky2, cky2, rfl, hky0, hky1, hky2, hky3, hky4, hky5, hky6⟩)) (fun v G5 L1 hl5 hp => ?_)
              obtain ⟨a13, c13, a14, c14, a15, c15, rfl, w20, hs13, w21, w22, w23, hs14, hs15, rfl⟩ := hp
              refine runL_b [0,0,0,0] [(2, Sl (At b9 o4) ticks.length c_ticks), (3, Pt b1 0), (7, I (((c.heads.length : Nat) : Int))), (8, Pt b2 0), (29, Sl (At b3 o1) l.length c_l), (30, I (((l.length : Nat) : Int))), (31, I ((i : Int))), (57, I (if 5 < (if 0 > x4 then 0 else x4) then 5 else (if 0 > x4 then 0 else x4))), (58, I ((j : Int))), (63, .agg #[I (((clerkTick ky).1).queue.most), Sl a13 ((((clerkTick ky).1).queue.wait).length) c13, I (((clerkTick ky).1).batch), I (((clerkTick ky).1).every), I (((clerkTick ky).1).now), Sl a14 ((((clerkTick ky).1).heads).length) c14, Sl a15 ((((clerkTick ky).1).books).length) c15]), (64, Bo ((clerkTick ky).2.1)), (65, I ((clerkTick ky).2.2))] ?_
              refine runL_box 14 #[I 0, Sl none 0 0, I 0, I 0, I 0, Sl none 0 0, Sl none 0 0] 28 (fun b10 => ?_)
              refine runL_bs [3,0,0] [(2, Sl (At b9 o4) ticks.length c_ticks), (3, Pt b1 0), (7, I (((c.heads.length : Nat) : Int))), (8, Pt b2 0), (14, Pt b10 0), (16, I ((clerkTick ky).2.2)), (29, Sl (At b3 o1) l.length c_l), (30, I (((l.length : Nat) : Int))), (31, I ((i : Int))), (57, I (if 5 < (if 0 > x4 then 0 else x4) then 5 else (if 0 > x4 then 0 else x4))), (58, I ((j : Int)))] [[Sg b10 0 [I (((clerkTick ky).1).queue.most), Sl a13 ((((clerkTick ky).1).queue.wait).length) c13, I (((clerkTick ky).1).batch), I (((clerkTick ky).1).every), I (((clerkTick ky).1).now), Sl a14 ((((clerkTick ky).1).heads).length) c14, Sl a15 ((((clerkTick ky).1).books).length) c15]], [Sg b6 0 [I (((clerkAsk kx x1).1).queue.most), Sl a7 ((((clerkAsk kx x1).1).queue.wait).length) c7, I (((clerkAsk kx x1).1).batch), I (((clerkAsk kx x1).1).every), I (((clerkAsk kx x1).1).now), Sl a8 ((((clerkAsk kx x1).1).heads).length) c8, Sl a9 ((((clerkAsk kx x1).1).books).length) c9]], [Sg b4 0 [Sr x1.name, Sr x1.value, U x1.n, U x1.tag]], [Sg b2 0 [I c.queue.most, Sl a1 c.queue.wait.length c1, I c.batch, I c.every, I c.now, Sl a2 c.heads.length c2, Sl a3 c.books.length c3]], [Sg b1 0 [I ky.queue.most, Sl aky0 ky.queue.wait.length cky0, I ky.batch, I ky.every, I ky.now, Sl aky1 ky.heads.length cky1, Sl aky2 ky.books.length cky2]]] ?_
              refine runL_nil ?_
              refine tq_then ?_
              refine tc_seq ?_
              refine tc_rb [0,0] [(2, Sl (At b9 o4) ticks.length c_ticks), (3, Pt b1 0), (7, I (((c.heads.length : Nat) : Int))), (8, Pt b2 0), (14, Pt b10 0), (29, Sl (At b3 o1) l.length c_l), (30, I (((l.length : Nat) : Int))), (31, I ((i : Int))), (57, I (if 5 < (if 0 > x4 then 0 else x4) then 5 else (if 0 > x4 then 0 else x4))), (58, I ((j : Int))), (67, Bo (!decide ((clerkTick ky).2.2 = 0)))] ?_
              refine tc_cond (!decide ((clerkTick ky).2.2 = 0)) (fun h16 => ?_) (fun h16 => ?_)
              ·
                try simp only [decide_eq_true_eq, decide_eq_false_iff_not, Bool.and_eq_true, Bool.or_eq_true, Bool.and_eq_false_imp, Bool.or_eq_false_iff, Bool.not_eq_true', Bool.not_eq_false', Bool.not_eq_true, Bool.not_eq_false, beq_iff_eq, beq_eq_false_iff_ne, bne_iff_ne, ne_eq, Decidable.not_not, Int.not_lt, Int.not_le] at h16
                refine tc_rb [0] [(6, Bo false)] ?_
                refine tc_ret ?_
                refine tq_then_ret ?_
                refine tq_block_ret ?_
                refine tq_then_ret ?_
                refine tq_rnd_ret ?_
                refine tq_block_ret ?_
                refine tq_block_ret ?_
                refine tq_then_ret ?_
                refine tq_rnd_ret ?_
                refine tq_block_ret ?_
                refine tq_then_ret ?_
                refine tq_ret [0] [Bo false] (bp_ret (Mem.le_trans (Mem.le_trans (Mem.le_trans hle hl3) hle1_) hl5) ?_)
                exfalso
                first | rfl | (exact absurd (right_tick0 hJ) (by assumption)) | (have q_ := right_end hI; obtain ⟨q1_, q2_, q3_, q4_, q5_⟩ := q_; have q6_ := hI.ok.chain.len; have q7_ := ((clerkCheck_iff (c := c)).1 (by assumption)).len; (try simp only [Nat.sub_zero] at *); first | (have q8_ := right_bookL (k := k) hI (by omega); first | exact absurd q8_.1 (by assumption) | (have q9_ := q8_.2 _ (by assumption); simp_all; done)) | (simp_all; done) | (exfalso; simp_all; omega))
              ·
                try simp only [decide_eq_true_eq, decide_eq_false_iff_not, Bool.and_eq_true, Bool.or_eq_true, Bool.and_eq_false_imp, Bool.or_eq_false_iff, Bool.not_eq_true', Bool.not_eq_false', Bool.not_eq_true, Bool.not_eq_false, beq_iff_eq, beq_eq_false_iff_ne, bne_iff_ne, ne_eq, Decidable.not_not, Int.not_lt, Int.not_le] at h16
                refine tc_skip ?_
                refine tq_then ?_
                refine tc_region ?_
                refine runL_bs [2,11] [(2, Sl (At b9 o4) ticks.length c_ticks), (3, Pt b1 0), (7, I (((c.heads.length : Nat) : Int))), (8, Pt b2 0), (29, Sl (At b3 o1) l.length c_l), (30, I (((l.length : Nat) : Int))), (31, I ((i : Int))), (57, I (if 5 < (if 0 > x4 then 0 else x4) then 5 else (if 0 > x4 then 0 else x4))), (58, I ((j : Int)))] [[Sg b10 0 [I (((clerkTick ky).1).queue.most), Sl a13 ((((clerkTick ky).1).queue.wait).length) c13, I (((clerkTick ky).1).batch), I (((clerkTick ky).1).every), I (((clerkTick ky).1).now), Sl a14 ((((clerkTick ky).1).heads).length) c14, Sl a15 ((((clerkTick ky).1).books).length) c15]], [Sg b6 0 [I (((clerkAsk kx x1).1).queue.most), Sl a7 ((((clerkAsk kx x1).1).queue.wait).length) c7, I (((clerkAsk kx x1).1).batch), I (((clerkAsk kx x1).1).every), I (((clerkAsk kx x1).1).now), Sl a8 ((((clerkAsk kx x1).1).heads).length) c8, Sl a9 ((((clerkAsk kx x1).1).books).length) c9]], [Sg b4 0 [Sr x1.name, Sr x1.value, U x1.n, U x1.tag]], [Sg b2 0 [I c.queue.most, Sl a1 c.queue.wait.length c1, I c.batch, I c.every, I c.now, Sl a2 c.heads.length c2, Sl a3 c.books.length c3]], [Sg b1 0 [I (((clerkTick ky).1).queue.most), Sl a13 ((((clerkTick ky).1).queue.wait).length) c13, I (((clerkTick ky).1).batch), I (((clerkTick ky).1).every), I (((clerkTick ky).1).now), Sl a14 ((((clerkTick ky).1).heads).length) c14, Sl a15 ((((clerkTick ky).1).books).length) c15]]] ?_
                refine runL_nil ?_
                refine tq_block ?_
                refine tq_then ?_
                refine tc_region ?_
                refine runL_b [0,0] [(2, Sl (At b9 o4) ticks.length c_ticks), (3, Pt b1 0), (7, I (((c.heads.length : Nat) : Int))), (8, Pt b2 0), (29, Sl (At b3 o1) l.length c_l), (30, I (((l.length : Nat) : Int))), (31, I ((i : Int))), (57, I (if 5 < (if 0 > x4 then 0 else x4) then 5 else (if 0 > x4 then 0 else x4))), (58, I (IntKind.i64.wrap (((j : Int)) + 1)))] ?_
                have e5 : IntKind.i64.wrap (((j : Int)) + 1) = ((j : Int)) + 1 := IntWalk.i64_in _ (by first | omega | (have q_ := right_end hI; obtain ⟨q1_, q2_, q3_, q4_, q5_⟩ := q_; have q6_ := hI.ok.chain.len; have q7_ := ((clerkCheck_iff (c := c)).1 (by assumption)).len; (try simp only [Nat.sub_zero] at *); omega))
                refine runL_eq (fr' := [(2, Sl (At b9 o4) ticks.length c_ticks), (3, Pt b1 0), (7, I (((c.heads.length : Nat) : Int))), (8, Pt b2 0), (29, Sl (At b3 o1) l.length c_l), (30, I (((l.length : Nat) : Int))), (31, I ((i : Int))), (57, I (if 5 < (if 0 > x4 then 0 else x4) then 5 else (if 0 > x4 then 0 else x4))), (58, I (((j : Int)) + 1))]) (L' := [[Sg b10 0 [I (((clerkTick ky).1).queue.most), Sl a13 ((((clerkTick ky).1).queue.wait).length) c13, I (((clerkTick ky).1).batch), I (((clerkTick ky).1).every), I (((clerkTick ky).1).now), Sl a14 ((((clerkTick ky).1).heads).length) c14, Sl a15 ((((clerkTick ky).1).books).length) c15]], [Sg b6 0 [I (((clerkAsk kx x1).1).queue.most), Sl a7 ((((clerkAsk kx x1).1).queue.wait).length) c7, I (((clerkAsk kx x1).1).batch), I (((clerkAsk kx x1).1).every), I (((clerkAsk kx x1).1).now), Sl a8 ((((clerkAsk kx x1).1).heads).length) c8, Sl a9 ((((clerkAsk kx x1).1).books).length) c9]], [Sg b4 0 [Sr x1.name, Sr x1.value, U x1.n, U x1.tag]], [Sg b2 0 [I c.queue.most, Sl a1 c.queue.wait.length c1, I c.batch, I c.every, I c.now, Sl a2 c.heads.length c2, Sl a3 c.books.length c3]], [Sg b1 0 [I (((clerkTick ky).1).queue.most), Sl a13 ((((clerkTick ky).1).queue.wait).length) c13, I (((clerkTick ky).1).batch), I (((clerkTick ky).1).every), I (((clerkTick ky).1).now), Sl a14 ((((clerkTick ky).1).heads).length) c14, Sl a15 ((((clerkTick ky).1).books).length) c15]]]) (by simp only [e5]) (by rfl) ?_
                clear e5
                refine runL_nil ?_
                refine tq_owns [[Sg b6 0 [I (((clerkAsk kx x1).1).queue.most), Sl a7 ((((clerkAsk kx x1).1).queue.wait).length) c7, I (((clerkAsk kx x1).1).batch), I (((clerkAsk kx x1).1).every), I (((clerkAsk kx x1).1).now), Sl a8 ((((clerkAsk kx x1).1).heads).length) c8, Sl a9 ((((clerkAsk kx x1).1).books).length) c9]], [Sg b4 0 [Sr x1.name, Sr x1.value, U x1.n, U x1.tag]], [Sg b2 0 [I c.queue.most, Sl a1 c.queue.wait.length c1, I c.batch, I c.every, I c.now, Sl a2 c.heads.length c2, Sl a3 c.books.length c3]], [Sg b1 0 [I (((clerkTick ky).1).queue.most), Sl a13 ((((clerkTick ky).1).queue.wait).length) c13, I (((clerkTick ky).1).batch), I (((clerkTick ky).1).every), I (((clerkTick ky).1).now), Sl a14 ((((clerkTick ky).1).heads).length) c14, Sl a15 ((((clerkTick ky).1).books).length) c15]]] ((.cons _ (.cons_cons _ (.cons_cons _ (.cons_cons _ (.cons_cons _ .slnil)))))) ?_
                exact tq_rnd ((j + 1, ((clerkTick ky).1), a13, c13, a14, c14, a15, c15, G5)) ⟨(Mem.le_trans hle1_ hl5), (by omega), (by first | assumption | omega | (simp; done) | (simp; omega)), hs13, (by first | assumption | omega | (simp; done) | (simp; omega)), (by first | assumption | omega | (simp; done) | (simp; omega)), (by first | assumption | omega | (simp; done) | (simp; omega)), hs14, hs15, (by (try dsimp only); first | exact right_refl (by assumption) | exact hI | exact hJ | exact right_ask hI (by assumption) | exact right_tick hJ)⟩ (by (try dsimp only); omega)
            ·
              try simp only [decide_eq_true_eq, decide_eq_false_iff_not, Bool.and_eq_true, Bool.or_eq_true, Bool.and_eq_false_imp, Bool.or_eq_false_iff, Bool.not_eq_true', Bool.not_eq_false', Bool.not_eq_true, Bool.not_eq_false, beq_iff_eq, beq_eq_false_iff_ne, bne_iff_ne, ne_eq, Decidable.not_not, Int.not_lt, Int.not_le] at h15
              refine tc_exit ?_
              refine tq_then_exit ?_
              refine tq_rnd_exit ?_
              refine tq_block_here ?_
              refine tq_block ?_
              refine tq_then ?_
              refine tc_region ?_
              refine runL_b [0,0] [(2, Sl (At b9 o4) ticks.length c_ticks), (3, Pt b1 0), (7, I (((c.heads.length : Nat) : Int))), (8, Pt b2 0), (29, Sl (At b3 o1) l.length c_l), (30, I (((l.length : Nat) : Int))), (31, I (IntKind.i64.wrap (((i : Int)) + 1)))] ?_
              have e6 : IntKind.i64.wrap (((i : Int)) + 1) = ((i : Int)) + 1 := IntWalk.i64_in _ (by first | omega | (have q_ := right_end hI; obtain ⟨q1_, q2_, q3_, q4_, q5_⟩ := q_; have q6_ := hI.ok.chain.len; have q7_ := ((clerkCheck_iff (c := c)).1 (by assumption)).len; (try simp only [Nat.sub_zero] at *); omega))
              refine runL_eq (fr' := [(2, Sl (At b9 o4) ticks.length c_ticks), (3, Pt b1 0), (7, I (((c.heads.length : Nat) : Int))), (8, Pt b2 0), (29, Sl (At b3 o1) l.length c_l), (30, I (((l.length : Nat) : Int))), (31, I (((i : Int)) + 1))]) (L' := [[Sg b6 0 [I (((clerkAsk kx x1).1).queue.most), Sl a7 ((((clerkAsk kx x1).1).queue.wait).length) c7, I (((clerkAsk kx x1).1).batch), I (((clerkAsk kx x1).1).every), I (((clerkAsk kx x1).1).now), Sl a8 ((((clerkAsk kx x1).1).heads).length) c8, Sl a9 ((((clerkAsk kx x1).1).books).length) c9]], [Sg b4 0 [Sr x1.name, Sr x1.value, U x1.n, U x1.tag]], [Sg b2 0 [I c.queue.most, Sl a1 c.queue.wait.length c1, I c.batch, I c.every, I c.now, Sl a2 c.heads.length c2, Sl a3 c.books.length c3]], [Sg b1 0 [I ky.queue.most, Sl aky0 ky.queue.wait.length cky0, I ky.batch, I ky.every, I ky.now, Sl aky1 ky.heads.length cky1, Sl aky2 ky.books.length cky2]]]) (by simp only [e6]) (by rfl) ?_
              clear e6
              refine runL_nil ?_
              refine tq_owns [[Sg b2 0 [I c.queue.most, Sl a1 c.queue.wait.length c1, I c.batch, I c.every, I c.now, Sl a2 c.heads.length c2, Sl a3 c.books.length c3]], [Sg b1 0 [I ky.queue.most, Sl aky0 ky.queue.wait.length cky0, I ky.batch, I ky.every, I ky.now, Sl aky1 ky.heads.length cky1, Sl aky2 ky.books.length cky2]]] ((.cons _ (.cons _ (.cons_cons _ (.cons_cons _ .slnil))))) ?_
              exact tq_rnd ((i + 1, ky, aky0, cky0, aky1, cky1, aky2, cky2, g1_)) ⟨(Mem.le_trans hle (Mem.le_trans hl3 hle1_)), (by omega), (by first | assumption | omega | (simp; done) | (simp; omega)), hky1, (by first | assumption | omega | (simp; done) | (simp; omega)), (by first | assumption | omega | (simp; done) | (simp; omega)), (by first | assumption | omega | (simp; done) | (simp; omega)), hky5, hky6, (by (try dsimp only); first | exact right_refl (by assumption) | exact hI | exact hJ | exact right_ask hI (by assumption) | exact right_tick hJ)⟩ (by (try dsimp only); omega)
          ·
            try simp only [decide_eq_true_eq, decide_eq_false_iff_not, Bool.and_eq_true, Bool.or_eq_true, Bool.and_eq_false_imp, Bool.or_eq_false_iff, Bool.not_eq_true', Bool.not_eq_false', Bool.not_eq_true, Bool.not_eq_false, beq_iff_eq, beq_eq_false_iff_ne, bne_iff_ne, ne_eq, Decidable.not_not, Int.not_lt, Int.not_le] at h14
            refine tc_skip ?_
            refine tq_block ?_
            refine tq_then ?_
            refine tc_region ?_
            refine runL_b [0,0] [(2, Sl a_ticks ticks.length c_ticks), (3, Pt b1 0), (7, I (((c.heads.length : Nat) : Int))), (8, Pt b2 0), (29, Sl (At b3 o1) l.length c_l), (30, I (((l.length : Nat) : Int))), (31, I (IntKind.i64.wrap (((i : Int)) + 1)))] ?_
            have e7 : IntKind.i64.wrap (((i : Int)) + 1) = ((i : Int)) + 1 := IntWalk.i64_in _ (by first | omega | (have q_ := right_end hI; obtain ⟨q1_, q2_, q3_, q4_, q5_⟩ := q_; have q6_ := hI.ok.chain.len; have q7_ := ((clerkCheck_iff (c := c)).1 (by assumption)).len; (try simp only [Nat.sub_zero] at *); omega))
            refine runL_eq (fr' := [(2, Sl a_ticks ticks.length c_ticks), (3, Pt b1 0), (7, I (((c.heads.length : Nat) : Int))), (8, Pt b2 0), (29, Sl (At b3 o1) l.length c_l), (30, I (((l.length : Nat) : Int))), (31, I (((i : Int)) + 1))]) (L' := [[Sg b6 0 [I (((clerkAsk kx x1).1).queue.most), Sl a7 ((((clerkAsk kx x1).1).queue.wait).length) c7, I (((clerkAsk kx x1).1).batch), I (((clerkAsk kx x1).1).every), I (((clerkAsk kx x1).1).now), Sl a8 ((((clerkAsk kx x1).1).heads).length) c8, Sl a9 ((((clerkAsk kx x1).1).books).length) c9]], [Sg b4 0 [Sr x1.name, Sr x1.value, U x1.n, U x1.tag]], [Sg b2 0 [I c.queue.most, Sl a1 c.queue.wait.length c1, I c.batch, I c.every, I c.now, Sl a2 c.heads.length c2, Sl a3 c.books.length c3]], [Sg b1 0 [I kx.queue.most, Sl akx0 kx.queue.wait.length ckx0, I kx.batch, I kx.every, I kx.now, Sl akx1 kx.heads.length ckx1, Sl akx2 kx.books.length ckx2]]]) (by simp only [e7]) (by rfl) ?_
            clear e7
            refine runL_nil ?_
            refine tq_owns [[Sg b2 0 [I c.queue.most, Sl a1 c.queue.wait.length c1, I c.batch, I c.every, I c.now, Sl a2 c.heads.length c2, Sl a3 c.books.length c3]], [Sg b1 0 [I kx.queue.most, Sl akx0 kx.queue.wait.length ckx0, I kx.batch, I kx.every, I kx.now, Sl akx1 kx.heads.length ckx1, Sl akx2 kx.books.length ckx2]]] ((.cons _ (.cons _ (.cons_cons _ (.cons_cons _ .slnil))))) ?_
            exact tq_rnd ((i + 1, kx, akx0, ckx0, akx1, ckx1, akx2, ckx2, G3)) ⟨(Mem.le_trans hle hl3), (by omega), (by first | assumption | omega | (simp; done) | (simp; omega)), (hkx1.mono hl3), (by first | assumption | omega | (simp; done) | (simp; omega)), (by first | assumption | omega | (simp; done) | (simp; omega)), (by first | assumption | omega | (simp; done) | (simp; omega)), (hkx5.mono hl3), (hkx6.mono hl3), (by (try dsimp only); first | exact right_refl (by assumption) | exact hI | exact hJ | exact right_ask hI (by assumption) | exact right_tick hJ)⟩ (by (try dsimp only); omega)
    ·
      try simp only [decide_eq_true_eq, decide_eq_false_iff_not, Bool.and_eq_true, Bool.or_eq_true, Bool.and_eq_false_imp, Bool.or_eq_false_iff, Bool.not_eq_true', Bool.not_eq_false', Bool.not_eq_true, Bool.not_eq_false, beq_iff_eq, beq_eq_false_iff_ne, bne_iff_ne, ne_eq, Decidable.not_not, Int.not_lt, Int.not_le] at h2
      refine tc_exit ?_
      refine tq_then_exit ?_
      refine tq_rnd_exit ?_
      refine tq_block_here ?_
      refine tq_then ?_
      refine tc_seq ?_
      refine tc_seq ?_
      rcases Bool.eq_false_or_eq_true (!decide (clerkCheck kx = 0)) with h17 | h17
      ·
        have h17d := h17
        try simp only [decide_eq_true_eq, decide_eq_false_iff_not, Bool.and_eq_true, Bool.or_eq_true, Bool.and_eq_false_imp, Bool.or_eq_false_iff, Bool.not_eq_true', Bool.not_eq_false', Bool.not_eq_true, Bool.not_eq_false, beq_iff_eq, beq_eq_false_iff_ne, bne_iff_ne, ne_eq, Decidable.not_not, Int.not_lt, Int.not_le] at h17d
        refine tc_draw [] ?_
        refine dr_V [(0, .agg #[I kx.queue.most, Sl akx0 kx.queue.wait.length ckx0, I kx.batch, I kx.every, I kx.now, Sl akx1 kx.heads.length ckx1, Sl akx2 kx.books.length ckx2]), (1, I (clerkCheck kx)), (2, Bo true), (3, Bo true), (4, undef), (5, undef), (6, undef), (7, undef), (8, undef), (9, Bo true), (10, Bo true), (11, undef), (12, undef), (13, undef), (14, undef), (15, undef), (16, undef), (17, undef), (18, undef), (19, Bo true)] ?_
        refine dr_end [] [(0,4), (3,0), (4,1), (5,1), (6,1), (7,1), (8,1), (9,0), (10,0), (11,1), (12,1), (13,1), (14,1), (15,1), (16,1), (17,1), (18,1), (19,0)] [1, 2] [(3, Pt b1 0), (7, I (((c.heads.length : Nat) : Int))), (8, Pt b2 0), (90, Bo true)] (List.forall_mem_cons.2 ⟨?_, (List.forall_mem_cons.2 ⟨?_, List.forall_mem_nil _⟩)⟩) ?_
        · refine stab_of 1 72 (I (clerkCheck kx)) [(71, .agg #[I kx.queue.most, Sl akx0 kx.queue.wait.length ckx0, I kx.batch, I kx.every, I kx.now, Sl akx1 kx.heads.length ckx1, Sl akx2 kx.books.length ckx2])] (fun X => ?_)
          exact runL_callV 72 (I (clerkCheck kx)) (clerkCheck_con g [I kx.queue.most, Sl akx0 kx.queue.wait.length ckx0, I kx.batch, I kx.every, I kx.now, Sl akx1 kx.heads.length ckx1, Sl akx2 kx.books.length ckx2] kx (⟨akx0, ckx0, akx1, ckx1, akx2, ckx2, rfl, hkx0, hkx1, hkx2, hkx3, hkx4, hkx5, hkx6⟩)) stab_end
        · refine stab_of 2 73 (Bo true) [(72, I (clerkCheck kx))] (fun X => ?_)
          exact runL_p1 73 (Bo (!decide (clerkCheck kx = 0))) (Bo true) (by rw [h17]) stab_end
        refine tq_then ?_
        refine tc_cond_true ?_
        refine tc_rb [0] [(6, Bo false)] ?_
        refine tc_ret ?_
        refine tq_then_ret ?_
        refine tq_ret [0] [Bo false] (bp_ret hle ?_)
        exfalso
        first | rfl | (exact absurd (right_tick0 hJ) (by assumption)) | (have q_ := right_end hI; obtain ⟨q1_, q2_, q3_, q4_, q5_⟩ := q_; have q6_ := hI.ok.chain.len; have q7_ := ((clerkCheck_iff (c := c)).1 (by assumption)).len; (try simp only [Nat.sub_zero] at *); first | (have q8_ := right_bookL (k := k) hI (by omega); first | exact absurd q8_.1 (by assumption) | (have q9_ := q8_.2 _ (by assumption); simp_all; done)) | (simp_all; done) | (exfalso; simp_all; omega))
      ·
        have h17d := h17
        try simp only [decide_eq_true_eq, decide_eq_false_iff_not, Bool.and_eq_true, Bool.or_eq_true, Bool.and_eq_false_imp, Bool.or_eq_false_iff, Bool.not_eq_true', Bool.not_eq_false', Bool.not_eq_true, Bool.not_eq_false, beq_iff_eq, beq_eq_false_iff_ne, bne_iff_ne, ne_eq, Decidable.not_not, Int.not_lt, Int.not_le] at h17d
        rcases Bool.eq_false_or_eq_true (decide (((kx.heads.length : Nat) : Int) < ((c.heads.length : Nat) : Int))) with h18 | h18
        ·
          have h18d := h18
          try simp only [decide_eq_true_eq, decide_eq_false_iff_not, Bool.and_eq_true, Bool.or_eq_true, Bool.and_eq_false_imp, Bool.or_eq_false_iff, Bool.not_eq_true', Bool.not_eq_false', Bool.not_eq_true, Bool.not_eq_false, beq_iff_eq, beq_eq_false_iff_ne, bne_iff_ne, ne_eq, Decidable.not_not, Int.not_lt, Int.not_le] at h18d
          refine tc_draw [] ?_
          refine dr_V [(0, .agg #[I kx.queue.most, Sl akx0 kx.queue.wait.length ckx0, I kx.batch, I kx.every, I kx.now, Sl akx1 kx.heads.length ckx1, Sl akx2 kx.books.length ckx2]), (1, I (clerkCheck kx)), (2, Bo false), (3, Bo false), (4, Pt b1 5), (5, Sl akx1 kx.heads.length ckx1), (6, I (((kx.heads.length : Nat) : Int))), (7, I (((c.heads.length : Nat) : Int))), (8, Bo true), (9, Bo true), (10, Bo true), (11, undef), (12, undef), (13, undef), (14, undef), (15, undef), (16, undef), (17, undef), (18, undef), (19, Bo true)] ?_
          refine dr_end [] [(0,4), (3,0), (4,0), (5,4), (6,0), (7,0), (9,0), (10,0), (11,1), (12,1), (13,1), (14,1), (15,1), (16,1), (17,1), (18,1), (19,0)] [1, 2, 8] [(3, Pt b1 0), (7, I (((c.heads.length : Nat) : Int))), (8, Pt b2 0), (90, Bo true)] (List.forall_mem_cons.2 ⟨?_, (List.forall_mem_cons.2 ⟨?_, (List.forall_mem_cons.2 ⟨?_, List.forall_mem_nil _⟩)⟩)⟩) ?_
          · refine stab_of 1 72 (I (clerkCheck kx)) [(71, .agg #[I kx.queue.most, Sl akx0 kx.queue.wait.length ckx0, I kx.batch, I kx.every, I kx.now, Sl akx1 kx.heads.length ckx1, Sl akx2 kx.books.length ckx2])] (fun X => ?_)
            exact runL_callV 72 (I (clerkCheck kx)) (clerkCheck_con g [I kx.queue.most, Sl akx0 kx.queue.wait.length ckx0, I kx.batch, I kx.every, I kx.now, Sl akx1 kx.heads.length ckx1, Sl akx2 kx.books.length ckx2] kx (⟨akx0, ckx0, akx1, ckx1, akx2, ckx2, rfl, hkx0, hkx1, hkx2, hkx3, hkx4, hkx5, hkx6⟩)) stab_end
          · refine stab_of 2 73 (Bo false) [(72, I (clerkCheck kx))] (fun X => ?_)
            exact runL_p1 73 (Bo (!decide (clerkCheck kx = 0))) (Bo false) (by rw [h17]) stab_end
          · refine stab_of 8 79 (Bo true) [(74, Bo false), (77, I (((kx.heads.length : Nat) : Int))), (78, I (((c.heads.length : Nat) : Int)))] (fun X => ?_)
            exact runL_p1 79 (Bo (decide (((kx.heads.length : Nat) : Int) < ((c.heads.length : Nat) : Int)))) (Bo true) (by rw [h18]) stab_end
          refine tq_then ?_
          refine tc_cond_true ?_
          refine tc_rb [0] [(6, Bo false)] ?_
          refine tc_ret ?_
          refine tq_then_ret ?_
          refine tq_ret [0] [Bo false] (bp_ret hle ?_)
          exfalso
          first | rfl | (exact absurd (right_tick0 hJ) (by assumption)) | (have q_ := right_end hI; obtain ⟨q1_, q2_, q3_, q4_, q5_⟩ := q_; have q6_ := hI.ok.chain.len; have q7_ := ((clerkCheck_iff (c := c)).1 (by assumption)).len; (try simp only [Nat.sub_zero] at *); first | (have q8_ := right_bookL (k := k) hI (by omega); first | exact absurd q8_.1 (by assumption) | (have q9_ := q8_.2 _ (by assumption); simp_all; done)) | (simp_all; done) | (exfalso; simp_all; omega))
        ·
          have h18d := h18
          try simp only [decide_eq_true_eq, decide_eq_false_iff_not, Bool.and_eq_true, Bool.or_eq_true, Bool.and_eq_false_imp, Bool.or_eq_false_iff, Bool.not_eq_true', Bool.not_eq_false', Bool.not_eq_true, Bool.not_eq_false, beq_iff_eq, beq_eq_false_iff_ne, bne_iff_ne, ne_eq, Decidable.not_not, Int.not_lt, Int.not_le] at h18d
          obtain ⟨a16, c16, ea2, ec2, en2, eh2, hs16⟩ := RS.reslXT hkx5 c.heads.length (by first | omega | (have q_ := right_end hI; obtain ⟨q1_, q2_, q3_, q4_, q5_⟩ := q_; have q6_ := hI.ok.chain.len; have q7_ := ((clerkCheck_iff (c := c)).1 (by assumption)).len; (try simp only [Nat.sub_zero] at *); omega))
          refine tc_draw [] ?_
          refine dr_V [(0, .agg #[I kx.queue.most, Sl akx0 kx.queue.wait.length ckx0, I kx.batch, I kx.every, I kx.now, Sl akx1 kx.heads.length ckx1, Sl akx2 kx.books.length ckx2]), (1, I (clerkCheck kx)), (2, Bo false), (3, Bo false), (4, Pt b1 5), (5, Sl akx1 kx.heads.length ckx1), (6, I (((kx.heads.length : Nat) : Int))), (7, I (((c.heads.length : Nat) : Int))), (8, Bo false), (9, Bo false), (10, Bo false), (11, Pt b1 5), (12, Sl akx1 kx.heads.length ckx1), (13, I (((c.heads.length : Nat) : Int))), (14, Sl a16 ((kx.heads.take c.heads.length).length) c16), (15, Pt b2 5), (16, Sl a2 c.heads.length c2), (17, Bo (decide (kx.heads.take c.heads.length = c.heads))), (18, Bo (!(decide (kx.heads.take c.heads.length = c.heads)))), (19, Bo (!(decide (kx.heads.take c.heads.length = c.heads))))] ?_
          refine dr_end [] [(0,4), (3,0), (4,0), (5,4), (6,0), (7,0), (9,0), (10,0), (11,0), (12,4), (13,0), (15,0), (16,2), (18,0), (19,0)] [1, 2, 8, 14, 17] [(3, Pt b1 0), (7, I (((c.heads.length : Nat) : Int))), (8, Pt b2 0), (90, Bo (!(decide (kx.heads.take c.heads.length = c.heads))))] (List.forall_mem_cons.2 ⟨?_, (List.forall_mem_cons.2 ⟨?_, (List.forall_mem_cons.2 ⟨?_, (List.forall_mem_cons.2 ⟨?_, (List.forall_mem_cons.2 ⟨?_, List.forall_mem_nil _⟩)⟩)⟩)⟩)⟩) ?_
          · refine stab_of 1 72 (I (clerkCheck kx)) [(71, .agg #[I kx.queue.most, Sl akx0 kx.queue.wait.length ckx0, I kx.batch, I kx.every, I kx.now, Sl akx1 kx.heads.length ckx1, Sl akx2 kx.books.length ckx2])] (fun X => ?_)
            exact runL_callV 72 (I (clerkCheck kx)) (clerkCheck_con g [I kx.queue.most, Sl akx0 kx.queue.wait.length ckx0, I kx.batch, I kx.every, I kx.now, Sl akx1 kx.heads.length ckx1, Sl akx2 kx.books.length ckx2] kx (⟨akx0, ckx0, akx1, ckx1, akx2, ckx2, rfl, hkx0, hkx1, hkx2, hkx3, hkx4, hkx5, hkx6⟩)) stab_end
          · refine stab_of 2 73 (Bo false) [(72, I (clerkCheck kx))] (fun X => ?_)
            exact runL_p1 73 (Bo (!decide (clerkCheck kx = 0))) (Bo false) (by rw [h17]) stab_end
          · refine stab_of 8 79 (Bo false) [(74, Bo false), (77, I (((kx.heads.length : Nat) : Int))), (78, I (((c.heads.length : Nat) : Int)))] (fun X => ?_)
            exact runL_p1 79 (Bo (decide (((kx.heads.length : Nat) : Int) < ((c.heads.length : Nat) : Int)))) (Bo false) (by rw [h18]) stab_end
          · refine stab_of 14 85 (Sl a16 ((kx.heads.take c.heads.length).length) c16) [(81, Bo false), (83, Sl akx1 kx.heads.length ckx1), (84, I (((c.heads.length : Nat) : Int)))] (fun X => ?_)
            exact runL_reslE (a := akx1) (len := kx.heads.length) (cap := ckx1) 85 4 none (some (I (((c.heads.length : Nat) : Int)))) 0 c.heads.length (.inl ⟨rfl, rfl⟩) (.inr ⟨_, rfl⟩) (by exact Nat.zero_le _) ea2 ec2 en2 eh2 stab_end
          · refine stab_of 17 88 (Bo (decide (kx.heads.take c.heads.length = c.heads))) [(81, Bo false), (85, Sl a16 ((kx.heads.take c.heads.length).length) c16), (87, Sl a2 c.heads.length c2)] (fun X => ?_)
            exact runL_callV 88 (Bo (decide (kx.heads.take c.heads.length = c.heads))) (seq_EHead g a16 c16 (kx.heads.take c.heads.length) hs16 a2 c2 c.heads (hs2.mono hle)) stab_end
          refine tq_then ?_
          refine tc_cond (!(decide (kx.heads.take c.heads.length = c.heads))) (fun h19 => ?_) (fun h19 => ?_)
          ·
            try simp only [decide_eq_true_eq, decide_eq_false_iff_not, Bool.and_eq_true, Bool.or_eq_true, Bool.and_eq_false_imp, Bool.or_eq_false_iff, Bool.not_eq_true', Bool.not_eq_false', Bool.not_eq_true, Bool.not_eq_false, beq_iff_eq, beq_eq_false_iff_ne, bne_iff_ne, ne_eq, Decidable.not_not, Int.not_lt, Int.not_le] at h19
            refine tc_rb [0] [(6, Bo false)] ?_
            refine tc_ret ?_
            refine tq_then_ret ?_
            refine tq_ret [0] [Bo false] (bp_ret hle ?_)
            exfalso
            first | rfl | (exact absurd (right_tick0 hJ) (by assumption)) | (have q_ := right_end hI; obtain ⟨q1_, q2_, q3_, q4_, q5_⟩ := q_; have q6_ := hI.ok.chain.len; have q7_ := ((clerkCheck_iff (c := c)).1 (by assumption)).len; (try simp only [Nat.sub_zero] at *); first | (have q8_ := right_bookL (k := k) hI (by omega); first | exact absurd q8_.1 (by assumption) | (have q9_ := q8_.2 _ (by assumption); simp_all; done)) | (simp_all; done) | (exfalso; simp_all; omega))
          ·
            try simp only [decide_eq_true_eq, decide_eq_false_iff_not, Bool.and_eq_true, Bool.or_eq_true, Bool.and_eq_false_imp, Bool.or_eq_false_iff, Bool.not_eq_true', Bool.not_eq_false', Bool.not_eq_true, Bool.not_eq_false, beq_iff_eq, beq_eq_false_iff_ne, bne_iff_ne, ne_eq, Decidable.not_not, Int.not_lt, Int.not_le] at h19
            refine tc_skip ?_
            refine tq_then ?_
            refine tc_seq ?_
            refine tc_rb [0,0] [(3, Pt b1 0), (8, Pt b2 0), (91, I (((c.heads.length : Nat) : Int))), (92, I 0)] ?_
            refine tc_block ?_
            refine tc_loop (σ := Nat × Mem) (fun q_ => (Mem.le g q_.2) ∧ (q_.1 ≤ c.heads.length)) (fun q_ => [(3, Pt b1 0), (8, Pt b2 0), (91, I (((c.heads.length : Nat) : Int))), (92, I ((q_.1 : Int)))]) (fun q_ => q_.2) (fun q_ => [[Sg b2 0 [I c.queue.most, Sl a1 c.queue.wait.length c1, I c.batch, I c.every, I c.now, Sl a2 c.heads.length c2, Sl a3 c.books.length c3]], [Sg b1 0 [I kx.queue.most, Sl akx0 kx.queue.wait.length ckx0, I kx.batch, I kx.every, I kx.now, Sl akx1 kx.heads.length ckx1, Sl akx2 kx.books.length ckx2]]]) (fun q_ => c.heads.length - q_.1) ((0, g)) ⟨(Mem.le_refl _), (by (try dsimp only); first | exact Nat.zero_le _ | omega | (simp; done) | (repeat' split <;> omega))⟩ (fun q_ hs => ?_)
            obtain ⟨k, g1_⟩ := q_
            obtain ⟨hle1_, hi⟩ := hs
            dsimp only at hle1_ hi
            refine tc_eq (fr' := [(3, Pt b1 0), (8, Pt b2 0), (91, I (((c.heads.length : Nat) : Int))), (92, I ((k : Int)))]) (L' := [[Sg b2 0 [I c.queue.most, Sl a1 c.queue.wait.length c1, I c.batch, I c.every, I c.now, Sl a2 c.heads.length c2, Sl a3 c.books.length c3]], [Sg b1 0 [I kx.queue.most, Sl akx0 kx.queue.wait.length ckx0, I kx.batch, I kx.every, I kx.now, Sl akx1 kx.heads.length ckx1, Sl akx2 kx.books.length ckx2]]]) rfl rfl ?_
            refine tc_rb [0] [(3, Pt b1 0), (8, Pt b2 0), (91, I (((c.heads.length : Nat) : Int))), (92, I ((k : Int))), (93, Bo (decide ((k : Int) < ((c.heads.length : Nat) : Int))))] ?_
            refine tc_seq ?_
            refine tc_cond (decide ((k : Int) < ((c.heads.length : Nat) : Int))) (fun h20 => ?_) (fun h20 => ?_)
            ·
              try simp only [decide_eq_true_eq, decide_eq_false_iff_not, Bool.and_eq_true, Bool.or_eq_true, Bool.and_eq_false_imp, Bool.or_eq_false_iff, Bool.not_eq_true', Bool.not_eq_false', Bool.not_eq_true, Bool.not_eq_false, beq_iff_eq, beq_eq_false_iff_ne, bne_iff_ne, ne_eq, Decidable.not_not, Int.not_lt, Int.not_le] at h20
              refine tc_skip ?_
              refine tq_then ?_
              refine tc_seq ?_
              refine tc_block ?_
              refine tc_rb [0,0] [(3, Pt b1 0), (8, Pt b2 0), (17, I ((k : Int))), (91, I (((c.heads.length : Nat) : Int))), (92, I ((k : Int)))] ?_
              refine tc_seq ?_
              refine tc_region ?_
              refine runL_b [4,0] [(3, Pt b1 0), (8, Pt b2 0), (17, I ((k : Int))), (91, I (((c.heads.length : Nat) : Int))), (92, I ((k : Int))), (96, .agg #[I kx.queue.most, Sl akx0 kx.queue.wait.length ckx0, I kx.batch, I kx.every, I kx.now, Sl akx1 kx.heads.length ckx1, Sl akx2 kx.books.length ckx2]), (97, I ((k : Int)))] ?_
              refine runL_callR 98 (clerkBook_con g1_ [I kx.queue.most, Sl akx0 kx.queue.wait.length ckx0, I kx.batch, I kx.every, I kx.now, Sl akx1 kx.heads.length ckx1, Sl akx2 kx.books.length ckx2] kx (⟨akx0, ckx0, akx1, ckx1, akx2, ckx2, rfl, hkx0, (hkx1.mono hle1_), hkx2, hkx3, hkx4, (hkx5.mono hle1_), (hkx6.mono hle1_)⟩) ((k : Int)) (by have q_ := right_end hI; obtain ⟨q1_, q2_, q3_, q4_, q5_⟩ := q_; have q6_ := hI.ok.chain.len; have q7_ := ((clerkCheck_iff (c := c)).1 (by assumption)).len; (try simp only [Nat.sub_zero] at *); omega)) (fun v G6 L1 hl6 hp => ?_)
              obtain ⟨a17, c17, r2, rfl, hr2, rfl⟩ := hp
              refine runL_b [0,0,0,0,0] [(3, Pt b1 0), (8, Pt b2 0), (17, I ((k : Int))), (18, Sl a17 (((clerkBook kx ((k : Int))).1).length) c17), (19, I ((clerkBook kx ((k : Int))).2)), (91, I (((c.heads.length : Nat) : Int))), (92, I ((k : Int)))] ?_
              refine runL_nil ?_
              refine tq_then ?_
              refine tc_seq ?_
              refine tc_region ?_
              refine runL_b [0,0,0] [(3, Pt b1 0), (8, Pt b2 0), (17, I ((k : Int))), (18, Sl a17 (((clerkBook kx ((k : Int))).1).length) c17), (91, I (((c.heads.length : Nat) : Int))), (92, I ((k : Int))), (103, Bo (!decide ((clerkBook kx ((k : Int))).2 = 0)))] ?_
              refine runL_cases (fun bb => [(3, Pt b1 0), (8, Pt b2 0), (17, I ((k : Int))), (18, Sl a17 (((clerkBook kx ((k : Int))).1).length) c17), (91, I (((c.heads.length : Nat) : Int))), (92, I ((k : Int))), (103, Bo bb)]) (!decide ((clerkBook kx ((k : Int))).2 = 0)) (fun h21 => ?_) (fun h21 => ?_)
              ·
                try simp only [decide_eq_true_eq, decide_eq_false_iff_not, Bool.and_eq_true, Bool.or_eq_true, Bool.and_eq_false_imp, Bool.or_eq_false_iff, Bool.not_eq_true', Bool.not_eq_false', Bool.not_eq_true, Bool.not_eq_false, beq_iff_eq, beq_eq_false_iff_ne, bne_iff_ne, ne_eq, Decidable.not_not, Int.not_lt, Int.not_le] at h21
                refine runL_b [1,1,1,1,1,1,1,1,0] [(3, Pt b1 0), (8, Pt b2 0), (91, I (((c.heads.length : Nat) : Int))), (92, I ((k : Int))), (112, Bo true)] ?_
                refine runL_nil ?_
                refine tq_then ?_
                refine tc_cond_true ?_
                refine tc_rb [0] [(6, Bo false)] ?_
                refine tc_ret ?_
                refine tq_block_ret ?_
                refine tq_then_ret ?_
                refine tq_rnd_ret ?_
                refine tq_block_ret ?_
                refine tq_then_ret ?_
                refine tq_ret [0] [Bo false] (bp_ret (Mem.le_trans (Mem.le_trans hle hle1_) hl6) ?_)
                exfalso
                first | rfl | (exact absurd (right_tick0 hJ) (by assumption)) | (have q_ := right_end hI; obtain ⟨q1_, q2_, q3_, q4_, q5_⟩ := q_; have q6_ := hI.ok.chain.len; have q7_ := ((clerkCheck_iff (c := c)).1 (by assumption)).len; (try simp only [Nat.sub_zero] at *); first | (have q8_ := right_bookL (k := k) hI (by omega); first | exact absurd q8_.1 (by assumption) | (have q9_ := q8_.2 _ (by assumption); simp_all; done)) | (simp_all; done) | (exfalso; simp_all; omega))
              ·
                try simp only [decide_eq_true_eq, decide_eq_false_iff_not, Bool.and_eq_true, Bool.or_eq_true, Bool.and_eq_false_imp, Bool.or_eq_false_iff, Bool.not_eq_true', Bool.not_eq_false', Bool.not_eq_true, Bool.not_eq_false, beq_iff_eq, beq_eq_false_iff_ne, bne_iff_ne, ne_eq, Decidable.not_not, Int.not_lt, Int.not_le] at h21
                refine runL_b [0,0,4,0] [(3, Pt b1 0), (8, Pt b2 0), (91, I (((c.heads.length : Nat) : Int))), (92, I ((k : Int))), (103, Bo false), (104, Sl a17 (((clerkBook kx ((k : Int))).1).length) c17), (106, Sl a3 c.books.length c3), (107, I ((k : Int)))] ?_
                obtain ⟨b11, o5, rfl⟩ := RS.addr (hs3.mono (Mem.le_trans (Mem.le_trans hle hle1_) hl6)) (k := k) (by first | omega | (have q_ := right_end hI; obtain ⟨q1_, q2_, q3_, q4_, q5_⟩ := q_; have q6_ := hI.ok.chain.len; have q7_ := ((clerkCheck_iff (c := c)).1 (by assumption)).len; (try simp only [Nat.sub_zero] at *); omega))
                obtain ⟨x5, hx5⟩ := getX (l := c.books) (k := k) (by first | omega | (have q_ := right_end hI; obtain ⟨q1_, q2_, q3_, q4_, q5_⟩ := q_; have q6_ := hI.ok.chain.len; have q7_ := ((clerkCheck_iff (c := c)).1 (by assumption)).len; (try simp only [Nat.sub_zero] at *); omega))
                obtain ⟨_, ⟨a18, c18, rfl, hs17⟩, hc5⟩ := RS.get (hs3.mono (Mem.le_trans (Mem.le_trans hle hle1_) hl6)) hx5
                refine runL_idx (b := b11) (off := o5) (len := c.books.length) (cap := c3) (ik := .i64) 108 33 1 k (by first | omega | (have q_ := right_end hI; obtain ⟨q1_, q2_, q3_, q4_, q5_⟩ := q_; have q6_ := hI.ok.chain.len; have q7_ := ((clerkCheck_iff (c := c)).1 (by assumption)).len; (try simp only [Nat.sub_zero] at *); omega)) ?_
                refine runL_ldG 109 33 (cs := [Sl a18 x5.length c18]) 0 (Sl a18 x5.length c18) hc5 ?_
                refine runL_frzR (E := EEnt) 0 hr2 (by have q_ := book_len kx ((k : Int)); simp only [EEnt]; omega) (fun G7 hl7 hs18 => ?_)
                refine runL_callV 110 (Bo (decide ((clerkBook kx ((k : Int))).1 = x5))) (seq_EEnt G7 a17 c17 ((clerkBook kx ((k : Int))).1) hs18 a18 c18 x5 (hs17.mono hl7)) ?_
                refine runL_b [0,0] [(3, Pt b1 0), (8, Pt b2 0), (91, I (((c.heads.length : Nat) : Int))), (92, I ((k : Int))), (112, Bo (!(decide ((clerkBook kx ((k : Int))).1 = x5))))] ?_
                refine runL_nil ?_
                refine tq_then ?_
                refine tc_cond (!(decide ((clerkBook kx ((k : Int))).1 = x5))) (fun h22 => ?_) (fun h22 => ?_)
                ·
                  try simp only [decide_eq_true_eq, decide_eq_false_iff_not, Bool.and_eq_true, Bool.or_eq_true, Bool.and_eq_false_imp, Bool.or_eq_false_iff, Bool.not_eq_true', Bool.not_eq_false', Bool.not_eq_true, Bool.not_eq_false, beq_iff_eq, beq_eq_false_iff_ne, bne_iff_ne, ne_eq, Decidable.not_not, Int.not_lt, Int.not_le] at h22
                  refine tc_rb [0] [(6, Bo false)] ?_
                  refine tc_ret ?_
                  refine tq_block_ret ?_
                  refine tq_then_ret ?_
                  refine tq_rnd_ret ?_
                  refine tq_block_ret ?_
                  refine tq_then_ret ?_
                  refine tq_ret [0] [Bo false] (bp_ret (Mem.le_trans (Mem.le_trans (Mem.le_trans hle hle1_) hl6) hl7) ?_)
                  exfalso
                  first | rfl | (exact absurd (right_tick0 hJ) (by assumption)) | (have q_ := right_end hI; obtain ⟨q1_, q2_, q3_, q4_, q5_⟩ := q_; have q6_ := hI.ok.chain.len; have q7_ := ((clerkCheck_iff (c := c)).1 (by assumption)).len; (try simp only [Nat.sub_zero] at *); first | (have q8_ := right_bookL (k := k) hI (by omega); first | exact absurd q8_.1 (by assumption) | (have q9_ := q8_.2 _ (by assumption); simp_all; done)) | (simp_all; done) | (exfalso; simp_all; omega))
                ·
                  try simp only [decide_eq_true_eq, decide_eq_false_iff_not, Bool.and_eq_true, Bool.or_eq_true, Bool.and_eq_false_imp, Bool.or_eq_false_iff, Bool.not_eq_true', Bool.not_eq_false', Bool.not_eq_true, Bool.not_eq_false, beq_iff_eq, beq_eq_false_iff_ne, bne_iff_ne, ne_eq, Decidable.not_not, Int.not_lt, Int.not_le] at h22
                  refine tc_skip ?_
                  refine tq_block ?_
                  refine tq_then ?_
                  refine tc_region ?_
                  refine runL_b [0,0] [(3, Pt b1 0), (8, Pt b2 0), (91, I (((c.heads.length : Nat) : Int))), (92, I (IntKind.i64.wrap (((k : Int)) + 1)))] ?_
                  have e8 : IntKind.i64.wrap (((k : Int)) + 1) = ((k : Int)) + 1 := IntWalk.i64_in _ (by first | omega | (have q_ := right_end hI; obtain ⟨q1_, q2_, q3_, q4_, q5_⟩ := q_; have q6_ := hI.ok.chain.len; have q7_ := ((clerkCheck_iff (c := c)).1 (by assumption)).len; (try simp only [Nat.sub_zero] at *); omega))
                  refine runL_eq (fr' := [(3, Pt b1 0), (8, Pt b2 0), (91, I (((c.heads.length : Nat) : Int))), (92, I (((k : Int)) + 1))]) (L' := [[], [Sg b2 0 [I c.queue.most, Sl a1 c.queue.wait.length c1, I c.batch, I c.every, I c.now, Sl a2 c.heads.length c2, Sl (At b11 o5) c.books.length c3]], [Sg b1 0 [I kx.queue.most, Sl akx0 kx.queue.wait.length ckx0, I kx.batch, I kx.every, I kx.now, Sl akx1 kx.heads.length ckx1, Sl akx2 kx.books.length ckx2]]]) (by simp only [e8]) (by rfl) ?_
                  clear e8
                  refine runL_nil ?_
                  refine tq_owns [[Sg b2 0 [I c.queue.most, Sl a1 c.queue.wait.length c1, I c.batch, I c.every, I c.now, Sl a2 c.heads.length c2, Sl (At b11 o5) c.books.length c3]], [Sg b1 0 [I kx.queue.most, Sl akx0 kx.queue.wait.length ckx0, I kx.batch, I kx.every, I kx.now, Sl akx1 kx.heads.length ckx1, Sl akx2 kx.books.length ckx2]]] ((.cons _ (.cons_cons _ (.cons_cons _ .slnil)))) ?_
                  exact tq_rnd ((k + 1, G7)) ⟨(Mem.le_trans hle1_ (Mem.le_trans hl6 hl7)), (by omega)⟩ (by (try dsimp only); omega)
            ·
              try simp only [decide_eq_true_eq, decide_eq_false_iff_not, Bool.and_eq_true, Bool.or_eq_true, Bool.and_eq_false_imp, Bool.or_eq_false_iff, Bool.not_eq_true', Bool.not_eq_false', Bool.not_eq_true, Bool.not_eq_false, beq_iff_eq, beq_eq_false_iff_ne, bne_iff_ne, ne_eq, Decidable.not_not, Int.not_lt, Int.not_le] at h20
              refine tc_exit ?_
              refine tq_then_exit ?_
              refine tq_rnd_exit ?_
              refine tq_block_here ?_
              refine tq_then ?_
              refine tc_rb [0] [(6, Bo true)] ?_
              refine tc_ret ?_
              refine tq_ret [0] [Bo true] (bp_ret (Mem.le_trans hle hle1_) ?_)
              rfl
end Go.Proofs.YtmpakffajpnffaaGreatDoor
