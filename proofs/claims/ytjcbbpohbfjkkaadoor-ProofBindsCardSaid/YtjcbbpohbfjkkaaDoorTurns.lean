import Derived.Test.YtjcbbpohbfjkkaaDoorUnder
import Derived.Test.YtjcbbpohbfjkkaaDoorBack
namespace Go.Proofs.YtjcbbpohbfjkkaaDoor
open Go.Tx
set_option linter.unusedVariables false
set_option linter.unusedSimpArgs false

theorem under_mem {l : List EntD} {q : List UInt8} {x : EntD} : x ∈ treeUnder l q ↔ x ∈ l ∧ q <+: way x.name := by
  unfold treeUnder under1; rw [List.mem_filter]; simp
theorem under_under {l : List EntD} {p q : List UInt8} (h : p <+: q) : treeUnder (treeUnder l p) q = treeUnder l q := by
  unfold treeUnder
  rw [List.filter_filter]
  apply List.filter_congr
  intro x _
  unfold under1
  rw [Bool.eq_iff_iff]
  simp only [Bool.not_not, Bool.and_eq_true, decide_eq_true_eq]
  exact ⟨fun h1 => h1.1, fun h1 => ⟨h1, h.trans h1⟩⟩
theorem under_nil {q : List UInt8} : treeUnder [] q = [] := rfl
theorem treeAt_nil {q : List UInt8} : treeAt [] q = noneM := treeAt_leaf (.inl rfl)
theorem treeAtE_ok {l : List EntD} {q : List UInt8} (h : (treeAtE l q).2 = 0) : TreeOk l ∧ q.length ≤ 16 ∧ (∀ b ∈ q, isB b = true) ∧ (treeAtE l q).1 = treeAt (treeUnder l q) q := by
  unfold treeAtE at h ⊢
  split at h
  · contradiction
  rename_i h1
  split at h
  · cases h
  rename_i h2
  rw [if_neg h1, if_neg h2]
  have h3 : trimS q = [] := Decidable.not_not.1 fun hc => h2 (.inr hc)
  have h4 : ¬ (q.length : Int) > 16 := fun hc => h2 (.inl hc)
  exact ⟨treeCheck_iff.1 (Decidable.not_not.1 h1), by omega, trimS_nil.1 h3, rfl⟩
theorem treeAtE_of {l : List EntD} {q : List UInt8} (h1 : TreeOk l) (h2 : q.length ≤ 16) (h3 : ∀ b ∈ q, isB b = true) : treeAtE l q = (treeAt (treeUnder l q) q, 0) := by
  unfold treeAtE
  rw [if_neg (fun hc => hc (treeCheck_iff.2 h1)), if_neg]
  rintro (hc | hc)
  · omega
  · exact hc (trimS_nil.2 h3)
theorem treeAtE_err {l : List EntD} {q : List UInt8} (h : ¬ (treeAtE l q).2 = 0) : (treeAtE l q).1 = 0 := by
  revert h; unfold treeAtE; split
  · simp
  split <;> simp
theorem atE_or (l : List EntD) (q : List UInt8) : (decide ((treeAtE l q).2 = 0) || decide ((treeAtE l q).1 = 0)) = true := by
  by_cases h : (treeAtE l q).2 = 0
  · simp [h]
  · simp [treeAtE_err h]
theorem treeAt_parts {l : List EntD} {q : List UInt8} (h : q.length < 16) : treeAt (treeUnder l q) q = if treeAt (treeUnder l (q ++ [48])) (q ++ [48]) = noneM ∧ treeAt (treeUnder l (q ++ [49])) (q ++ [49]) = noneM then noneM else markOf (markSaid 2 (treeAt (treeUnder l (q ++ [48])) (q ++ [48])) (treeAt (treeUnder l (q ++ [49])) (q ++ [49]))) := by
  have e0 := under_under (l := l) (p := q) (q := q ++ [48]) (List.prefix_append _ _)
  have e1 := under_under (l := l) (p := q) (q := q ++ [49]) (List.prefix_append _ _)
  by_cases hn : treeUnder l q = []
  · have f0 : treeUnder l (q ++ [48]) = [] := by rw [← e0, hn]; rfl
    have f1 : treeUnder l (q ++ [49]) = [] := by rw [← e1, hn]; rfl
    rw [hn, f0, f1, treeAt_nil, treeAt_nil, treeAt_nil, if_pos ⟨rfl, rfl⟩]
  · rw [treeAt_fork (by intro hc; exact hn (List.eq_nil_of_length_eq_zero (by omega))) h, e0, e1]
theorem parts_law {l : List EntD} {q : List UInt8} (h : (treeAtE l q).2 = 0) (hq : q.length < 16) : (treeAtE l (q ++ [48])).2 = 0 ∧ (treeAtE l (q ++ [49])).2 = 0 ∧ (treeLeaf []).2 = 0 ∧
    (((treeAtE l (q ++ [48])).1 = markOf (treeLeaf []).1 ∧ (treeAtE l (q ++ [49])).1 = markOf (treeLeaf []).1) → (treeAtE l q).1 = markOf (treeLeaf []).1) ∧
    (¬ ((treeAtE l (q ++ [48])).1 = markOf (treeLeaf []).1 ∧ (treeAtE l (q ++ [49])).1 = markOf (treeLeaf []).1) → (treeAtE l q).1 = markOf (markSaid 2 (treeAtE l (q ++ [48])).1 (treeAtE l (q ++ [49])).1)) := by
  obtain ⟨h1, _, h3, h4⟩ := treeAtE_ok h
  have g : ∀ c : UInt8, isB c = true → ∀ b ∈ q ++ [c], isB b = true := by
    intro c hc b hb
    rcases List.mem_append.1 hb with hb | hb
    · exact h3 b hb
    · rw [List.mem_singleton] at hb; rw [hb]; exact hc
  have e0 := treeAtE_of h1 (q := q ++ [48]) (by simp; omega) (g 48 rfl)
  have e1 := treeAtE_of h1 (q := q ++ [49]) (by simp; omega) (g 49 rfl)
  have en : markOf (treeLeaf []).1 = noneM := by rw [treeLeaf_nil]; rfl
  rw [h4, e0, e1, en, treeAt_parts hq]
  refine ⟨rfl, rfl, by rw [treeLeaf_nil], fun hc => if_pos hc, fun hc => if_neg hc⟩
theorem turns_eq {l : List EntD} {a b : EntD} (hn : ¬ a.name = b.name) (h1 : (treeSet l a.name a.value).2 = 0) (h2 : (treeSet (treeSet l a.name a.value).1 b.name b.value).2 = 0) (h3 : (treeSet l b.name b.value).2 = 0) (h4 : (treeSet (treeSet l b.name b.value).1 a.name a.value).2 = 0) :
    (treeSet (treeSet l a.name a.value).1 b.name b.value).1 = (treeSet (treeSet l b.name b.value).1 a.name a.value).1 ∧ (treeAtE (treeSet (treeSet l a.name a.value).1 b.name b.value).1 []).2 = 0 := by
  obtain ⟨_, _, _, m1⟩ := treeSet_ok h1
  obtain ⟨_, _, o2, m2⟩ := treeSet_ok h2
  obtain ⟨_, _, _, m3⟩ := treeSet_ok h3
  obtain ⟨_, _, o4, m4⟩ := treeSet_ok h4
  refine ⟨o2.ext o4 fun y => ?_, by rw [treeAtE_of o2 (by simp) (by simp)]⟩
  rw [m2, m4, m1, m3]
  constructor
  · rintro (rfl | ⟨rfl | ⟨h, hy⟩, hy2⟩)
    · exact .inr ⟨.inl rfl, fun e => hn e.symm⟩
    · exact .inl rfl
    · exact .inr ⟨.inr ⟨h, hy2⟩, hy⟩
  · rintro (rfl | ⟨rfl | ⟨h, hy⟩, hy2⟩)
    · exact .inr ⟨.inl rfl, hn⟩
    · exact .inl rfl
    · exact .inr ⟨.inr ⟨h, hy2⟩, hy⟩
theorem good3 {x y z : Int} (h : ([x, y, z].any fun x0 => !decide (x0 = 0)) = false) : x = 0 ∧ y = 0 ∧ z = 0 := by simpa using h
theorem good4 {x y z w : Int} (h : ([x, y, z, w].any fun x0 => !decide (x0 = 0)) = false) : x = 0 ∧ y = 0 ∧ z = 0 ∧ w = 0 := by simpa using h

theorem trees_con2 (G : Mem)   : Con Tryd.prog 23 #[] G [] (fun u G' L' => u = Bo true) := by
  refine con_of Tryd.func23 21 [] rfl (fun w0 G0 => ?_)
  refine tc_rb [0] [(0, Bo false)] ?_
  refine tc_seq ?_
  refine tc_region ?_
  refine runL_callR 4 (treeSet_con G none 0 ([]) (RS.nil' EEnt G) ([97]) (Nat.le_of_ble_eq_true rfl) ([98]) (Nat.le_of_ble_eq_true rfl)) (fun v G1 L1 hl1 hp => ?_)
  obtain ⟨a1, c1, r1, rfl, hr1, rfl⟩ := hp
  refine runL_b [0,0,0,0,0] [(0, Bo false), (1, Sl a1 (((treeSet ([]) ([97]) ([98])).1).length) c1), (2, I ((treeSet ([]) ([97]) ([98])).2))] ?_
  refine runL_nil ?_
  refine tq_then ?_
  refine tc_seq ?_
  refine tc_region ?_
  refine runL_b [0,0,0] [(0, Bo false), (1, Sl a1 (((treeSet ([]) ([97]) ([98])).1).length) c1), (9, Bo (decide ((treeSet ([]) ([97]) ([98])).2 = 0)))] ?_
  refine runL_b2 (decide ((treeSet ([]) ([97]) ([98])).2 = 0)) (fun bb => [(0, Bo false), (1, Sl a1 (((treeSet ([]) ([97]) ([98])).1).length) c1), (9, Bo bb)]) [0,0,0,0] [1,1,1,0] (fun bb => [(0, Bo false), (1, Sl a1 (((treeSet ([]) ([97]) ([98])).1).length) c1), (13, Bo (bb && (decide (((((treeSet ([]) ([97]) ([98])).1).length : Nat) : Int) = 1))))]) ?_
  refine runL_b [0] [(0, Bo false), (1, Sl a1 (((treeSet ([]) ([97]) ([98])).1).length) c1), (14, Bo ((decide ((treeSet ([]) ([97]) ([98])).2 = 0)) && (decide (((((treeSet ([]) ([97]) ([98])).1).length : Nat) : Int) = 1))))] ?_
  refine runL_cases (fun bb => [(0, Bo false), (1, Sl a1 (((treeSet ([]) ([97]) ([98])).1).length) c1), (14, Bo bb)]) ((decide ((treeSet ([]) ([97]) ([98])).2 = 0)) && (decide (((((treeSet ([]) ([97]) ([98])).1).length : Nat) : Int) = 1))) (fun h1 => ?_) (fun h1 => ?_)
  ·
    try simp only [decide_eq_true_eq, decide_eq_false_iff_not, Bool.and_eq_true, Bool.or_eq_true, Bool.and_eq_false_imp, Bool.or_eq_false_iff, Bool.not_eq_true', Bool.not_eq_false', Bool.not_eq_true, Bool.not_eq_false, beq_iff_eq, beq_eq_false_iff_ne, bne_iff_ne, ne_eq, Decidable.not_not, Int.not_lt, Int.not_le] at h1
    refine runL_b [0] [(0, Bo false), (14, Bo true), (15, Sl a1 (((treeSet ([]) ([97]) ([98])).1).length) c1)] ?_
    refine runL_frzR (E := EEnt) 0 hr1 (by have q_ := treeSet_len ([]) ([97]) ([98]); simp only [EEnt]; omega) (fun G2 hl2 hs1 => ?_)
    obtain ⟨b1, o1, rfl⟩ := RS.addr hs1 (k := 0) (by first | omega | (rw [trees_ok.2]; decide))
    obtain ⟨x1, hx1⟩ := getX (l := (treeSet ([]) ([97]) ([98])).1) (k := 0) (by first | omega | (rw [trees_ok.2]; decide))
    obtain ⟨_, ⟨rfl, w1, w2⟩, hc1⟩ := RS.get hs1 hx1
    refine runL_idx (b := b1) (off := o1) (len := ((treeSet ([]) ([97]) ([98])).1).length) (cap := c1) (ik := .i64) 16 54 2 0 (by first | omega | (rw [trees_ok.2]; decide)) ?_
    refine runL_b [0] [(0, Bo false), (14, Bo true), (17, Pt b1 (o1 + 0 * 2 + 1))] ?_
    refine runL_ldG 18 9 (cs := [Sr x1.name, Sr x1.value]) 1 (Sr x1.value) hc1 ?_
    refine runL_b [0,0,0] [(0, Bo (((B x1.value).toList == (B ([98])).toList)))] ?_
    refine runL_eq (fr' := [(0, Bo ((x1.value == [98])))]) (L' := [[]]) (by simp only [B_toList]) (by rfl) ?_
    refine runL_nil ?_
    refine tq_then ?_
    refine tc_ret ?_
    refine tq_ret [0] [Bo ((x1.value == [98]))] (bp_ret (Mem.le_trans hl1 hl2) ?_)
    have hf_ : ((x1.value == [98])) = true := by
      first | (simp [trees_ok]; done) | (rw [trees_ok.2] at hx1; rw [← Option.some.inj hx1]; rfl) | (have q_ := trees_ok; simp_all; done)
    exact congrArg Bo hf_
  ·
    try simp only [decide_eq_true_eq, decide_eq_false_iff_not, Bool.and_eq_true, Bool.or_eq_true, Bool.and_eq_false_imp, Bool.or_eq_false_iff, Bool.not_eq_true', Bool.not_eq_false', Bool.not_eq_true, Bool.not_eq_false, beq_iff_eq, beq_eq_false_iff_ne, bne_iff_ne, ne_eq, Decidable.not_not, Int.not_lt, Int.not_le] at h1
    refine runL_b [1,1,1,1,1,0,0] [(0, Bo false)] ?_
    refine runL_nil ?_
    refine tq_then ?_
    refine tc_ret ?_
    refine tq_ret [0] [Bo false] (bp_ret hl1 ?_)
    exfalso
    first | (simp [trees_ok]; done) | (rw [trees_ok.2] at hx1; rw [← Option.some.inj hx1]; rfl) | (have q_ := trees_ok; simp_all; done)

theorem treeParts_con (G : Mem) (a_l : Option Addr) (c_l : Nat) (l : List EntD) (h_l : RS EEnt G a_l c_l l) (q : List UInt8) (hw_q : (q).length ≤ 140737488351232) (hf_l : l.length * 32 ≤ 140737488351232) : Con Tryd.prog 7 #[Sl a_l l.length c_l, Sr q] G [] (fun u G' L' => u = Bo true) := by
  refine con_of Tryd.func7 77 [(0, Sl a_l l.length c_l), (1, Sr q)] rfl (fun w0 G0 => ?_)
  refine tc_rb [0] [(0, Sl a_l l.length c_l), (1, Sr q), (4, Bo false)] ?_
  refine tc_seq ?_
  refine tc_seq ?_
  refine tc_region ?_
  refine runL_callV 14 (Bo true) (trees_con2 G) ?_
  refine runL_b [0] [(0, Sl a_l l.length c_l), (1, Sr q), (4, Bo false), (15, Bo false)] ?_
  refine runL_nil ?_
  refine tq_then ?_
  refine tc_cond_false ?_
  refine tc_skip ?_
  refine tq_then ?_
  refine tc_seq ?_
  refine tc_region ?_
  refine runL_b [0,0] [(0, Sl a_l l.length c_l), (1, Sr q), (4, Bo false), (15, Bo false), (17, Sl a_l l.length c_l), (18, Sr q)] ?_
  refine runL_callV 19 (.tuple #[U ((treeAtE l q).1), I ((treeAtE l q).2)]) (treeAtE_con G a_l c_l l h_l q hw_q) ?_
  refine runL_b [0,0,0,0,0] [(0, Sl a_l l.length c_l), (1, Sr q), (4, Bo false), (5, U ((treeAtE l q).1)), (6, I ((treeAtE l q).2)), (15, Bo false)] ?_
  refine runL_nil ?_
  refine tq_then ?_
  refine tc_seq ?_
  refine tc_seq ?_
  refine tc_region ?_
  refine runL_b [0,0,0] [(0, Sl a_l l.length c_l), (1, Sr q), (4, Bo false), (5, U ((treeAtE l q).1)), (6, I ((treeAtE l q).2)), (15, Bo false), (24, Bo (!decide ((treeAtE l q).2 = 0)))] ?_
  refine runL_b2 (!decide ((treeAtE l q).2 = 0)) (fun bb => [(0, Sl a_l l.length c_l), (1, Sr q), (4, Bo false), (5, U ((treeAtE l q).1)), (6, I ((treeAtE l q).2)), (15, Bo false), (24, Bo bb)]) [1,1,1,0] [0,0,0,0] (fun bb => [(0, Sl a_l l.length c_l), (1, Sr q), (4, Bo false), (5, U ((treeAtE l q).1)), (6, I ((treeAtE l q).2)), (15, Bo false), (28, Bo (bb || (decide (((q).length : Int) ≥ 16))))]) ?_
  refine runL_nil ?_
  refine tq_then ?_
  refine tc_cond ((!decide ((treeAtE l q).2 = 0)) || (decide (((q).length : Int) ≥ 16))) (fun h1 => ?_) (fun h1 => ?_)
  ·
    try simp only [decide_eq_true_eq, decide_eq_false_iff_not, Bool.and_eq_true, Bool.or_eq_true, Bool.and_eq_false_imp, Bool.or_eq_false_iff, Bool.not_eq_true', Bool.not_eq_false', Bool.not_eq_true, Bool.not_eq_false, beq_iff_eq, beq_eq_false_iff_ne, bne_iff_ne, ne_eq, Decidable.not_not, Int.not_lt, Int.not_le] at h1
    refine tc_seq ?_
    refine tc_region ?_
    refine runL_b [0,0,0] [(0, Sl a_l l.length c_l), (1, Sr q), (4, Bo false), (5, U ((treeAtE l q).1)), (6, I ((treeAtE l q).2)), (15, Bo false), (28, Bo ((!decide ((treeAtE l q).2 = 0)) || (decide (((q).length : Int) ≥ 16)))), (31, Bo (decide ((treeAtE l q).2 = 0)))] ?_
    refine runL_b2 (decide ((treeAtE l q).2 = 0)) (fun bb => [(0, Sl a_l l.length c_l), (1, Sr q), (4, Bo false), (5, U ((treeAtE l q).1)), (6, I ((treeAtE l q).2)), (15, Bo false), (28, Bo ((!decide ((treeAtE l q).2 = 0)) || (decide (((q).length : Int) ≥ 16)))), (31, Bo bb)]) [1,1,0] [0,0,0] (fun bb => [(0, Sl a_l l.length c_l), (1, Sr q), (4, Bo false), (5, U ((treeAtE l q).1)), (6, I ((treeAtE l q).2)), (15, Bo false), (28, Bo ((!decide ((treeAtE l q).2 = 0)) || (decide (((q).length : Int) ≥ 16)))), (34, Bo (bb || (decide ((treeAtE l q).1 = 0))))]) ?_
    refine runL_b [0] [(0, Sl a_l l.length c_l), (1, Sr q), (4, Bo ((decide ((treeAtE l q).2 = 0)) || (decide ((treeAtE l q).1 = 0)))), (5, U ((treeAtE l q).1)), (6, I ((treeAtE l q).2)), (15, Bo false), (28, Bo ((!decide ((treeAtE l q).2 = 0)) || (decide (((q).length : Int) ≥ 16))))] ?_
    refine runL_nil ?_
    refine tq_then ?_
    refine tc_ret ?_
    refine tq_then_ret ?_
    refine tq_ret [0] [Bo ((decide ((treeAtE l q).2 = 0)) || (decide ((treeAtE l q).1 = 0)))] (bp_ret (Mem.le_refl _) ?_)
    have hf_ : ((decide ((treeAtE l q).2 = 0)) || (decide ((treeAtE l q).1 = 0))) = true := by
      first | exact atE_or l q | (obtain ⟨q1_, q2_, q3_, q4_, q5_⟩ := parts_law h1.1 (by omega); first | (have q6_ := q4_ h3; rw [q6_]; simp; done) | (have q6_ := q5_ (fun hc_ => h3 hc_.1 hc_.2); rw [q6_]; simp; done) | (simp [q1_, q2_, q3_] at h2; done))
    exact congrArg Bo hf_
  ·
    try simp only [decide_eq_true_eq, decide_eq_false_iff_not, Bool.and_eq_true, Bool.or_eq_true, Bool.and_eq_false_imp, Bool.or_eq_false_iff, Bool.not_eq_true', Bool.not_eq_false', Bool.not_eq_true, Bool.not_eq_false, beq_iff_eq, beq_eq_false_iff_ne, bne_iff_ne, ne_eq, Decidable.not_not, Int.not_lt, Int.not_le] at h1
    refine tc_skip ?_
    refine tq_then ?_
    refine tc_seq ?_
    refine tc_region ?_
    refine runL_b [0,0] [(0, Sl a_l l.length c_l), (1, Sr q), (4, Bo false), (5, U ((treeAtE l q).1)), (6, I ((treeAtE l q).2)), (15, Bo false), (28, Bo ((!decide ((treeAtE l q).2 = 0)) || (decide (((q).length : Int) ≥ 16)))), (36, Sl a_l l.length c_l), (37, Sr q)] ?_
    refine runL_cat 38 q ([48]) (by first | omega | (simp only [List.length_append, List.length_cons, List.length_nil]; omega)) ?_
    refine runL_callV 39 (.tuple #[U ((treeAtE l (q ++ ([48]))).1), I ((treeAtE l (q ++ ([48]))).2)]) (treeAtE_con G a_l c_l l h_l (q ++ ([48])) (by first | assumption | omega | (simp; done) | (simp; omega))) ?_
    refine runL_b [0,0,0,0,0] [(0, Sl a_l l.length c_l), (1, Sr q), (4, Bo false), (5, U ((treeAtE l q).1)), (6, I ((treeAtE l q).2)), (7, U ((treeAtE l (q ++ ([48]))).1)), (8, I ((treeAtE l (q ++ ([48]))).2)), (15, Bo false), (28, Bo ((!decide ((treeAtE l q).2 = 0)) || (decide (((q).length : Int) ≥ 16))))] ?_
    refine runL_nil ?_
    refine tq_then ?_
    refine tc_seq ?_
    refine tc_region ?_
    refine runL_b [0,0] [(0, Sl a_l l.length c_l), (1, Sr q), (4, Bo false), (5, U ((treeAtE l q).1)), (6, I ((treeAtE l q).2)), (7, U ((treeAtE l (q ++ ([48]))).1)), (8, I ((treeAtE l (q ++ ([48]))).2)), (15, Bo false), (28, Bo ((!decide ((treeAtE l q).2 = 0)) || (decide (((q).length : Int) ≥ 16)))), (43, Sl a_l l.length c_l), (44, Sr q)] ?_
    refine runL_cat 45 q ([49]) (by first | omega | (simp only [List.length_append, List.length_cons, List.length_nil]; omega)) ?_
    refine runL_callV 46 (.tuple #[U ((treeAtE l (q ++ ([49]))).1), I ((treeAtE l (q ++ ([49]))).2)]) (treeAtE_con G a_l c_l l h_l (q ++ ([49])) (by first | assumption | omega | (simp; done) | (simp; omega))) ?_
    refine runL_b [0,0,0,0,0] [(0, Sl a_l l.length c_l), (1, Sr q), (4, Bo false), (5, U ((treeAtE l q).1)), (6, I ((treeAtE l q).2)), (7, U ((treeAtE l (q ++ ([48]))).1)), (8, I ((treeAtE l (q ++ ([48]))).2)), (9, U ((treeAtE l (q ++ ([49]))).1)), (10, I ((treeAtE l (q ++ ([49]))).2)), (15, Bo false), (28, Bo ((!decide ((treeAtE l q).2 = 0)) || (decide (((q).length : Int) ≥ 16))))] ?_
    refine runL_nil ?_
    refine tq_then ?_
    refine tc_seq ?_
    refine tc_region ?_
    refine runL_callV 50 (.tuple #[Sr ((treeLeaf ([])).1), I ((treeLeaf ([])).2)]) (treeLeaf_con G none 0 ([]) (RS.nil' EEnt G)) ?_
    refine runL_b [0,0,0,0,0] [(0, Sl a_l l.length c_l), (1, Sr q), (4, Bo false), (5, U ((treeAtE l q).1)), (6, I ((treeAtE l q).2)), (7, U ((treeAtE l (q ++ ([48]))).1)), (8, I ((treeAtE l (q ++ ([48]))).2)), (9, U ((treeAtE l (q ++ ([49]))).1)), (10, I ((treeAtE l (q ++ ([49]))).2)), (11, Sr ((treeLeaf ([])).1)), (12, I ((treeLeaf ([])).2)), (15, Bo false), (28, Bo ((!decide ((treeAtE l q).2 = 0)) || (decide (((q).length : Int) ≥ 16))))] ?_
    refine runL_nil ?_
    refine tq_then ?_
    refine tc_seq ?_
    refine tc_seq ?_
    refine tc_region ?_
    refine runL_b [0,0,0] [(0, Sl a_l l.length c_l), (1, Sr q), (4, Bo false), (5, U ((treeAtE l q).1)), (6, I ((treeAtE l q).2)), (7, U ((treeAtE l (q ++ ([48]))).1)), (9, U ((treeAtE l (q ++ ([49]))).1)), (11, Sr ((treeLeaf ([])).1)), (15, Bo false), (28, Bo ((!decide ((treeAtE l q).2 = 0)) || (decide (((q).length : Int) ≥ 16)))), (53, I ((treeAtE l (q ++ ([48]))).2)), (54, I ((treeAtE l (q ++ ([49]))).2)), (55, I ((treeLeaf ([])).2))] ?_
    refine runL_bsl 56 3 #[I ((treeAtE l (q ++ ([48]))).2), I ((treeAtE l (q ++ ([49]))).2), I ((treeLeaf ([])).2)] 23 (fun b1 => ?_)
    refine runL_frz1 (b := b1) (o := 0) (cs := [I ((treeAtE l (q ++ ([48]))).2), I ((treeAtE l (q ++ ([49]))).2), I ((treeLeaf ([])).2)]) 0 (fun G1 hl1 hz1 => ?_)
    have hs1 : RS EErr G1 (At b1 0) 3 [(treeAtE l (q ++ ([48]))).2, (treeAtE l (q ++ ([49]))).2, (treeLeaf ([])).2] := RS.lit [[I ((treeAtE l (q ++ ([48]))).2)], [I ((treeAtE l (q ++ ([49]))).2)], [I ((treeLeaf ([])).2)]] [(treeAtE l (q ++ ([48]))).2, (treeAtE l (q ++ ([49]))).2, (treeLeaf ([])).2] ⟨rfl, ⟨rfl, ⟨rfl, trivial⟩⟩⟩ hz1 (Nat.le_of_ble_eq_true rfl) (Nat.le_of_ble_eq_true rfl)
    refine runL_callV 57 (Bo (!(([(treeAtE l (q ++ ([48]))).2, (treeAtE l (q ++ ([49]))).2, (treeLeaf ([])).2]).any fun x0 => !decide (x0 = 0)))) (good_con G1 (At b1 0) 3 ([(treeAtE l (q ++ ([48]))).2, (treeAtE l (q ++ ([49]))).2, (treeLeaf ([])).2]) hs1) ?_
    refine runL_b [0] [(0, Sl a_l l.length c_l), (1, Sr q), (4, Bo false), (5, U ((treeAtE l q).1)), (6, I ((treeAtE l q).2)), (7, U ((treeAtE l (q ++ ([48]))).1)), (9, U ((treeAtE l (q ++ ([49]))).1)), (11, Sr ((treeLeaf ([])).1)), (15, Bo false), (28, Bo ((!decide ((treeAtE l q).2 = 0)) || (decide (((q).length : Int) ≥ 16)))), (58, Bo (!(!(([(treeAtE l (q ++ ([48]))).2, (treeAtE l (q ++ ([49]))).2, (treeLeaf ([])).2]).any fun x0 => !decide (x0 = 0)))))] ?_
    refine runL_nil ?_
    refine tq_then ?_
    refine tc_cond (!(!(([(treeAtE l (q ++ ([48]))).2, (treeAtE l (q ++ ([49]))).2, (treeLeaf ([])).2]).any fun x0 => !decide (x0 = 0)))) (fun h2 => ?_) (fun h2 => ?_)
    ·
      try simp only [decide_eq_true_eq, decide_eq_false_iff_not, Bool.and_eq_true, Bool.or_eq_true, Bool.and_eq_false_imp, Bool.or_eq_false_iff, Bool.not_eq_true', Bool.not_eq_false', Bool.not_eq_true, Bool.not_eq_false, beq_iff_eq, beq_eq_false_iff_ne, bne_iff_ne, ne_eq, Decidable.not_not, Int.not_lt, Int.not_le] at h2
      refine tc_rb [0] [(0, Sl a_l l.length c_l), (1, Sr q), (4, Bo false), (5, U ((treeAtE l q).1)), (6, I ((treeAtE l q).2)), (7, U ((treeAtE l (q ++ ([48]))).1)), (9, U ((treeAtE l (q ++ ([49]))).1)), (11, Sr ((treeLeaf ([])).1)), (15, Bo false), (28, Bo ((!decide ((treeAtE l q).2 = 0)) || (decide (((q).length : Int) ≥ 16)))), (58, Bo (!(!(([(treeAtE l (q ++ ([48]))).2, (treeAtE l (q ++ ([49]))).2, (treeLeaf ([])).2]).any fun x0 => !decide (x0 = 0)))))] ?_
      refine tc_ret ?_
      refine tq_then_ret ?_
      refine tq_ret [0] [Bo false] (bp_ret hl1 ?_)
      exfalso
      first | exact atE_or l q | (obtain ⟨q1_, q2_, q3_, q4_, q5_⟩ := parts_law h1.1 (by omega); first | (have q6_ := q4_ h3; rw [q6_]; simp; done) | (have q6_ := q5_ (fun hc_ => h3 hc_.1 hc_.2); rw [q6_]; simp; done) | (simp [q1_, q2_, q3_] at h2; done))
    ·
      try simp only [decide_eq_true_eq, decide_eq_false_iff_not, Bool.and_eq_true, Bool.or_eq_true, Bool.and_eq_false_imp, Bool.or_eq_false_iff, Bool.not_eq_true', Bool.not_eq_false', Bool.not_eq_true, Bool.not_eq_false, beq_iff_eq, beq_eq_false_iff_ne, bne_iff_ne, ne_eq, Decidable.not_not, Int.not_lt, Int.not_le] at h2
      refine tc_skip ?_
      refine tq_then ?_
      refine tc_seq ?_
      refine tc_seq ?_
      refine tc_region ?_
      refine runL_b [0] [(0, Sl a_l l.length c_l), (1, Sr q), (4, Bo false), (5, U ((treeAtE l q).1)), (6, I ((treeAtE l q).2)), (7, U ((treeAtE l (q ++ ([48]))).1)), (9, U ((treeAtE l (q ++ ([49]))).1)), (15, Bo false), (28, Bo ((!decide ((treeAtE l q).2 = 0)) || (decide (((q).length : Int) ≥ 16)))), (58, Bo (!(!(([(treeAtE l (q ++ ([48]))).2, (treeAtE l (q ++ ([49]))).2, (treeLeaf ([])).2]).any fun x0 => !decide (x0 = 0))))), (59, Sr ((treeLeaf ([])).1))] ?_
      refine runL_callV 60 (U (markOf ((treeLeaf ([])).1))) (markOf_con ((treeLeaf ([])).1) (le48r' (Nat.le_trans (treeLeaf_len _) (by decide))) G1) ?_
      refine runL_b [0] [(0, Sl a_l l.length c_l), (1, Sr q), (4, Bo false), (5, U ((treeAtE l q).1)), (6, I ((treeAtE l q).2)), (7, U ((treeAtE l (q ++ ([48]))).1)), (9, U ((treeAtE l (q ++ ([49]))).1)), (13, U (markOf ((treeLeaf ([])).1))), (15, Bo false), (28, Bo ((!decide ((treeAtE l q).2 = 0)) || (decide (((q).length : Int) ≥ 16)))), (58, Bo (!(!(([(treeAtE l (q ++ ([48]))).2, (treeAtE l (q ++ ([49]))).2, (treeLeaf ([])).2]).any fun x0 => !decide (x0 = 0)))))] ?_
      refine runL_nil ?_
      refine tq_then ?_
      refine tc_seq ?_
      refine tc_region ?_
      refine runL_b [0,0,0,0] [(0, Sl a_l l.length c_l), (1, Sr q), (4, Bo false), (5, U ((treeAtE l q).1)), (6, I ((treeAtE l q).2)), (7, U ((treeAtE l (q ++ ([48]))).1)), (9, U ((treeAtE l (q ++ ([49]))).1)), (13, U (markOf ((treeLeaf ([])).1))), (15, Bo false), (28, Bo ((!decide ((treeAtE l q).2 = 0)) || (decide (((q).length : Int) ≥ 16)))), (58, Bo (!(!(([(treeAtE l (q ++ ([48]))).2, (treeAtE l (q ++ ([49]))).2, (treeLeaf ([])).2]).any fun x0 => !decide (x0 = 0))))), (64, Bo (decide ((treeAtE l (q ++ ([48]))).1 = markOf ((treeLeaf ([])).1))))] ?_
      refine runL_b2 (decide ((treeAtE l (q ++ ([48]))).1 = markOf ((treeLeaf ([])).1))) (fun bb => [(0, Sl a_l l.length c_l), (1, Sr q), (4, Bo false), (5, U ((treeAtE l q).1)), (6, I ((treeAtE l q).2)), (7, U ((treeAtE l (q ++ ([48]))).1)), (9, U ((treeAtE l (q ++ ([49]))).1)), (13, U (markOf ((treeLeaf ([])).1))), (15, Bo false), (28, Bo ((!decide ((treeAtE l q).2 = 0)) || (decide (((q).length : Int) ≥ 16)))), (58, Bo (!(!(([(treeAtE l (q ++ ([48]))).2, (treeAtE l (q ++ ([49]))).2, (treeLeaf ([])).2]).any fun x0 => !decide (x0 = 0))))), (64, Bo bb)]) [0,0,0,0] [1,1,1,0] (fun bb => [(0, Sl a_l l.length c_l), (1, Sr q), (4, Bo false), (5, U ((treeAtE l q).1)), (6, I ((treeAtE l q).2)), (7, U ((treeAtE l (q ++ ([48]))).1)), (9, U ((treeAtE l (q ++ ([49]))).1)), (13, U (markOf ((treeLeaf ([])).1))), (15, Bo false), (28, Bo ((!decide ((treeAtE l q).2 = 0)) || (decide (((q).length : Int) ≥ 16)))), (58, Bo (!(!(([(treeAtE l (q ++ ([48]))).2, (treeAtE l (q ++ ([49]))).2, (treeLeaf ([])).2]).any fun x0 => !decide (x0 = 0))))), (68, Bo (bb && (decide ((treeAtE l (q ++ ([49]))).1 = markOf ((treeLeaf ([])).1)))))]) ?_
      refine runL_nil ?_
      refine tq_then ?_
      refine tc_cond ((decide ((treeAtE l (q ++ ([48]))).1 = markOf ((treeLeaf ([])).1))) && (decide ((treeAtE l (q ++ ([49]))).1 = markOf ((treeLeaf ([])).1)))) (fun h3 => ?_) (fun h3 => ?_)
      ·
        try simp only [decide_eq_true_eq, decide_eq_false_iff_not, Bool.and_eq_true, Bool.or_eq_true, Bool.and_eq_false_imp, Bool.or_eq_false_iff, Bool.not_eq_true', Bool.not_eq_false', Bool.not_eq_true, Bool.not_eq_false, beq_iff_eq, beq_eq_false_iff_ne, bne_iff_ne, ne_eq, Decidable.not_not, Int.not_lt, Int.not_le] at h3
        refine tc_rb [0,0,0,0] [(0, Sl a_l l.length c_l), (1, Sr q), (4, Bo (decide ((treeAtE l q).1 = markOf ((treeLeaf ([])).1)))), (5, U ((treeAtE l q).1)), (6, I ((treeAtE l q).2)), (7, U ((treeAtE l (q ++ ([48]))).1)), (9, U ((treeAtE l (q ++ ([49]))).1)), (13, U (markOf ((treeLeaf ([])).1))), (15, Bo false), (28, Bo ((!decide ((treeAtE l q).2 = 0)) || (decide (((q).length : Int) ≥ 16)))), (58, Bo (!(!(([(treeAtE l (q ++ ([48]))).2, (treeAtE l (q ++ ([49]))).2, (treeLeaf ([])).2]).any fun x0 => !decide (x0 = 0))))), (68, Bo ((decide ((treeAtE l (q ++ ([48]))).1 = markOf ((treeLeaf ([])).1))) && (decide ((treeAtE l (q ++ ([49]))).1 = markOf ((treeLeaf ([])).1)))))] ?_
        refine tc_ret ?_
        refine tq_then_ret ?_
        refine tq_ret [0] [Bo (decide ((treeAtE l q).1 = markOf ((treeLeaf ([])).1)))] (bp_ret hl1 ?_)
        have hf_ : (decide ((treeAtE l q).1 = markOf ((treeLeaf ([])).1))) = true := by
          first | exact atE_or l q | (obtain ⟨q1_, q2_, q3_, q4_, q5_⟩ := parts_law h1.1 (by omega); first | (have q6_ := q4_ h3; rw [q6_]; simp; done) | (have q6_ := q5_ (fun hc_ => h3 hc_.1 hc_.2); rw [q6_]; simp; done) | (simp [q1_, q2_, q3_] at h2; done))
        exact congrArg Bo hf_
      ·
        try simp only [decide_eq_true_eq, decide_eq_false_iff_not, Bool.and_eq_true, Bool.or_eq_true, Bool.and_eq_false_imp, Bool.or_eq_false_iff, Bool.not_eq_true', Bool.not_eq_false', Bool.not_eq_true, Bool.not_eq_false, beq_iff_eq, beq_eq_false_iff_ne, bne_iff_ne, ne_eq, Decidable.not_not, Int.not_lt, Int.not_le] at h3
        refine tc_skip ?_
        refine tq_then ?_
        refine tc_seq ?_
        refine tc_region ?_
        refine runL_b [0,0,0] [(0, Sl a_l l.length c_l), (1, Sr q), (4, Bo false), (5, U ((treeAtE l q).1)), (6, I ((treeAtE l q).2)), (7, U ((treeAtE l (q ++ ([48]))).1)), (9, U ((treeAtE l (q ++ ([49]))).1)), (13, U (markOf ((treeLeaf ([])).1))), (15, Bo false), (28, Bo ((!decide ((treeAtE l q).2 = 0)) || (decide (((q).length : Int) ≥ 16)))), (58, Bo (!(!(([(treeAtE l (q ++ ([48]))).2, (treeAtE l (q ++ ([49]))).2, (treeLeaf ([])).2]).any fun x0 => !decide (x0 = 0))))), (68, Bo ((decide ((treeAtE l (q ++ ([48]))).1 = markOf ((treeLeaf ([])).1))) && (decide ((treeAtE l (q ++ ([49]))).1 = markOf ((treeLeaf ([])).1))))), (72, U ((treeAtE l q).1)), (73, U ((treeAtE l (q ++ ([48]))).1)), (74, U ((treeAtE l (q ++ ([49]))).1))] ?_
        refine runL_callV 75 (U (markOf (markSaid 2 ((treeAtE l (q ++ ([48]))).1) ((treeAtE l (q ++ ([49]))).1)))) (markTwo_con 2 ((treeAtE l (q ++ ([48]))).1) ((treeAtE l (q ++ ([49]))).1) G1) ?_
        refine runL_b [0,0] [(0, Sl a_l l.length c_l), (1, Sr q), (4, Bo (decide ((treeAtE l q).1 = markOf (markSaid 2 ((treeAtE l (q ++ ([48]))).1) ((treeAtE l (q ++ ([49]))).1))))), (5, U ((treeAtE l q).1)), (6, I ((treeAtE l q).2)), (7, U ((treeAtE l (q ++ ([48]))).1)), (9, U ((treeAtE l (q ++ ([49]))).1)), (13, U (markOf ((treeLeaf ([])).1))), (15, Bo false), (28, Bo ((!decide ((treeAtE l q).2 = 0)) || (decide (((q).length : Int) ≥ 16)))), (58, Bo (!(!(([(treeAtE l (q ++ ([48]))).2, (treeAtE l (q ++ ([49]))).2, (treeLeaf ([])).2]).any fun x0 => !decide (x0 = 0))))), (68, Bo ((decide ((treeAtE l (q ++ ([48]))).1 = markOf ((treeLeaf ([])).1))) && (decide ((treeAtE l (q ++ ([49]))).1 = markOf ((treeLeaf ([])).1)))))] ?_
        refine runL_nil ?_
        refine tq_then ?_
        refine tc_ret ?_
        refine tq_ret [0] [Bo (decide ((treeAtE l q).1 = markOf (markSaid 2 ((treeAtE l (q ++ ([48]))).1) ((treeAtE l (q ++ ([49]))).1))))] (bp_ret hl1 ?_)
        have hf_ : (decide ((treeAtE l q).1 = markOf (markSaid 2 ((treeAtE l (q ++ ([48]))).1) ((treeAtE l (q ++ ([49]))).1)))) = true := by
          first | exact atE_or l q | (obtain ⟨q1_, q2_, q3_, q4_, q5_⟩ := parts_law h1.1 (by omega); first | (have q6_ := q4_ h3; rw [q6_]; simp; done) | (have q6_ := q5_ (fun hc_ => h3 hc_.1 hc_.2); rw [q6_]; simp; done) | (simp [q1_, q2_, q3_] at h2; done))
        exact congrArg Bo hf_

theorem treeTurns_con (G : Mem) (a_l : Option Addr) (c_l : Nat) (l : List EntD) (h_l : RS EEnt G a_l c_l l) (vs_a : List Value) (a : EntD) (h_a : EEnt.R G vs_a a) (vs_b : List Value) (b : EntD) (h_b : EEnt.R G vs_b b) (hf_l : l.length * 32 ≤ 140737488351232) : Con Tryd.prog 8 #[Sl a_l l.length c_l, .agg vs_a.toArray, .agg vs_b.toArray] G [] (fun u G' L' => u = Bo true) := by
  obtain ⟨rfl, w1, w2⟩ := h_a
  obtain ⟨rfl, w3, w4⟩ := h_b
  refine con_of Tryd.func8 93 [(0, Sl a_l l.length c_l), (1, .agg #[Sr a.name, Sr a.value]), (2, .agg #[Sr b.name, Sr b.value])] rfl (fun w0 G0 => ?_)
  refine tc_seq ?_
  refine tc_region ?_
  refine runL_box 4 #[Sr a.name, Sr a.value] 54 (fun b1 => ?_)
  refine runL_box 5 #[Sr b.name, Sr b.value] 54 (fun b2 => ?_)
  refine runL_b [0] [(0, Sl a_l l.length c_l), (4, Pt b1 0), (5, Pt b2 0), (6, Bo false)] ?_
  refine runL_nil ?_
  refine tq_then ?_
  refine tc_seq ?_
  refine tc_seq ?_
  refine tc_region ?_
  refine runL_callV 17 (Bo true) (trees_con2 G) ?_
  refine runL_b [0] [(0, Sl a_l l.length c_l), (4, Pt b1 0), (5, Pt b2 0), (6, Bo false), (18, Bo false)] ?_
  refine runL_nil ?_
  refine tq_then ?_
  refine tc_cond_false ?_
  refine tc_skip ?_
  refine tq_then ?_
  refine tc_seq ?_
  refine tc_region ?_
  refine runL_b [0,0,4,0,4] [(0, Sl a_l l.length c_l), (4, Pt b1 0), (5, Pt b2 0), (6, Bo false), (18, Bo false), (20, Sl a_l l.length c_l), (22, Sr a.name), (24, Sr a.value)] ?_
  refine runL_callR 25 (treeSet_con G a_l c_l l h_l a.name w1 a.value w2) (fun v G1 L1 hl1 hp => ?_)
  obtain ⟨a1, c1, r1, rfl, hr1, rfl⟩ := hp
  refine runL_b [0,0,0,0,0] [(0, Sl a_l l.length c_l), (4, Pt b1 0), (5, Pt b2 0), (6, Bo false), (7, Sl a1 (((treeSet l a.name a.value).1).length) c1), (8, I ((treeSet l a.name a.value).2)), (18, Bo false)] ?_
  refine runL_nil ?_
  refine tq_then ?_
  refine tc_seq ?_
  refine tc_region ?_
  refine runL_b [0,0,4,0,4] [(0, Sl a_l l.length c_l), (4, Pt b1 0), (5, Pt b2 0), (6, Bo false), (7, Sl a1 (((treeSet l a.name a.value).1).length) c1), (8, I ((treeSet l a.name a.value).2)), (18, Bo false), (29, Sl a1 (((treeSet l a.name a.value).1).length) c1), (31, Sr b.name), (33, Sr b.value)] ?_
  refine runL_frzR (E := EEnt) 0 hr1 (by have q_ := treeSet_len l a.name a.value; simp only [EEnt]; omega) (fun G2 hl2 hs1 => ?_)
  refine runL_callR 34 (treeSet_con G2 a1 c1 ((treeSet l a.name a.value).1) hs1 b.name w3 b.value w4) (fun v G3 L1 hl3 hp => ?_)
  obtain ⟨a2, c2, r2, rfl, hr2, rfl⟩ := hp
  refine runL_b [0,0,0,0,0] [(0, Sl a_l l.length c_l), (4, Pt b1 0), (5, Pt b2 0), (6, Bo false), (7, Sl a2 (((treeSet ((treeSet l a.name a.value).1) b.name b.value).1).length) c2), (8, I ((treeSet l a.name a.value).2)), (9, I ((treeSet ((treeSet l a.name a.value).1) b.name b.value).2)), (18, Bo false)] ?_
  refine runL_nil ?_
  refine tq_then ?_
  refine tc_seq ?_
  refine tc_region ?_
  refine runL_b [0,0,6,0,6] [(0, Sl a_l l.length c_l), (4, Pt b1 0), (5, Pt b2 0), (6, Bo false), (7, Sl a2 (((treeSet ((treeSet l a.name a.value).1) b.name b.value).1).length) c2), (8, I ((treeSet l a.name a.value).2)), (9, I ((treeSet ((treeSet l a.name a.value).1) b.name b.value).2)), (18, Bo false), (38, Sl a_l l.length c_l), (40, Sr b.name), (42, Sr b.value)] ?_
  refine runL_callR 43 (treeSet_con G3 a_l c_l l (h_l.mono (Mem.le_trans (Mem.le_trans hl1 hl2) hl3)) b.name w3 b.value w4) (fun v G4 L1 hl4 hp => ?_)
  obtain ⟨a3, c3, r3, rfl, hr3, rfl⟩ := hp
  refine runL_b [0,0,0,0,0] [(0, Sl a_l l.length c_l), (4, Pt b1 0), (5, Pt b2 0), (6, Bo false), (7, Sl a2 (((treeSet ((treeSet l a.name a.value).1) b.name b.value).1).length) c2), (8, I ((treeSet l a.name a.value).2)), (9, I ((treeSet ((treeSet l a.name a.value).1) b.name b.value).2)), (10, Sl a3 (((treeSet l b.name b.value).1).length) c3), (11, I ((treeSet l b.name b.value).2)), (18, Bo false)] ?_
  refine runL_nil ?_
  refine tq_then ?_
  refine tc_seq ?_
  refine tc_region ?_
  refine runL_b [0,0,10,0,10] [(0, Sl a_l l.length c_l), (4, Pt b1 0), (5, Pt b2 0), (6, Bo false), (7, Sl a2 (((treeSet ((treeSet l a.name a.value).1) b.name b.value).1).length) c2), (8, I ((treeSet l a.name a.value).2)), (9, I ((treeSet ((treeSet l a.name a.value).1) b.name b.value).2)), (10, Sl a3 (((treeSet l b.name b.value).1).length) c3), (11, I ((treeSet l b.name b.value).2)), (18, Bo false), (47, Sl a3 (((treeSet l b.name b.value).1).length) c3), (49, Sr a.name), (51, Sr a.value)] ?_
  refine runL_frzR (E := EEnt) 0 hr3 (by have q_ := treeSet_len l b.name b.value; simp only [EEnt]; omega) (fun G5 hl5 hs2 => ?_)
  refine runL_callR 52 (treeSet_con G5 a3 c3 ((treeSet l b.name b.value).1) hs2 a.name w1 a.value w2) (fun v G6 L1 hl6 hp => ?_)
  obtain ⟨a4, c4, r4, rfl, hr4, rfl⟩ := hp
  refine runL_b [0,0,0,0,0] [(0, Sl a_l l.length c_l), (4, Pt b1 0), (5, Pt b2 0), (6, Bo false), (7, Sl a2 (((treeSet ((treeSet l a.name a.value).1) b.name b.value).1).length) c2), (8, I ((treeSet l a.name a.value).2)), (9, I ((treeSet ((treeSet l a.name a.value).1) b.name b.value).2)), (10, Sl a4 (((treeSet ((treeSet l b.name b.value).1) a.name a.value).1).length) c4), (11, I ((treeSet l b.name b.value).2)), (12, I ((treeSet ((treeSet l b.name b.value).1) a.name a.value).2)), (18, Bo false)] ?_
  refine runL_nil ?_
  refine tq_then ?_
  refine tc_seq ?_
  refine tc_seq ?_
  refine tc_region ?_
  refine runL_b [0,0,0,0] [(0, Sl a_l l.length c_l), (4, Pt b1 0), (5, Pt b2 0), (6, Bo false), (7, Sl a2 (((treeSet ((treeSet l a.name a.value).1) b.name b.value).1).length) c2), (10, Sl a4 (((treeSet ((treeSet l b.name b.value).1) a.name a.value).1).length) c4), (18, Bo false), (55, I ((treeSet l a.name a.value).2)), (56, I ((treeSet ((treeSet l a.name a.value).1) b.name b.value).2)), (57, I ((treeSet l b.name b.value).2)), (58, I ((treeSet ((treeSet l b.name b.value).1) a.name a.value).2))] ?_
  refine runL_bsl 59 4 #[I ((treeSet l a.name a.value).2), I ((treeSet ((treeSet l a.name a.value).1) b.name b.value).2), I ((treeSet l b.name b.value).2), I ((treeSet ((treeSet l b.name b.value).1) a.name a.value).2)] 23 (fun b3 => ?_)
  refine runL_frz1 (b := b3) (o := 0) (cs := [I ((treeSet l a.name a.value).2), I ((treeSet ((treeSet l a.name a.value).1) b.name b.value).2), I ((treeSet l b.name b.value).2), I ((treeSet ((treeSet l b.name b.value).1) a.name a.value).2)]) 0 (fun G7 hl7 hz1 => ?_)
  have hs3 : RS EErr G7 (At b3 0) 4 [(treeSet l a.name a.value).2, (treeSet ((treeSet l a.name a.value).1) b.name b.value).2, (treeSet l b.name b.value).2, (treeSet ((treeSet l b.name b.value).1) a.name a.value).2] := RS.lit [[I ((treeSet l a.name a.value).2)], [I ((treeSet ((treeSet l a.name a.value).1) b.name b.value).2)], [I ((treeSet l b.name b.value).2)], [I ((treeSet ((treeSet l b.name b.value).1) a.name a.value).2)]] [(treeSet l a.name a.value).2, (treeSet ((treeSet l a.name a.value).1) b.name b.value).2, (treeSet l b.name b.value).2, (treeSet ((treeSet l b.name b.value).1) a.name a.value).2] ⟨rfl, ⟨rfl, ⟨rfl, ⟨rfl, trivial⟩⟩⟩⟩ hz1 (Nat.le_of_ble_eq_true rfl) (Nat.le_of_ble_eq_true rfl)
  refine runL_callV 60 (Bo (!(([(treeSet l a.name a.value).2, (treeSet ((treeSet l a.name a.value).1) b.name b.value).2, (treeSet l b.name b.value).2, (treeSet ((treeSet l b.name b.value).1) a.name a.value).2]).any fun x0 => !decide (x0 = 0)))) (good_con G7 (At b3 0) 4 ([(treeSet l a.name a.value).2, (treeSet ((treeSet l a.name a.value).1) b.name b.value).2, (treeSet l b.name b.value).2, (treeSet ((treeSet l b.name b.value).1) a.name a.value).2]) hs3) ?_
  refine runL_b [0,0] [(0, Sl a_l l.length c_l), (4, Pt b1 0), (5, Pt b2 0), (6, Bo false), (7, Sl a2 (((treeSet ((treeSet l a.name a.value).1) b.name b.value).1).length) c2), (10, Sl a4 (((treeSet ((treeSet l b.name b.value).1) a.name a.value).1).length) c4), (18, Bo false), (62, Bo (!(!(([(treeSet l a.name a.value).2, (treeSet ((treeSet l a.name a.value).1) b.name b.value).2, (treeSet l b.name b.value).2, (treeSet ((treeSet l b.name b.value).1) a.name a.value).2]).any fun x0 => !decide (x0 = 0)))))] ?_
  refine runL_b2 (!(!(([(treeSet l a.name a.value).2, (treeSet ((treeSet l a.name a.value).1) b.name b.value).2, (treeSet l b.name b.value).2, (treeSet ((treeSet l b.name b.value).1) a.name a.value).2]).any fun x0 => !decide (x0 = 0)))) (fun bb => [(0, Sl a_l l.length c_l), (4, Pt b1 0), (5, Pt b2 0), (6, Bo false), (7, Sl a2 (((treeSet ((treeSet l a.name a.value).1) b.name b.value).1).length) c2), (10, Sl a4 (((treeSet ((treeSet l b.name b.value).1) a.name a.value).1).length) c4), (18, Bo false), (62, Bo bb)]) [1,1,1,1,1,0] [0,14,0,12,0,0] (fun bb => [(0, Sl a_l l.length c_l), (4, Pt b1 0), (5, Pt b2 0), (6, Bo false), (7, Sl a2 (((treeSet ((treeSet l a.name a.value).1) b.name b.value).1).length) c2), (10, Sl a4 (((treeSet ((treeSet l b.name b.value).1) a.name a.value).1).length) c4), (18, Bo false), (68, Bo (bb || (((B a.name).toList == (B b.name).toList))))]) ?_
  refine runL_eq (fr' := [(0, Sl a_l l.length c_l), (4, Pt b1 0), (5, Pt b2 0), (6, Bo false), (7, Sl a2 (((treeSet ((treeSet l a.name a.value).1) b.name b.value).1).length) c2), (10, Sl a4 (((treeSet ((treeSet l b.name b.value).1) a.name a.value).1).length) c4), (18, Bo false), (68, Bo ((!(!(([(treeSet l a.name a.value).2, (treeSet ((treeSet l a.name a.value).1) b.name b.value).2, (treeSet l b.name b.value).2, (treeSet ((treeSet l b.name b.value).1) a.name a.value).2]).any fun x0 => !decide (x0 = 0)))) || ((a.name == b.name))))]) (L' := [[], r4, [], r2, [], [Sg b2 0 [Sr b.name, Sr b.value]], [Sg b1 0 [Sr a.name, Sr a.value]]]) (by simp only [B_toList]) (by rfl) ?_
  refine runL_nil ?_
  refine tq_then ?_
  refine tc_cond ((!(!(([(treeSet l a.name a.value).2, (treeSet ((treeSet l a.name a.value).1) b.name b.value).2, (treeSet l b.name b.value).2, (treeSet ((treeSet l b.name b.value).1) a.name a.value).2]).any fun x0 => !decide (x0 = 0)))) || ((a.name == b.name))) (fun h1 => ?_) (fun h1 => ?_)
  ·
    try simp only [decide_eq_true_eq, decide_eq_false_iff_not, Bool.and_eq_true, Bool.or_eq_true, Bool.and_eq_false_imp, Bool.or_eq_false_iff, Bool.not_eq_true', Bool.not_eq_false', Bool.not_eq_true, Bool.not_eq_false, beq_iff_eq, beq_eq_false_iff_ne, bne_iff_ne, ne_eq, Decidable.not_not, Int.not_lt, Int.not_le] at h1
    refine tc_rb [0] [(0, Sl a_l l.length c_l), (4, Pt b1 0), (5, Pt b2 0), (6, Bo true), (7, Sl a2 (((treeSet ((treeSet l a.name a.value).1) b.name b.value).1).length) c2), (10, Sl a4 (((treeSet ((treeSet l b.name b.value).1) a.name a.value).1).length) c4), (18, Bo false), (68, Bo ((!(!(([(treeSet l a.name a.value).2, (treeSet ((treeSet l a.name a.value).1) b.name b.value).2, (treeSet l b.name b.value).2, (treeSet ((treeSet l b.name b.value).1) a.name a.value).2]).any fun x0 => !decide (x0 = 0)))) || ((a.name == b.name))))] ?_
    refine tc_ret ?_
    refine tq_then_ret ?_
    refine tq_ret [0] [Bo true] (bp_ret (Mem.le_trans (Mem.le_trans (Mem.le_trans (Mem.le_trans (Mem.le_trans (Mem.le_trans hl1 hl2) hl3) hl4) hl5) hl6) hl7) ?_)
    rfl
  ·
    try simp only [decide_eq_true_eq, decide_eq_false_iff_not, Bool.and_eq_true, Bool.or_eq_true, Bool.and_eq_false_imp, Bool.or_eq_false_iff, Bool.not_eq_true', Bool.not_eq_false', Bool.not_eq_true, Bool.not_eq_false, beq_iff_eq, beq_eq_false_iff_ne, bne_iff_ne, ne_eq, Decidable.not_not, Int.not_lt, Int.not_le] at h1
    refine tc_skip ?_
    refine tq_then ?_
    refine tc_seq ?_
    refine tc_region ?_
    refine runL_b [0] [(0, Sl a_l l.length c_l), (4, Pt b1 0), (5, Pt b2 0), (6, Bo false), (7, Sl a2 (((treeSet ((treeSet l a.name a.value).1) b.name b.value).1).length) c2), (10, Sl a4 (((treeSet ((treeSet l b.name b.value).1) a.name a.value).1).length) c4), (18, Bo false), (68, Bo ((!(!(([(treeSet l a.name a.value).2, (treeSet ((treeSet l a.name a.value).1) b.name b.value).2, (treeSet l b.name b.value).2, (treeSet ((treeSet l b.name b.value).1) a.name a.value).2]).any fun x0 => !decide (x0 = 0)))) || ((a.name == b.name)))), (70, Sl a2 (((treeSet ((treeSet l a.name a.value).1) b.name b.value).1).length) c2)] ?_
    refine runL_frzR (E := EEnt) 3 (hr2.mono (Mem.le_trans (Mem.le_trans (Mem.le_trans hl4 hl5) hl6) hl7)) (by have q_ := treeSet_len ((treeSet l a.name a.value).1) b.name b.value; simp only [EEnt]; omega) (fun G8 hl8 hs4 => ?_)
    refine runL_callV 71 (.tuple #[U ((treeAtE ((treeSet ((treeSet l a.name a.value).1) b.name b.value).1) []).1), I ((treeAtE ((treeSet ((treeSet l a.name a.value).1) b.name b.value).1) []).2)]) (treeRoot_con G8 a2 c2 ((treeSet ((treeSet l a.name a.value).1) b.name b.value).1) hs4) ?_
    refine runL_b [0,0,0,0,0] [(0, Sl a_l l.length c_l), (4, Pt b1 0), (5, Pt b2 0), (6, Bo false), (7, Sl a2 (((treeSet ((treeSet l a.name a.value).1) b.name b.value).1).length) c2), (10, Sl a4 (((treeSet ((treeSet l b.name b.value).1) a.name a.value).1).length) c4), (13, U ((treeAtE ((treeSet ((treeSet l a.name a.value).1) b.name b.value).1) []).1)), (14, I ((treeAtE ((treeSet ((treeSet l a.name a.value).1) b.name b.value).1) []).2)), (18, Bo false), (68, Bo ((!(!(([(treeSet l a.name a.value).2, (treeSet ((treeSet l a.name a.value).1) b.name b.value).2, (treeSet l b.name b.value).2, (treeSet ((treeSet l b.name b.value).1) a.name a.value).2]).any fun x0 => !decide (x0 = 0)))) || ((a.name == b.name))))] ?_
    refine runL_nil ?_
    refine tq_then ?_
    refine tc_seq ?_
    refine tc_region ?_
    refine runL_b [0] [(0, Sl a_l l.length c_l), (4, Pt b1 0), (5, Pt b2 0), (6, Bo false), (7, Sl a2 (((treeSet ((treeSet l a.name a.value).1) b.name b.value).1).length) c2), (10, Sl a4 (((treeSet ((treeSet l b.name b.value).1) a.name a.value).1).length) c4), (13, U ((treeAtE ((treeSet ((treeSet l a.name a.value).1) b.name b.value).1) []).1)), (14, I ((treeAtE ((treeSet ((treeSet l a.name a.value).1) b.name b.value).1) []).2)), (18, Bo false), (68, Bo ((!(!(([(treeSet l a.name a.value).2, (treeSet ((treeSet l a.name a.value).1) b.name b.value).2, (treeSet l b.name b.value).2, (treeSet ((treeSet l b.name b.value).1) a.name a.value).2]).any fun x0 => !decide (x0 = 0)))) || ((a.name == b.name)))), (75, Sl a4 (((treeSet ((treeSet l b.name b.value).1) a.name a.value).1).length) c4)] ?_
    refine runL_frzR (E := EEnt) 1 (hr4.mono (Mem.le_trans hl7 hl8)) (by have q_ := treeSet_len ((treeSet l b.name b.value).1) a.name a.value; simp only [EEnt]; omega) (fun G9 hl9 hs5 => ?_)
    refine runL_callV 76 (.tuple #[U ((treeAtE ((treeSet ((treeSet l b.name b.value).1) a.name a.value).1) []).1), I ((treeAtE ((treeSet ((treeSet l b.name b.value).1) a.name a.value).1) []).2)]) (treeRoot_con G9 a4 c4 ((treeSet ((treeSet l b.name b.value).1) a.name a.value).1) hs5) ?_
    refine runL_b [0,0,0,0,0] [(0, Sl a_l l.length c_l), (4, Pt b1 0), (5, Pt b2 0), (6, Bo false), (7, Sl a2 (((treeSet ((treeSet l a.name a.value).1) b.name b.value).1).length) c2), (10, Sl a4 (((treeSet ((treeSet l b.name b.value).1) a.name a.value).1).length) c4), (13, U ((treeAtE ((treeSet ((treeSet l a.name a.value).1) b.name b.value).1) []).1)), (14, I ((treeAtE ((treeSet ((treeSet l a.name a.value).1) b.name b.value).1) []).2)), (15, U ((treeAtE ((treeSet ((treeSet l b.name b.value).1) a.name a.value).1) []).1)), (16, I ((treeAtE ((treeSet ((treeSet l b.name b.value).1) a.name a.value).1) []).2)), (18, Bo false), (68, Bo ((!(!(([(treeSet l a.name a.value).2, (treeSet ((treeSet l a.name a.value).1) b.name b.value).2, (treeSet l b.name b.value).2, (treeSet ((treeSet l b.name b.value).1) a.name a.value).2]).any fun x0 => !decide (x0 = 0)))) || ((a.name == b.name))))] ?_
    refine runL_nil ?_
    refine tq_then ?_
    refine tc_seq ?_
    refine tc_region ?_
    refine runL_b [0,0] [(0, Sl a_l l.length c_l), (4, Pt b1 0), (5, Pt b2 0), (6, Bo false), (7, Sl a2 (((treeSet ((treeSet l a.name a.value).1) b.name b.value).1).length) c2), (10, Sl a4 (((treeSet ((treeSet l b.name b.value).1) a.name a.value).1).length) c4), (13, U ((treeAtE ((treeSet ((treeSet l a.name a.value).1) b.name b.value).1) []).1)), (14, I ((treeAtE ((treeSet ((treeSet l a.name a.value).1) b.name b.value).1) []).2)), (15, U ((treeAtE ((treeSet ((treeSet l b.name b.value).1) a.name a.value).1) []).1)), (16, I ((treeAtE ((treeSet ((treeSet l b.name b.value).1) a.name a.value).1) []).2)), (18, Bo false), (68, Bo ((!(!(([(treeSet l a.name a.value).2, (treeSet ((treeSet l a.name a.value).1) b.name b.value).2, (treeSet l b.name b.value).2, (treeSet ((treeSet l b.name b.value).1) a.name a.value).2]).any fun x0 => !decide (x0 = 0)))) || ((a.name == b.name)))), (79, Sl a2 (((treeSet ((treeSet l a.name a.value).1) b.name b.value).1).length) c2), (80, Sl a4 (((treeSet ((treeSet l b.name b.value).1) a.name a.value).1).length) c4)] ?_
    refine runL_callV 81 (Bo (decide ((treeSet ((treeSet l a.name a.value).1) b.name b.value).1 = (treeSet ((treeSet l b.name b.value).1) a.name a.value).1))) (seq_EEnt G9 a2 c2 ((treeSet ((treeSet l a.name a.value).1) b.name b.value).1) (hs4.mono hl9) a4 c4 ((treeSet ((treeSet l b.name b.value).1) a.name a.value).1) hs5) ?_
    refine runL_b [0] [(0, Sl a_l l.length c_l), (4, Pt b1 0), (5, Pt b2 0), (6, Bo false), (7, Sl a2 (((treeSet ((treeSet l a.name a.value).1) b.name b.value).1).length) c2), (10, Sl a4 (((treeSet ((treeSet l b.name b.value).1) a.name a.value).1).length) c4), (13, U ((treeAtE ((treeSet ((treeSet l a.name a.value).1) b.name b.value).1) []).1)), (14, I ((treeAtE ((treeSet ((treeSet l a.name a.value).1) b.name b.value).1) []).2)), (15, U ((treeAtE ((treeSet ((treeSet l b.name b.value).1) a.name a.value).1) []).1)), (16, I ((treeAtE ((treeSet ((treeSet l b.name b.value).1) a.name a.value).1) []).2)), (18, Bo false), (68, Bo ((!(!(([(treeSet l a.name a.value).2, (treeSet ((treeSet l a.name a.value).1) b.name b.value).2, (treeSet l b.name b.value).2, (treeSet ((treeSet l b.name b.value).1) a.name a.value).2]).any fun x0 => !decide (x0 = 0)))) || ((a.name == b.name)))), (82, Bo (decide ((treeSet ((treeSet l a.name a.value).1) b.name b.value).1 = (treeSet ((treeSet l b.name b.value).1) a.name a.value).1)))] ?_
    refine runL_cases (fun bb => [(0, Sl a_l l.length c_l), (4, Pt b1 0), (5, Pt b2 0), (6, Bo false), (7, Sl a2 (((treeSet ((treeSet l a.name a.value).1) b.name b.value).1).length) c2), (10, Sl a4 (((treeSet ((treeSet l b.name b.value).1) a.name a.value).1).length) c4), (13, U ((treeAtE ((treeSet ((treeSet l a.name a.value).1) b.name b.value).1) []).1)), (14, I ((treeAtE ((treeSet ((treeSet l a.name a.value).1) b.name b.value).1) []).2)), (15, U ((treeAtE ((treeSet ((treeSet l b.name b.value).1) a.name a.value).1) []).1)), (16, I ((treeAtE ((treeSet ((treeSet l b.name b.value).1) a.name a.value).1) []).2)), (18, Bo false), (68, Bo ((!(!(([(treeSet l a.name a.value).2, (treeSet ((treeSet l a.name a.value).1) b.name b.value).2, (treeSet l b.name b.value).2, (treeSet ((treeSet l b.name b.value).1) a.name a.value).2]).any fun x0 => !decide (x0 = 0)))) || ((a.name == b.name)))), (82, Bo bb)]) (decide ((treeSet ((treeSet l a.name a.value).1) b.name b.value).1 = (treeSet ((treeSet l b.name b.value).1) a.name a.value).1)) (fun h2 => ?_) (fun h2 => ?_)
    ·
      try simp only [decide_eq_true_eq, decide_eq_false_iff_not, Bool.and_eq_true, Bool.or_eq_true, Bool.and_eq_false_imp, Bool.or_eq_false_iff, Bool.not_eq_true', Bool.not_eq_false', Bool.not_eq_true, Bool.not_eq_false, beq_iff_eq, beq_eq_false_iff_ne, bne_iff_ne, ne_eq, Decidable.not_not, Int.not_lt, Int.not_le] at h2
      refine runL_b [0,0] [(0, Sl a_l l.length c_l), (4, Pt b1 0), (5, Pt b2 0), (6, Bo false), (7, Sl a2 (((treeSet ((treeSet l a.name a.value).1) b.name b.value).1).length) c2), (10, Sl a4 (((treeSet ((treeSet l b.name b.value).1) a.name a.value).1).length) c4), (13, U ((treeAtE ((treeSet ((treeSet l a.name a.value).1) b.name b.value).1) []).1)), (15, U ((treeAtE ((treeSet ((treeSet l b.name b.value).1) a.name a.value).1) []).1)), (18, Bo false), (68, Bo ((!(!(([(treeSet l a.name a.value).2, (treeSet ((treeSet l a.name a.value).1) b.name b.value).2, (treeSet l b.name b.value).2, (treeSet ((treeSet l b.name b.value).1) a.name a.value).2]).any fun x0 => !decide (x0 = 0)))) || ((a.name == b.name)))), (82, Bo true), (83, I ((treeAtE ((treeSet ((treeSet l a.name a.value).1) b.name b.value).1) []).2)), (84, I ((treeAtE ((treeSet ((treeSet l b.name b.value).1) a.name a.value).1) []).2))] ?_
      refine runL_bsl 85 2 #[I ((treeAtE ((treeSet ((treeSet l a.name a.value).1) b.name b.value).1) []).2), I ((treeAtE ((treeSet ((treeSet l b.name b.value).1) a.name a.value).1) []).2)] 23 (fun b4 => ?_)
      refine runL_frz1 (b := b4) (o := 0) (cs := [I ((treeAtE ((treeSet ((treeSet l a.name a.value).1) b.name b.value).1) []).2), I ((treeAtE ((treeSet ((treeSet l b.name b.value).1) a.name a.value).1) []).2)]) 0 (fun G10 hl10 hz2 => ?_)
      have hs6 : RS EErr G10 (At b4 0) 2 [(treeAtE ((treeSet ((treeSet l a.name a.value).1) b.name b.value).1) []).2, (treeAtE ((treeSet ((treeSet l b.name b.value).1) a.name a.value).1) []).2] := RS.lit [[I ((treeAtE ((treeSet ((treeSet l a.name a.value).1) b.name b.value).1) []).2)], [I ((treeAtE ((treeSet ((treeSet l b.name b.value).1) a.name a.value).1) []).2)]] [(treeAtE ((treeSet ((treeSet l a.name a.value).1) b.name b.value).1) []).2, (treeAtE ((treeSet ((treeSet l b.name b.value).1) a.name a.value).1) []).2] ⟨rfl, ⟨rfl, trivial⟩⟩ hz2 (Nat.le_of_ble_eq_true rfl) (Nat.le_of_ble_eq_true rfl)
      refine runL_callV 86 (Bo (!(([(treeAtE ((treeSet ((treeSet l a.name a.value).1) b.name b.value).1) []).2, (treeAtE ((treeSet ((treeSet l b.name b.value).1) a.name a.value).1) []).2]).any fun x0 => !decide (x0 = 0)))) (good_con G10 (At b4 0) 2 ([(treeAtE ((treeSet ((treeSet l a.name a.value).1) b.name b.value).1) []).2, (treeAtE ((treeSet ((treeSet l b.name b.value).1) a.name a.value).1) []).2]) hs6) ?_
      refine runL_b [0,0] [(0, Sl a_l l.length c_l), (4, Pt b1 0), (5, Pt b2 0), (6, Bo false), (7, Sl a2 (((treeSet ((treeSet l a.name a.value).1) b.name b.value).1).length) c2), (10, Sl a4 (((treeSet ((treeSet l b.name b.value).1) a.name a.value).1).length) c4), (13, U ((treeAtE ((treeSet ((treeSet l a.name a.value).1) b.name b.value).1) []).1)), (15, U ((treeAtE ((treeSet ((treeSet l b.name b.value).1) a.name a.value).1) []).1)), (18, Bo false), (68, Bo ((!(!(([(treeSet l a.name a.value).2, (treeSet ((treeSet l a.name a.value).1) b.name b.value).2, (treeSet l b.name b.value).2, (treeSet ((treeSet l b.name b.value).1) a.name a.value).2]).any fun x0 => !decide (x0 = 0)))) || ((a.name == b.name)))), (88, Bo (!(([(treeAtE ((treeSet ((treeSet l a.name a.value).1) b.name b.value).1) []).2, (treeAtE ((treeSet ((treeSet l b.name b.value).1) a.name a.value).1) []).2]).any fun x0 => !decide (x0 = 0))))] ?_
      refine runL_b2 (!(([(treeAtE ((treeSet ((treeSet l a.name a.value).1) b.name b.value).1) []).2, (treeAtE ((treeSet ((treeSet l b.name b.value).1) a.name a.value).1) []).2]).any fun x0 => !decide (x0 = 0))) (fun bb => [(0, Sl a_l l.length c_l), (4, Pt b1 0), (5, Pt b2 0), (6, Bo false), (7, Sl a2 (((treeSet ((treeSet l a.name a.value).1) b.name b.value).1).length) c2), (10, Sl a4 (((treeSet ((treeSet l b.name b.value).1) a.name a.value).1).length) c4), (13, U ((treeAtE ((treeSet ((treeSet l a.name a.value).1) b.name b.value).1) []).1)), (15, U ((treeAtE ((treeSet ((treeSet l b.name b.value).1) a.name a.value).1) []).1)), (18, Bo false), (68, Bo ((!(!(([(treeSet l a.name a.value).2, (treeSet ((treeSet l a.name a.value).1) b.name b.value).2, (treeSet l b.name b.value).2, (treeSet ((treeSet l b.name b.value).1) a.name a.value).2]).any fun x0 => !decide (x0 = 0)))) || ((a.name == b.name)))), (88, Bo bb)]) [0,0,0,0] [1,1,1,0] (fun bb => [(0, Sl a_l l.length c_l), (4, Pt b1 0), (5, Pt b2 0), (6, Bo false), (7, Sl a2 (((treeSet ((treeSet l a.name a.value).1) b.name b.value).1).length) c2), (10, Sl a4 (((treeSet ((treeSet l b.name b.value).1) a.name a.value).1).length) c4), (18, Bo false), (68, Bo ((!(!(([(treeSet l a.name a.value).2, (treeSet ((treeSet l a.name a.value).1) b.name b.value).2, (treeSet l b.name b.value).2, (treeSet ((treeSet l b.name b.value).1) a.name a.value).2]).any fun x0 => !decide (x0 = 0)))) || ((a.name == b.name)))), (92, Bo (bb && (decide ((treeAtE ((treeSet ((treeSet l a.name a.value).1) b.name b.value).1) []).1 = (treeAtE ((treeSet ((treeSet l b.name b.value).1) a.name a.value).1) []).1))))]) ?_
      refine runL_b [0] [(0, Sl a_l l.length c_l), (4, Pt b1 0), (5, Pt b2 0), (6, Bo ((!(([(treeAtE ((treeSet ((treeSet l a.name a.value).1) b.name b.value).1) []).2, (treeAtE ((treeSet ((treeSet l b.name b.value).1) a.name a.value).1) []).2]).any fun x0 => !decide (x0 = 0))) && (decide ((treeAtE ((treeSet ((treeSet l a.name a.value).1) b.name b.value).1) []).1 = (treeAtE ((treeSet ((treeSet l b.name b.value).1) a.name a.value).1) []).1)))), (7, Sl a2 (((treeSet ((treeSet l a.name a.value).1) b.name b.value).1).length) c2), (10, Sl a4 (((treeSet ((treeSet l b.name b.value).1) a.name a.value).1).length) c4), (18, Bo false), (68, Bo ((!(!(([(treeSet l a.name a.value).2, (treeSet ((treeSet l a.name a.value).1) b.name b.value).2, (treeSet l b.name b.value).2, (treeSet ((treeSet l b.name b.value).1) a.name a.value).2]).any fun x0 => !decide (x0 = 0)))) || ((a.name == b.name))))] ?_
      refine runL_nil ?_
      refine tq_then ?_
      refine tc_ret ?_
      refine tq_ret [0] [Bo ((!(([(treeAtE ((treeSet ((treeSet l a.name a.value).1) b.name b.value).1) []).2, (treeAtE ((treeSet ((treeSet l b.name b.value).1) a.name a.value).1) []).2]).any fun x0 => !decide (x0 = 0))) && (decide ((treeAtE ((treeSet ((treeSet l a.name a.value).1) b.name b.value).1) []).1 = (treeAtE ((treeSet ((treeSet l b.name b.value).1) a.name a.value).1) []).1)))] (bp_ret (Mem.le_trans (Mem.le_trans (Mem.le_trans (Mem.le_trans (Mem.le_trans (Mem.le_trans (Mem.le_trans (Mem.le_trans (Mem.le_trans hl1 hl2) hl3) hl4) hl5) hl6) hl7) hl8) hl9) hl10) ?_)
      have hf_ : ((!(([(treeAtE ((treeSet ((treeSet l a.name a.value).1) b.name b.value).1) []).2, (treeAtE ((treeSet ((treeSet l b.name b.value).1) a.name a.value).1) []).2]).any fun x0 => !decide (x0 = 0))) && (decide ((treeAtE ((treeSet ((treeSet l a.name a.value).1) b.name b.value).1) []).1 = (treeAtE ((treeSet ((treeSet l b.name b.value).1) a.name a.value).1) []).1))) = true := by
        first | rfl | (obtain ⟨q1_, q2_, q3_, q4_⟩ := good4 h1.1; obtain ⟨q5_, q6_⟩ := turns_eq h1.2 q1_ q2_ q3_ q4_; first | exact absurd q5_ h2 | (rw [← q5_]; simp [q6_]))
      exact congrArg Bo hf_
    ·
      try simp only [decide_eq_true_eq, decide_eq_false_iff_not, Bool.and_eq_true, Bool.or_eq_true, Bool.and_eq_false_imp, Bool.or_eq_false_iff, Bool.not_eq_true', Bool.not_eq_false', Bool.not_eq_true, Bool.not_eq_false, beq_iff_eq, beq_eq_false_iff_ne, bne_iff_ne, ne_eq, Decidable.not_not, Int.not_lt, Int.not_le] at h2
      refine runL_b [1,1,1,1,0,0,1,1,1,0,0] [(0, Sl a_l l.length c_l), (4, Pt b1 0), (5, Pt b2 0), (6, Bo false), (7, Sl a2 (((treeSet ((treeSet l a.name a.value).1) b.name b.value).1).length) c2), (10, Sl a4 (((treeSet ((treeSet l b.name b.value).1) a.name a.value).1).length) c4), (18, Bo false), (68, Bo ((!(!(([(treeSet l a.name a.value).2, (treeSet ((treeSet l a.name a.value).1) b.name b.value).2, (treeSet l b.name b.value).2, (treeSet ((treeSet l b.name b.value).1) a.name a.value).2]).any fun x0 => !decide (x0 = 0)))) || ((a.name == b.name))))] ?_
      refine runL_nil ?_
      refine tq_then ?_
      refine tc_ret ?_
      refine tq_ret [0] [Bo false] (bp_ret (Mem.le_trans (Mem.le_trans (Mem.le_trans (Mem.le_trans (Mem.le_trans (Mem.le_trans (Mem.le_trans (Mem.le_trans hl1 hl2) hl3) hl4) hl5) hl6) hl7) hl8) hl9) ?_)
      exfalso
      first | rfl | (obtain ⟨q1_, q2_, q3_, q4_⟩ := good4 h1.1; obtain ⟨q5_, q6_⟩ := turns_eq h1.2 q1_ q2_ q3_ q4_; first | exact absurd q5_ h2 | (rw [← q5_]; simp [q6_]))
end Go.Proofs.YtjcbbpohbfjkkaaDoor
