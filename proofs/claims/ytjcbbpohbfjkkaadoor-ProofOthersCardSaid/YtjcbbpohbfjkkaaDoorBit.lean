import Derived.Test.YtjcbbpohbfjkkaaDoorPath
import Derived.Test.YtjcbbpohbfjkkaaDoorTrim
namespace Go.Proofs.YtjcbbpohbfjkkaaDoor
open Go.Tx
set_option linter.unusedVariables false
set_option linter.unusedSimpArgs false

def comN : List UInt8 → List UInt8 → Nat
  | a :: p, b :: q => if a = b then comN p q + 1 else 0
  | _, _ => 0
theorem comN_nil (p : List UInt8) : comN p [] = 0 := by cases p <;> rfl
theorem comN_step {p q : List UInt8} {i : Nat} {x y : UInt8} (hx : p[i]? = some x) (hy : q[i]? = some y) (e : x = y) : comN (p.drop i) (q.drop i) = comN (p.drop (i + 1)) (q.drop (i + 1)) + 1 := by
  obtain ⟨h1, e1⟩ := List.getElem?_eq_some_iff.1 hx
  obtain ⟨h2, e2⟩ := List.getElem?_eq_some_iff.1 hy
  rw [List.drop_eq_getElem_cons h1, List.drop_eq_getElem_cons h2, comN, if_pos (by rw [e1, e2, e])]
theorem comN_ne {p q : List UInt8} {i : Nat} {x y : UInt8} (hx : p[i]? = some x) (hy : q[i]? = some y) (e : ¬ x = y) : comN (p.drop i) (q.drop i) = 0 := by
  obtain ⟨h1, e1⟩ := List.getElem?_eq_some_iff.1 hx
  obtain ⟨h2, e2⟩ := List.getElem?_eq_some_iff.1 hy
  rw [List.drop_eq_getElem_cons h1, List.drop_eq_getElem_cons h2, comN, if_neg (by rw [e1, e2]; exact e)]
theorem comN_end {p q : List UInt8} {i : Nat} (h : p.length ≤ i ∨ q.length ≤ i) : comN (p.drop i) (q.drop i) = 0 := by
  rcases h with h | h
  · rw [List.drop_eq_nil_of_le h]; rfl
  · rw [List.drop_eq_nil_of_le h, comN_nil]
theorem comN_le : ∀ (p q : List UInt8), comN p q ≤ p.length ∧ comN p q ≤ q.length
  | a :: p, b :: q => by
    unfold comN
    split
    · have := comN_le p q; simp; omega
    · simp
  | [], q => by simp [comN]
  | a :: p, [] => by simp [comN]
theorem comN_eq : ∀ (p q : List UInt8) (k : Nat), k < comN p q → p[k]? = q[k]?
  | a :: p, b :: q, k, h => by
    unfold comN at h
    split at h
    · rename_i e; subst e
      cases k with
      | zero => rfl
      | succ k => simp only [List.getElem?_cons_succ]; exact comN_eq p q k (by omega)
    · omega
  | [], q, k, h => by simp [comN] at h
  | a :: p, [], k, h => by simp [comN] at h
theorem comN_at : ∀ (p q : List UInt8) (x y : UInt8), p[comN p q]? = some x → q[comN p q]? = some y → ¬ x = y
  | a :: p, b :: q, x, y, hx, hy => by
    unfold comN at hx hy
    split at hx
    · rename_i e
      rw [if_pos e] at hy
      simp only [List.getElem?_cons_succ] at hx hy
      exact comN_at p q x y hx hy
    · rename_i e
      rw [if_neg e] at hy
      simp at hx hy
      subst hx hy; exact e
  | [], q, x, y, hx, hy => by simp at hx
  | a :: p, [], x, y, hx, hy => by simp at hy
theorem comN_all {p q : List UInt8} (hl : p.length = q.length) : comN p q = p.length ↔ p = q := by
  constructor
  · intro h
    refine List.ext_getElem? fun k => ?_
    by_cases hk : k < comN p q
    · exact comN_eq p q k hk
    · rw [List.getElem?_eq_none (by omega), List.getElem?_eq_none (by omega)]
  · intro h
    subst h
    apply Classical.byContradiction
    intro hc
    have := (comN_le p p).1
    have hx : p[comN p p]? = some (p[comN p p]'(by omega)) := List.getElem?_eq_getElem (by omega)
    exact comN_at p p _ _ hx hx rfl
def bitAt (p : List UInt8) (k : Int) : Int × Int := if ¬ ((p.length : Nat) : Int) = 16 ∨ ¬ trimS p = [] then (0, 3) else if k < 0 ∨ 16 ≤ k then (0, 4) else (((p[k.toNat]?.getD 48).toNat : Int) - 48, 0)
theorem isB_bd {b : UInt8} (h : isB b = true) : 48 ≤ b.toNat ∧ b.toNat ≤ 49 := by
  unfold isB at h
  simp only [Bool.or_eq_true, beq_iff_eq] at h
  rcases h with rfl | rfl <;> decide
theorem bitAt_bd {p : List UInt8} {k : Nat} {y : UInt8} (h1 : trimS p = []) (hy : p[k]? = some y) : 48 ≤ y.toNat ∧ y.toNat ≤ 49 := isB_bd (trimS_nil.1 h1 y (List.mem_of_getElem? hy))
theorem bitAt_of {p : List UInt8} {k : Nat} {y : UInt8} (h0 : p.length = 16) (h1 : trimS p = []) (hy : p[k]? = some y) : bitAt p k = ((y.toNat : Int) - 48, 0) := by
  have hk := (List.getElem?_eq_some_iff.1 hy).1
  unfold bitAt
  rw [if_neg (by rw [h1]; simp; omega), if_neg (by omega), Int.toNat_natCast, hy]; rfl
theorem pathBits_B (name : List UInt8) : ∀ b ∈ pathBits name, isB b = true := by
  intro b hb
  unfold pathBits at hb
  obtain ⟨n, hn, rfl⟩ := List.mem_map.1 hb
  have : n = 48 ∨ n = 49 := by
    simp only [List.mem_cons, List.not_mem_nil, or_false] at hn
    have key : ∀ k, pbit (markOf name) k = 48 ∨ pbit (markOf name) k = 49 := fun k => by unfold pbit; omega
    rcases hn with rfl | rfl | rfl | rfl | rfl | rfl | rfl | rfl | rfl | rfl | rfl | rfl | rfl | rfl | rfl | rfl <;> exact key _
  rcases this with rfl | rfl <;> decide
theorem pathBits_trim (name : List UInt8) : trimS (pathBits name) = [] := trimS_nil.2 (pathBits_B name)
theorem pathOf_ok {a : List UInt8} (h : (pathOf a).2 = 0) : (pathOf a).1 = pathBits a := by
  unfold pathOf at h ⊢; split at h
  · cases h
  · rename_i h1; rw [if_neg h1]
theorem pathOf_or (a : List UInt8) : (pathOf a).2 = 0 ∨ (pathOf a).1 = [] := by
  unfold pathOf; split
  · exact .inr rfl
  · exact .inl rfl
theorem bits_at {a b : List UInt8} (ha : (pathOf a).2 = 0) (hb : (pathOf b).2 = 0) {k : Nat} (hk : k < 16) : (bitAt (pathOf a).1 k).2 = 0 ∧ (bitAt (pathOf b).1 k).2 = 0 ∧
    ((k : Int) < ((comN (pathOf a).1 (pathOf b).1 : Nat) : Int) → (bitAt (pathOf a).1 k).1 = (bitAt (pathOf b).1 k).1) ∧ ((k : Int) = ((comN (pathOf a).1 (pathOf b).1 : Nat) : Int) → ¬ (bitAt (pathOf a).1 k).1 = (bitAt (pathOf b).1 k).1) := by
  rw [pathOf_ok ha, pathOf_ok hb]
  have hx : (pathBits a)[k]? = some ((pathBits a)[k]'(by rw [pathBits_len]; exact hk)) := List.getElem?_eq_getElem _
  have hy : (pathBits b)[k]? = some ((pathBits b)[k]'(by rw [pathBits_len]; exact hk)) := List.getElem?_eq_getElem _
  generalize (pathBits a)[k]'(by rw [pathBits_len]; exact hk) = x at hx
  generalize (pathBits b)[k]'(by rw [pathBits_len]; exact hk) = y at hy
  rw [bitAt_of (pathBits_len a) (pathBits_trim a) hx, bitAt_of (pathBits_len b) (pathBits_trim b) hy]
  refine ⟨rfl, rfl, fun h => ?_, fun h => ?_⟩
  · have := comN_eq _ _ k (by omega : k < comN (pathBits a) (pathBits b))
    rw [hx, hy] at this; rw [Option.some.inj this]
  · have hk : k = comN (pathBits a) (pathBits b) := by omega
    rw [hk] at hx hy
    have hne := comN_at _ _ x y hx hy
    intro hc
    apply hne
    apply UInt8.toNat_inj.1
    simp only at hc
    omega
theorem good2 {x y : Int} (h : ([x, y].any fun x0 => !decide (x0 = 0)) = false) : x = 0 ∧ y = 0 := by simpa using h
theorem bits_end {a b : List UInt8} (ha : (pathOf a).2 = 0) (hb : (pathOf b).2 = 0) : (decide (((comN (pathOf a).1 (pathOf b).1 : Nat) : Int) ≥ 0) && decide (((comN (pathOf a).1 (pathOf b).1 : Nat) : Int) ≤ 16) && (decide (((comN (pathOf a).1 (pathOf b).1 : Nat) : Int) = 16) == ((pathOf a).1 == (pathOf b).1))) = true := by
  have h := comN_le (pathOf a).1 (pathOf b).1
  rw [pathOf_ok ha, pathOf_ok hb] at h ⊢
  rw [pathBits_len] at h
  have e := comN_all (p := pathBits a) (q := pathBits b) (by rw [pathBits_len, pathBits_len])
  rw [pathBits_len] at e
  have e2 : decide (((comN (pathBits a) (pathBits b) : Nat) : Int) = 16) = (pathBits a == pathBits b) := by
    rw [Bool.eq_iff_iff, decide_eq_true_eq, beq_iff_eq, ← e]; omega
  rw [e2]
  simp; omega

theorem comN_con (G : Mem) (p : List UInt8) (hw_p : (p).length ≤ 140737488351232) (q : List UInt8) (hw_q : (q).length ≤ 140737488351232)  : Con Tryd.prog 13 #[Sr p, Sr q] G [] (fun u G' L' => u = I (((comN p q : Nat) : Int))) := by
  refine con_of Tryd.func13 28 [(0, Sr p), (1, Sr q)] rfl (fun w0 G0 => ?_)
  refine tc_rb [0] [(0, Sr p), (1, Sr q), (4, I 0)] ?_
  refine tc_rb [0] [(0, Sr p), (1, Sr q), (4, I 0), (5, I 0)] ?_
  refine tc_seq ?_
  refine tc_block ?_
  refine tc_loop (σ := Nat) (fun q_ => (q_ ≤ p.length ∧ q_ ≤ q.length) ∧ (comN p q = q_ + comN (p.drop q_) (q.drop q_))) (fun q_ => [(0, Sr p), (1, Sr q), (4, I 0), (5, I ((q_ : Int)))]) (fun q_ => G) (fun q_ => []) (fun q_ => p.length - q_) 0 ⟨⟨Nat.zero_le _, Nat.zero_le _⟩, (by (try dsimp only); simp)⟩ (fun q_ hs => ?_)
  revert hs; revert q_; intro n hs
  obtain ⟨hn, hc⟩ := hs
  refine tc_eq (fr' := [(0, Sr p), (1, Sr q), (4, I 0), (5, I ((n : Int)))]) (L' := []) rfl rfl ?_
  refine tc_seq ?_
  refine tc_seq ?_
  rcases Bool.eq_false_or_eq_true (decide ((n : Int) < ((p).length : Int))) with h1 | h1
  ·
    have h1d := h1
    try simp only [decide_eq_true_eq, decide_eq_false_iff_not, Bool.and_eq_true, Bool.or_eq_true, Bool.and_eq_false_imp, Bool.or_eq_false_iff, Bool.not_eq_true', Bool.not_eq_false', Bool.not_eq_true, Bool.not_eq_false, beq_iff_eq, beq_eq_false_iff_ne, bne_iff_ne, ne_eq, Decidable.not_not, Int.not_lt, Int.not_le] at h1d
    rcases Bool.eq_false_or_eq_true (decide ((n : Int) < ((q).length : Int))) with h2 | h2
    ·
      have h2d := h2
      try simp only [decide_eq_true_eq, decide_eq_false_iff_not, Bool.and_eq_true, Bool.or_eq_true, Bool.and_eq_false_imp, Bool.or_eq_false_iff, Bool.not_eq_true', Bool.not_eq_false', Bool.not_eq_true, Bool.not_eq_false, beq_iff_eq, beq_eq_false_iff_ne, bne_iff_ne, ne_eq, Decidable.not_not, Int.not_lt, Int.not_le] at h2d
      obtain ⟨y1, hy1⟩ := getX (l := p) (k := n) (by omega)
      have hb_y1 := y1.toNat_lt
      obtain ⟨y2, hy2⟩ := getX (l := q) (k := n) (by omega)
      have hb_y2 := y2.toNat_lt
      refine tc_draw [] ?_
      refine dr_V [(0, I ((n : Int))), (1, Sr p), (2, I (((p).length : Int))), (3, Bo true), (4, Bo true), (5, I ((n : Int))), (6, Sr q), (7, I (((q).length : Int))), (8, Bo true), (9, Bo true), (10, Bo true), (11, Sr p), (12, I ((n : Int))), (13, Y ((y1.toNat : Int))), (14, Sr q), (15, I ((n : Int))), (16, Y ((y2.toNat : Int))), (17, Bo (decide ((y1.toNat : Int) = (y2.toNat : Int)))), (18, Bo (decide ((y1.toNat : Int) = (y2.toNat : Int))))] ?_
      refine dr_end [] [(0,0), (1,0), (2,0), (4,0), (5,0), (6,0), (7,0), (9,0), (10,0), (11,0), (12,0), (14,0), (15,0), (17,0), (18,0)] [3, 8, 13, 16] [(0, Sr p), (1, Sr q), (4, I 0), (5, I ((n : Int))), (24, Bo (decide ((y1.toNat : Int) = (y2.toNat : Int))))] (List.forall_mem_cons.2 ⟨?_, (List.forall_mem_cons.2 ⟨?_, (List.forall_mem_cons.2 ⟨?_, (List.forall_mem_cons.2 ⟨?_, List.forall_mem_nil _⟩)⟩)⟩)⟩) ?_
      · refine stab_of 3 9 (Bo true) [(6, I ((n : Int))), (8, I (((p).length : Int)))] (fun X => ?_)
        exact runL_p1 9 (Bo (decide ((n : Int) < ((p).length : Int)))) (Bo true) (by rw [h1]) stab_end
      · refine stab_of 8 14 (Bo true) [(10, Bo true), (11, I ((n : Int))), (13, I (((q).length : Int)))] (fun X => ?_)
        exact runL_p1 14 (Bo (decide ((n : Int) < ((q).length : Int)))) (Bo true) (by rw [h2]) stab_end
      · refine stab_of 13 19 (Y ((y1.toNat : Int))) [(16, Bo true), (17, Sr p), (18, I ((n : Int)))] (fun X => ?_)
        exact runL_sidx (ik := .i64) 19 n y1 hy1 stab_end
      · refine stab_of 16 22 (Y ((y2.toNat : Int))) [(16, Bo true), (20, Sr q), (21, I ((n : Int)))] (fun X => ?_)
        exact runL_sidx (ik := .i64) 22 n y2 hy2 stab_end
      refine tq_then ?_
      refine tc_cond (decide ((y1.toNat : Int) = (y2.toNat : Int))) (fun h3 => ?_) (fun h3 => ?_)
      ·
        try simp only [decide_eq_true_eq, decide_eq_false_iff_not, Bool.and_eq_true, Bool.or_eq_true, Bool.and_eq_false_imp, Bool.or_eq_false_iff, Bool.not_eq_true', Bool.not_eq_false', Bool.not_eq_true, Bool.not_eq_false, beq_iff_eq, beq_eq_false_iff_ne, bne_iff_ne, ne_eq, Decidable.not_not, Int.not_lt, Int.not_le] at h3
        refine tc_skip ?_
        refine tq_then ?_
        refine tc_block ?_
        refine tc_region ?_
        refine runL_b [0,0,0] [(0, Sr p), (1, Sr q), (4, I 0), (5, I (IntKind.i64.wrap (((n : Int)) + 1))), (24, Bo (decide ((y1.toNat : Int) = (y2.toNat : Int))))] ?_
        have e1 : IntKind.i64.wrap (((n : Int)) + 1) = ((n : Int)) + 1 := IntWalk.i64_in _ (by omega)
        refine runL_eq (fr' := [(0, Sr p), (1, Sr q), (4, I 0), (5, I (((n : Int)) + 1)), (24, Bo (decide ((y1.toNat : Int) = (y2.toNat : Int))))]) (L' := []) (by simp only [e1]) (by rfl) ?_
        clear e1
        refine runL_nil ?_
        refine tq_block ?_
        exact tq_rnd (n + 1) ⟨(by (try dsimp only); omega), (by (try dsimp only); rw [hc, comN_step hy1 hy2 (UInt8.toNat_inj.1 (by omega))]; omega)⟩ (by (try dsimp only); omega)
      ·
        try simp only [decide_eq_true_eq, decide_eq_false_iff_not, Bool.and_eq_true, Bool.or_eq_true, Bool.and_eq_false_imp, Bool.or_eq_false_iff, Bool.not_eq_true', Bool.not_eq_false', Bool.not_eq_true, Bool.not_eq_false, beq_iff_eq, beq_eq_false_iff_ne, bne_iff_ne, ne_eq, Decidable.not_not, Int.not_lt, Int.not_le] at h3
        refine tc_exit ?_
        refine tq_then_exit ?_
        refine tq_rnd_exit ?_
        refine tq_block_here ?_
        refine tq_then ?_
        refine tc_rb [0,0] [(0, Sr p), (1, Sr q), (4, I ((n : Int))), (5, I ((n : Int))), (24, Bo (decide ((y1.toNat : Int) = (y2.toNat : Int))))] ?_
        refine tc_ret ?_
        refine tq_ret [0] [I ((n : Int))] (bp_ret (Mem.le_refl _) ?_)
        have hf_ : (((comN p q : Nat) : Int)) = ((n : Int)) := by
          rw [hc]; first | (rw [comN_end (by omega)]; rfl) | (rw [comN_ne hy1 hy2 (by intro hq_; subst hq_; omega)]; rfl)
        (try rw [hf_]); first | with_reducible rfl | (simp only [packR]; done) | rfl
    ·
      have h2d := h2
      try simp only [decide_eq_true_eq, decide_eq_false_iff_not, Bool.and_eq_true, Bool.or_eq_true, Bool.and_eq_false_imp, Bool.or_eq_false_iff, Bool.not_eq_true', Bool.not_eq_false', Bool.not_eq_true, Bool.not_eq_false, beq_iff_eq, beq_eq_false_iff_ne, bne_iff_ne, ne_eq, Decidable.not_not, Int.not_lt, Int.not_le] at h2d
      refine tc_draw [] ?_
      refine dr_V [(0, I ((n : Int))), (1, Sr p), (2, I (((p).length : Int))), (3, Bo true), (4, Bo true), (5, I ((n : Int))), (6, Sr q), (7, I (((q).length : Int))), (8, Bo false), (9, Bo false), (10, Bo false), (11, undef), (12, undef), (13, undef), (14, undef), (15, undef), (16, undef), (17, undef), (18, Bo false)] ?_
      refine dr_end [] [(0,0), (1,0), (2,0), (4,0), (5,0), (6,0), (7,0), (9,0), (10,0), (11,1), (12,1), (13,1), (14,1), (15,1), (16,1), (17,1), (18,0)] [3, 8] [(0, Sr p), (1, Sr q), (4, I 0), (5, I ((n : Int))), (24, Bo false)] (List.forall_mem_cons.2 ⟨?_, (List.forall_mem_cons.2 ⟨?_, List.forall_mem_nil _⟩)⟩) ?_
      · refine stab_of 3 9 (Bo true) [(6, I ((n : Int))), (8, I (((p).length : Int)))] (fun X => ?_)
        exact runL_p1 9 (Bo (decide ((n : Int) < ((p).length : Int)))) (Bo true) (by rw [h1]) stab_end
      · refine stab_of 8 14 (Bo false) [(10, Bo true), (11, I ((n : Int))), (13, I (((q).length : Int)))] (fun X => ?_)
        exact runL_p1 14 (Bo (decide ((n : Int) < ((q).length : Int)))) (Bo false) (by rw [h2]) stab_end
      refine tq_then ?_
      refine tc_cond_false ?_
      refine tc_exit ?_
      refine tq_then_exit ?_
      refine tq_rnd_exit ?_
      refine tq_block_here ?_
      refine tq_then ?_
      refine tc_rb [0,0] [(0, Sr p), (1, Sr q), (4, I ((n : Int))), (5, I ((n : Int))), (24, Bo false)] ?_
      refine tc_ret ?_
      refine tq_ret [0] [I ((n : Int))] (bp_ret (Mem.le_refl _) ?_)
      have hf_ : (((comN p q : Nat) : Int)) = ((n : Int)) := by
        rw [hc]; first | (rw [comN_end (by omega)]; rfl) | (rw [comN_ne hy1 hy2 (by intro hq_; subst hq_; omega)]; rfl)
      (try rw [hf_]); first | with_reducible rfl | (simp only [packR]; done) | rfl
  ·
    have h1d := h1
    try simp only [decide_eq_true_eq, decide_eq_false_iff_not, Bool.and_eq_true, Bool.or_eq_true, Bool.and_eq_false_imp, Bool.or_eq_false_iff, Bool.not_eq_true', Bool.not_eq_false', Bool.not_eq_true, Bool.not_eq_false, beq_iff_eq, beq_eq_false_iff_ne, bne_iff_ne, ne_eq, Decidable.not_not, Int.not_lt, Int.not_le] at h1d
    refine tc_draw [] ?_
    refine dr_V [(0, I ((n : Int))), (1, Sr p), (2, I (((p).length : Int))), (3, Bo false), (4, Bo false), (5, undef), (6, undef), (7, undef), (8, undef), (9, Bo false), (10, Bo false), (11, undef), (12, undef), (13, undef), (14, undef), (15, undef), (16, undef), (17, undef), (18, Bo false)] ?_
    refine dr_end [] [(0,0), (1,0), (2,0), (4,0), (5,1), (6,1), (7,1), (8,1), (9,0), (10,0), (11,1), (12,1), (13,1), (14,1), (15,1), (16,1), (17,1), (18,0)] [3] [(0, Sr p), (1, Sr q), (4, I 0), (5, I ((n : Int))), (24, Bo false)] (List.forall_mem_cons.2 ⟨?_, List.forall_mem_nil _⟩) ?_
    · refine stab_of 3 9 (Bo false) [(6, I ((n : Int))), (8, I (((p).length : Int)))] (fun X => ?_)
      exact runL_p1 9 (Bo (decide ((n : Int) < ((p).length : Int)))) (Bo false) (by rw [h1]) stab_end
    refine tq_then ?_
    refine tc_cond_false ?_
    refine tc_exit ?_
    refine tq_then_exit ?_
    refine tq_rnd_exit ?_
    refine tq_block_here ?_
    refine tq_then ?_
    refine tc_rb [0,0] [(0, Sr p), (1, Sr q), (4, I ((n : Int))), (5, I ((n : Int))), (24, Bo false)] ?_
    refine tc_ret ?_
    refine tq_ret [0] [I ((n : Int))] (bp_ret (Mem.le_refl _) ?_)
    have hf_ : (((comN p q : Nat) : Int)) = ((n : Int)) := by
      rw [hc]; first | (rw [comN_end (by omega)]; rfl) | (rw [comN_ne hy1 hy2 (by intro hq_; subst hq_; omega)]; rfl)
    (try rw [hf_]); first | with_reducible rfl | (simp only [packR]; done) | rfl

theorem bitAt_con (G : Mem) (p : List UInt8) (hw_p : (p).length ≤ 140737488351232) (k : Int)  : Con Tryd.prog 14 #[Sr p, I k] G [] (fun u G' L' => u = .tuple #[I ((bitAt p k).1), I ((bitAt p k).2)]) := by
  refine con_of Tryd.func14 27 [(0, Sr p), (1, I k)] rfl (fun w0 G0 => ?_)
  refine tc_rb [0,0] [(0, Sr p), (1, I k), (4, I 0), (5, I 0)] ?_
  refine tc_seq ?_
  refine tc_block ?_
  refine tc_seq ?_
  refine tc_region ?_
  refine runL_b [0,0,0,0] [(0, Sr p), (1, I k), (4, I 0), (5, I 0), (10, Bo (!decide (((p).length : Int) = 16)))] ?_
  refine runL_cases (fun bb => [(0, Sr p), (1, I k), (4, I 0), (5, I 0), (10, Bo bb)]) (!decide (((p).length : Int) = 16)) (fun h1 => ?_) (fun h1 => ?_)
  ·
    try simp only [decide_eq_true_eq, decide_eq_false_iff_not, Bool.and_eq_true, Bool.or_eq_true, Bool.and_eq_false_imp, Bool.or_eq_false_iff, Bool.not_eq_true', Bool.not_eq_false', Bool.not_eq_true, Bool.not_eq_false, beq_iff_eq, beq_eq_false_iff_ne, bne_iff_ne, ne_eq, Decidable.not_not, Int.not_lt, Int.not_le] at h1
    refine runL_b [1,1,1,0,0] [(0, Sr p), (1, I k), (4, I 0), (5, I 0), (6, Bo true)] ?_
    refine runL_nil ?_
    refine tq_then ?_
    refine tc_cond_true ?_
    refine tc_rb [0,0] [(0, Sr p), (1, I k), (4, I 0), (5, I 3), (6, Bo true)] ?_
    refine tc_ret ?_
    refine tq_block_ret ?_
    refine tq_then_ret ?_
    refine tq_ret [0, 0] [I 0, I 3] (bp_ret (Mem.le_refl _) ?_)
    have hf_ : (bitAt p k) = (0, 3) := by
      unfold bitAt; first | (rw [if_pos (.inl (by assumption))]; done) | (rw [if_pos (.inr (by assumption))]; done) | (rw [if_neg (by simp_all)]; first | (rw [if_pos (by omega)]; done) | (rw [if_neg (by omega), hkn1, Int.toNat_natCast, hy1]; rfl))
    (try rw [hf_]); first | with_reducible rfl | (simp only [packR]; done) | rfl
  ·
    try simp only [decide_eq_true_eq, decide_eq_false_iff_not, Bool.and_eq_true, Bool.or_eq_true, Bool.and_eq_false_imp, Bool.or_eq_false_iff, Bool.not_eq_true', Bool.not_eq_false', Bool.not_eq_true, Bool.not_eq_false, beq_iff_eq, beq_eq_false_iff_ne, bne_iff_ne, ne_eq, Decidable.not_not, Int.not_lt, Int.not_le] at h1
    refine runL_b [0] [(0, Sr p), (1, I k), (4, I 0), (5, I 0), (10, Bo false), (11, Sr p)] ?_
    refine runL_callV 12 (Sr (trimS p)) (trimS_con G p hw_p) ?_
    refine runL_b [0,0,0] [(0, Sr p), (1, I k), (4, I 0), (5, I 0), (6, Bo (!((B (trimS p)).toList == (B ([])).toList)))] ?_
    refine runL_eq (fr' := [(0, Sr p), (1, I k), (4, I 0), (5, I 0), (6, Bo (!(trimS p == [])))]) (L' := []) (by simp only [B_toList]) (by rfl) ?_
    refine runL_nil ?_
    refine tq_then ?_
    refine tc_cond (!(trimS p == [])) (fun h2 => ?_) (fun h2 => ?_)
    ·
      try simp only [decide_eq_true_eq, decide_eq_false_iff_not, Bool.and_eq_true, Bool.or_eq_true, Bool.and_eq_false_imp, Bool.or_eq_false_iff, Bool.not_eq_true', Bool.not_eq_false', Bool.not_eq_true, Bool.not_eq_false, beq_iff_eq, beq_eq_false_iff_ne, bne_iff_ne, ne_eq, Decidable.not_not, Int.not_lt, Int.not_le] at h2
      refine tc_rb [0,0] [(0, Sr p), (1, I k), (4, I 0), (5, I 3), (6, Bo (!(trimS p == [])))] ?_
      refine tc_ret ?_
      refine tq_block_ret ?_
      refine tq_then_ret ?_
      refine tq_ret [0, 0] [I 0, I 3] (bp_ret (Mem.le_refl _) ?_)
      have hf_ : (bitAt p k) = (0, 3) := by
        unfold bitAt; first | (rw [if_pos (.inl (by assumption))]; done) | (rw [if_pos (.inr (by assumption))]; done) | (rw [if_neg (by simp_all)]; first | (rw [if_pos (by omega)]; done) | (rw [if_neg (by omega), hkn1, Int.toNat_natCast, hy1]; rfl))
      (try rw [hf_]); first | with_reducible rfl | (simp only [packR]; done) | rfl
    ·
      try simp only [decide_eq_true_eq, decide_eq_false_iff_not, Bool.and_eq_true, Bool.or_eq_true, Bool.and_eq_false_imp, Bool.or_eq_false_iff, Bool.not_eq_true', Bool.not_eq_false', Bool.not_eq_true, Bool.not_eq_false, beq_iff_eq, beq_eq_false_iff_ne, bne_iff_ne, ne_eq, Decidable.not_not, Int.not_lt, Int.not_le] at h2
      refine tc_seq ?_
      refine tc_region ?_
      refine runL_b [0,0,0] [(0, Sr p), (1, I k), (4, I 0), (5, I 0), (6, Bo (!(trimS p == []))), (18, Bo (decide (k < 0)))] ?_
      refine runL_b2 (decide (k < 0)) (fun bb => [(0, Sr p), (1, I k), (4, I 0), (5, I 0), (6, Bo (!(trimS p == []))), (18, Bo bb)]) [1,1,0] [0,0,0] (fun bb => [(0, Sr p), (1, I k), (4, I 0), (5, I 0), (6, Bo (!(trimS p == []))), (21, Bo (bb || (decide (k ≥ 16))))]) ?_
      refine runL_b [0] [(0, Sr p), (1, I k), (4, I 0), (5, I 0), (6, Bo (!(trimS p == []))), (15, Bo ((decide (k < 0)) || (decide (k ≥ 16))))] ?_
      refine runL_nil ?_
      refine tq_then ?_
      refine tc_cond ((decide (k < 0)) || (decide (k ≥ 16))) (fun h3 => ?_) (fun h3 => ?_)
      ·
        try simp only [decide_eq_true_eq, decide_eq_false_iff_not, Bool.and_eq_true, Bool.or_eq_true, Bool.and_eq_false_imp, Bool.or_eq_false_iff, Bool.not_eq_true', Bool.not_eq_false', Bool.not_eq_true, Bool.not_eq_false, beq_iff_eq, beq_eq_false_iff_ne, bne_iff_ne, ne_eq, Decidable.not_not, Int.not_lt, Int.not_le] at h3
        refine tc_rb [0,0] [(0, Sr p), (1, I k), (4, I 0), (5, I 4), (6, Bo (!(trimS p == []))), (15, Bo ((decide (k < 0)) || (decide (k ≥ 16))))] ?_
        refine tc_ret ?_
        refine tq_block_ret ?_
        refine tq_then_ret ?_
        refine tq_ret [0, 0] [I 0, I 4] (bp_ret (Mem.le_refl _) ?_)
        have hf_ : (bitAt p k) = (0, 4) := by
          unfold bitAt; first | (rw [if_pos (.inl (by assumption))]; done) | (rw [if_pos (.inr (by assumption))]; done) | (rw [if_neg (by simp_all)]; first | (rw [if_pos (by omega)]; done) | (rw [if_neg (by omega), hkn1, Int.toNat_natCast, hy1]; rfl))
        (try rw [hf_]); first | with_reducible rfl | (simp only [packR]; done) | rfl
      ·
        try simp only [decide_eq_true_eq, decide_eq_false_iff_not, Bool.and_eq_true, Bool.or_eq_true, Bool.and_eq_false_imp, Bool.or_eq_false_iff, Bool.not_eq_true', Bool.not_eq_false', Bool.not_eq_true, Bool.not_eq_false, beq_iff_eq, beq_eq_false_iff_ne, bne_iff_ne, ne_eq, Decidable.not_not, Int.not_lt, Int.not_le] at h3
        refine tc_skip ?_
        refine tq_block ?_
        refine tq_then ?_
        refine tc_seq ?_
        refine tc_region ?_
        refine runL_b [0,0] [(0, Sr p), (1, I k), (4, I 0), (5, I 0), (6, Bo (!(trimS p == []))), (15, Bo ((decide (k < 0)) || (decide (k ≥ 16)))), (22, Sr p), (23, I k)] ?_
        obtain ⟨kn1, hkn1⟩ : ∃ k_ : Nat, k = (k_ : Int) := ⟨(k).toNat, by first | omega | (have q_ := bitAt_bd (by assumption) (by assumption); omega)⟩
        have e1 : k = (kn1 : Int) := hkn1
        refine runL_b [] [(0, Sr p), (1, I k), (4, I 0), (5, I 0), (6, Bo (!(trimS p == []))), (15, Bo ((decide (k < 0)) || (decide (k ≥ 16)))), (22, Sr p), (23, I k)] ?_
        refine runL_eq (fr' := [(0, Sr p), (1, I ((kn1 : Int))), (4, I 0), (5, I 0), (6, Bo (!(trimS p == []))), (15, Bo ((decide (k < 0)) || (decide (k ≥ 16)))), (22, Sr p), (23, I ((kn1 : Int)))]) (L' := []) (by first | rfl | simp only [e1]) (by first | rfl | simp only [e1]) ?_
        obtain ⟨y1, hy1⟩ := getX (l := p) (k := kn1) (by first | omega | (have q_ := bitAt_bd (by assumption) (by assumption); omega))
        have hb_y1 := y1.toNat_lt
        refine runL_sidx (ik := .i64) 24 kn1 y1 hy1 ?_
        refine runL_b [0,0,0,0] [(0, Sr p), (1, I ((kn1 : Int))), (4, I (IntKind.i64.wrap (IntKind.u8.wrap (((y1.toNat : Int)) - 48)))), (5, I 0), (6, Bo (!(trimS p == []))), (15, Bo ((decide (k < 0)) || (decide (k ≥ 16))))] ?_
        have e2 : IntKind.u8.wrap (((y1.toNat : Int)) - 48) = (y1.toNat : Int) - 48 := by exact IntWalk.u8_in _ (by have q_ := bitAt_bd (p := p) (by assumption) hy1; omega)
        have e3 : IntKind.i64.wrap ((y1.toNat : Int) - 48) = (y1.toNat : Int) - 48 := IntWalk.i64_in _ (by first | omega | (have q_ := bitAt_bd (by assumption) (by assumption); omega))
        refine runL_eq (fr' := [(0, Sr p), (1, I ((kn1 : Int))), (4, I ((y1.toNat : Int) - 48)), (5, I 0), (6, Bo (!(trimS p == []))), (15, Bo ((decide (k < 0)) || (decide (k ≥ 16))))]) (L' := []) (by simp only [e2, e3]) (by rfl) ?_
        clear e3 e2
        refine runL_nil ?_
        refine tq_then ?_
        refine tc_ret ?_
        refine tq_ret [0, 0] [I ((y1.toNat : Int) - 48), I 0] (bp_ret (Mem.le_refl _) ?_)
        have hf_ : (bitAt p k) = (((y1.toNat : Int) - 48), 0) := by
          unfold bitAt; first | (rw [if_pos (.inl (by assumption))]; done) | (rw [if_pos (.inr (by assumption))]; done) | (rw [if_neg (by simp_all)]; first | (rw [if_pos (by omega)]; done) | (rw [if_neg (by omega), hkn1, Int.toNat_natCast, hy1]; rfl))
        (try rw [hf_]); first | with_reducible rfl | (simp only [packR]; done) | rfl

theorem paths_con (G : Mem)   : Con Tryd.prog 10 #[] G [] (fun u G' L' => u = Bo true) := by
  refine con_of Tryd.func10 14 [] rfl (fun w0 G0 => ?_)
  refine tc_rb [0] [(0, Bo false)] ?_
  refine tc_seq ?_
  refine tc_region ?_
  refine runL_callV 4 (.tuple #[Sr ((pathOf ([97])).1), I ((pathOf ([97])).2)]) (pathOf_con G ([97]) (Nat.le_of_ble_eq_true rfl)) ?_
  refine runL_b [0,0,0,0,0] [(0, Bo false), (1, Sr ((pathOf ([97])).1)), (2, I ((pathOf ([97])).2))] ?_
  refine runL_nil ?_
  refine tq_then ?_
  refine tc_seq ?_
  refine tc_region ?_
  refine runL_b [0,0,0] [(0, Bo false), (1, Sr ((pathOf ([97])).1)), (9, Bo (decide ((pathOf ([97])).2 = 0)))] ?_
  refine runL_b2 (decide ((pathOf ([97])).2 = 0)) (fun bb => [(0, Bo false), (1, Sr ((pathOf ([97])).1)), (9, Bo bb)]) [0,0,0,0] [1,1,1,0] (fun bb => [(0, Bo false), (13, Bo (bb && (decide ((((pathOf ([97])).1).length : Int) = 16))))]) ?_
  refine runL_b [0] [(0, Bo ((decide ((pathOf ([97])).2 = 0)) && (decide ((((pathOf ([97])).1).length : Int) = 16))))] ?_
  refine runL_nil ?_
  refine tq_then ?_
  refine tc_ret ?_
  refine tq_ret [0] [Bo ((decide ((pathOf ([97])).2 = 0)) && (decide ((((pathOf ([97])).1).length : Int) = 16)))] (bp_ret (Mem.le_refl _) ?_)
  have hf_ : ((decide ((pathOf ([97])).2 = 0)) && (decide ((((pathOf ([97])).1).length : Int) = 16))) = true := by
    first | decide +kernel | (revert h1; decide +kernel)
  exact congrArg Bo hf_

theorem pathBits_law_con (G : Mem) (a : List UInt8) (hw_a : (a).length ≤ 140737488351232) (b : List UInt8) (hw_b : (b).length ≤ 140737488351232)  : Con Tryd.prog 3 #[Sr a, Sr b] G [] (fun u G' L' => u = Bo true) := by
  refine con_of Tryd.func3 104 [(0, Sr a), (1, Sr b)] rfl (fun w0 G0 => ?_)
  refine tc_rb [0] [(0, Sr a), (1, Sr b), (4, Bo false)] ?_
  refine tc_seq ?_
  refine tc_seq ?_
  refine tc_region ?_
  refine runL_callV 15 (Bo true) (paths_con G) ?_
  refine runL_b [0] [(0, Sr a), (1, Sr b), (4, Bo false), (16, Bo false)] ?_
  refine runL_nil ?_
  refine tq_then ?_
  refine tc_cond_false ?_
  refine tc_skip ?_
  refine tq_then ?_
  refine tc_seq ?_
  refine tc_region ?_
  refine runL_b [0] [(1, Sr b), (4, Bo false), (16, Bo false), (18, Sr a)] ?_
  refine runL_callV 19 (.tuple #[Sr ((pathOf a).1), I ((pathOf a).2)]) (pathOf_con G a hw_a) ?_
  refine runL_b [0,0,0,0,0] [(1, Sr b), (4, Bo false), (5, Sr ((pathOf a).1)), (6, I ((pathOf a).2)), (16, Bo false)] ?_
  refine runL_nil ?_
  refine tq_then ?_
  refine tc_seq ?_
  refine tc_region ?_
  refine runL_b [0] [(4, Bo false), (5, Sr ((pathOf a).1)), (6, I ((pathOf a).2)), (16, Bo false), (23, Sr b)] ?_
  refine runL_callV 24 (.tuple #[Sr ((pathOf b).1), I ((pathOf b).2)]) (pathOf_con G b hw_b) ?_
  refine runL_b [0,0,0,0,0] [(4, Bo false), (5, Sr ((pathOf a).1)), (6, I ((pathOf a).2)), (7, Sr ((pathOf b).1)), (8, I ((pathOf b).2)), (16, Bo false)] ?_
  refine runL_nil ?_
  refine tq_then ?_
  refine tc_seq ?_
  refine tc_seq ?_
  refine tc_region ?_
  refine runL_b [0,0] [(4, Bo false), (5, Sr ((pathOf a).1)), (6, I ((pathOf a).2)), (7, Sr ((pathOf b).1)), (8, I ((pathOf b).2)), (16, Bo false), (27, I ((pathOf a).2)), (28, I ((pathOf b).2))] ?_
  refine runL_bsl 29 2 #[I ((pathOf a).2), I ((pathOf b).2)] 23 (fun b1 => ?_)
  refine runL_frz1 (b := b1) (o := 0) (cs := [I ((pathOf a).2), I ((pathOf b).2)]) 0 (fun G1 hl1 hz1 => ?_)
  have hs1 : RS EErr G1 (At b1 0) 2 [(pathOf a).2, (pathOf b).2] := RS.lit [[I ((pathOf a).2)], [I ((pathOf b).2)]] [(pathOf a).2, (pathOf b).2] ⟨rfl, ⟨rfl, trivial⟩⟩ hz1 (Nat.le_of_ble_eq_true rfl) (Nat.le_of_ble_eq_true rfl)
  refine runL_callV 30 (Bo (!(([(pathOf a).2, (pathOf b).2]).any fun x0 => !decide (x0 = 0)))) (good_con G1 (At b1 0) 2 ([(pathOf a).2, (pathOf b).2]) hs1) ?_
  refine runL_b [0] [(4, Bo false), (5, Sr ((pathOf a).1)), (6, I ((pathOf a).2)), (7, Sr ((pathOf b).1)), (8, I ((pathOf b).2)), (16, Bo false), (31, Bo (!(!(([(pathOf a).2, (pathOf b).2]).any fun x0 => !decide (x0 = 0)))))] ?_
  refine runL_nil ?_
  refine tq_then ?_
  refine tc_cond (!(!(([(pathOf a).2, (pathOf b).2]).any fun x0 => !decide (x0 = 0)))) (fun h1 => ?_) (fun h1 => ?_)
  ·
    try simp only [decide_eq_true_eq, decide_eq_false_iff_not, Bool.and_eq_true, Bool.or_eq_true, Bool.and_eq_false_imp, Bool.or_eq_false_iff, Bool.not_eq_true', Bool.not_eq_false', Bool.not_eq_true, Bool.not_eq_false, beq_iff_eq, beq_eq_false_iff_ne, bne_iff_ne, ne_eq, Decidable.not_not, Int.not_lt, Int.not_le] at h1
    refine tc_seq ?_
    refine tc_region ?_
    refine runL_b [0,0,0] [(4, Bo false), (5, Sr ((pathOf a).1)), (6, I ((pathOf a).2)), (7, Sr ((pathOf b).1)), (8, I ((pathOf b).2)), (16, Bo false), (31, Bo (!(!(([(pathOf a).2, (pathOf b).2]).any fun x0 => !decide (x0 = 0))))), (34, Bo (decide ((pathOf a).2 = 0)))] ?_
    refine runL_b2 (decide ((pathOf a).2 = 0)) (fun bb => [(4, Bo false), (5, Sr ((pathOf a).1)), (6, I ((pathOf a).2)), (7, Sr ((pathOf b).1)), (8, I ((pathOf b).2)), (16, Bo false), (31, Bo (!(!(([(pathOf a).2, (pathOf b).2]).any fun x0 => !decide (x0 = 0))))), (34, Bo bb)]) [1,1,0] [0,0,0] (fun bb => [(4, Bo false), (5, Sr ((pathOf a).1)), (6, I ((pathOf a).2)), (7, Sr ((pathOf b).1)), (8, I ((pathOf b).2)), (16, Bo false), (31, Bo (!(!(([(pathOf a).2, (pathOf b).2]).any fun x0 => !decide (x0 = 0))))), (37, Bo (bb || (((B ((pathOf a).1)).toList == (B ([])).toList))))]) ?_
    refine runL_eq (fr' := [(4, Bo false), (5, Sr ((pathOf a).1)), (6, I ((pathOf a).2)), (7, Sr ((pathOf b).1)), (8, I ((pathOf b).2)), (16, Bo false), (31, Bo (!(!(([(pathOf a).2, (pathOf b).2]).any fun x0 => !decide (x0 = 0))))), (37, Bo ((decide ((pathOf a).2 = 0)) || (((pathOf a).1 == []))))]) (L' := [[]]) (by simp only [B_toList]) (by rfl) ?_
    refine runL_b [0] [(4, Bo false), (5, Sr ((pathOf a).1)), (6, I ((pathOf a).2)), (7, Sr ((pathOf b).1)), (8, I ((pathOf b).2)), (16, Bo false), (31, Bo (!(!(([(pathOf a).2, (pathOf b).2]).any fun x0 => !decide (x0 = 0))))), (38, Bo ((decide ((pathOf a).2 = 0)) || (((pathOf a).1 == []))))] ?_
    refine runL_cases (fun bb => [(4, Bo false), (5, Sr ((pathOf a).1)), (6, I ((pathOf a).2)), (7, Sr ((pathOf b).1)), (8, I ((pathOf b).2)), (16, Bo false), (31, Bo (!(!(([(pathOf a).2, (pathOf b).2]).any fun x0 => !decide (x0 = 0))))), (38, Bo bb)]) ((decide ((pathOf a).2 = 0)) || (((pathOf a).1 == []))) (fun h2 => ?_) (fun h2 => ?_)
    ·
      try simp only [decide_eq_true_eq, decide_eq_false_iff_not, Bool.and_eq_true, Bool.or_eq_true, Bool.and_eq_false_imp, Bool.or_eq_false_iff, Bool.not_eq_true', Bool.not_eq_false', Bool.not_eq_true, Bool.not_eq_false, beq_iff_eq, beq_eq_false_iff_ne, bne_iff_ne, ne_eq, Decidable.not_not, Int.not_lt, Int.not_le] at h2
      refine runL_b [0,0,0] [(4, Bo false), (5, Sr ((pathOf a).1)), (6, I ((pathOf a).2)), (7, Sr ((pathOf b).1)), (8, I ((pathOf b).2)), (16, Bo false), (31, Bo (!(!(([(pathOf a).2, (pathOf b).2]).any fun x0 => !decide (x0 = 0))))), (38, Bo true), (41, Bo (decide ((pathOf b).2 = 0)))] ?_
      refine runL_b2 (decide ((pathOf b).2 = 0)) (fun bb => [(4, Bo false), (5, Sr ((pathOf a).1)), (6, I ((pathOf a).2)), (7, Sr ((pathOf b).1)), (8, I ((pathOf b).2)), (16, Bo false), (31, Bo (!(!(([(pathOf a).2, (pathOf b).2]).any fun x0 => !decide (x0 = 0))))), (38, Bo true), (41, Bo bb)]) [1,1,0] [0,0,0] (fun bb => [(4, Bo false), (5, Sr ((pathOf a).1)), (6, I ((pathOf a).2)), (7, Sr ((pathOf b).1)), (8, I ((pathOf b).2)), (16, Bo false), (31, Bo (!(!(([(pathOf a).2, (pathOf b).2]).any fun x0 => !decide (x0 = 0))))), (38, Bo true), (44, Bo (bb || (((B ((pathOf b).1)).toList == (B ([])).toList))))]) ?_
      refine runL_eq (fr' := [(4, Bo false), (5, Sr ((pathOf a).1)), (6, I ((pathOf a).2)), (7, Sr ((pathOf b).1)), (8, I ((pathOf b).2)), (16, Bo false), (31, Bo (!(!(([(pathOf a).2, (pathOf b).2]).any fun x0 => !decide (x0 = 0))))), (38, Bo true), (44, Bo ((decide ((pathOf b).2 = 0)) || (((pathOf b).1 == []))))]) (L' := [[]]) (by simp only [B_toList]) (by rfl) ?_
      refine runL_b [0,0] [(4, Bo ((decide ((pathOf b).2 = 0)) || (((pathOf b).1 == [])))), (5, Sr ((pathOf a).1)), (6, I ((pathOf a).2)), (7, Sr ((pathOf b).1)), (8, I ((pathOf b).2)), (16, Bo false), (31, Bo (!(!(([(pathOf a).2, (pathOf b).2]).any fun x0 => !decide (x0 = 0)))))] ?_
      refine runL_nil ?_
      refine tq_then ?_
      refine tc_ret ?_
      refine tq_then_ret ?_
      refine tq_ret [0] [Bo ((decide ((pathOf b).2 = 0)) || (((pathOf b).1 == [])))] (bp_ret hl1 ?_)
      have hf_ : ((decide ((pathOf b).2 = 0)) || (((pathOf b).1 == []))) = true := by
        first | (have q1_ := pathOf_or a; have q2_ := pathOf_or b; simp_all; done) | (obtain ⟨g1_, g2_⟩ := good2 h1; first | exact bits_end g1_ g2_ | (obtain ⟨q1_, q2_, q3_, q4_⟩ := bits_at g1_ g2_ (k := i) (by omega); first | exact absurd (q3_ h5.1) h5.2 | exact q4_ h6.1 h6.2 | (rw [q1_, q2_] at h4; exact absurd h4 (by decide))))
      exact congrArg Bo hf_
    ·
      try simp only [decide_eq_true_eq, decide_eq_false_iff_not, Bool.and_eq_true, Bool.or_eq_true, Bool.and_eq_false_imp, Bool.or_eq_false_iff, Bool.not_eq_true', Bool.not_eq_false', Bool.not_eq_true, Bool.not_eq_false, beq_iff_eq, beq_eq_false_iff_ne, bne_iff_ne, ne_eq, Decidable.not_not, Int.not_lt, Int.not_le] at h2
      refine runL_b [1,1,1,1,1,1,0,0] [(4, Bo false), (5, Sr ((pathOf a).1)), (6, I ((pathOf a).2)), (7, Sr ((pathOf b).1)), (8, I ((pathOf b).2)), (16, Bo false), (31, Bo (!(!(([(pathOf a).2, (pathOf b).2]).any fun x0 => !decide (x0 = 0)))))] ?_
      refine runL_nil ?_
      refine tq_then ?_
      refine tc_ret ?_
      refine tq_then_ret ?_
      refine tq_ret [0] [Bo false] (bp_ret hl1 ?_)
      exfalso
      first | (have q1_ := pathOf_or a; have q2_ := pathOf_or b; simp_all; done) | (obtain ⟨g1_, g2_⟩ := good2 h1; first | exact bits_end g1_ g2_ | (obtain ⟨q1_, q2_, q3_, q4_⟩ := bits_at g1_ g2_ (k := i) (by omega); first | exact absurd (q3_ h5.1) h5.2 | exact q4_ h6.1 h6.2 | (rw [q1_, q2_] at h4; exact absurd h4 (by decide))))
  ·
    try simp only [decide_eq_true_eq, decide_eq_false_iff_not, Bool.and_eq_true, Bool.or_eq_true, Bool.and_eq_false_imp, Bool.or_eq_false_iff, Bool.not_eq_true', Bool.not_eq_false', Bool.not_eq_true, Bool.not_eq_false, beq_iff_eq, beq_eq_false_iff_ne, bne_iff_ne, ne_eq, Decidable.not_not, Int.not_lt, Int.not_le] at h1
    refine tc_skip ?_
    refine tq_then ?_
    refine tc_seq ?_
    refine tc_region ?_
    refine runL_b [0,0] [(4, Bo false), (5, Sr ((pathOf a).1)), (6, I ((pathOf a).2)), (7, Sr ((pathOf b).1)), (8, I ((pathOf b).2)), (16, Bo false), (31, Bo (!(!(([(pathOf a).2, (pathOf b).2]).any fun x0 => !decide (x0 = 0))))), (46, Sr ((pathOf a).1)), (47, Sr ((pathOf b).1))] ?_
    refine runL_callV 48 (I (((comN (pathOf a).1 (pathOf b).1 : Nat) : Int))) (comN_con G1 ((pathOf a).1) (Nat.le_trans (pathOf_len a) (by decide)) ((pathOf b).1) (Nat.le_trans (pathOf_len b) (by decide))) ?_
    refine runL_b [0] [(4, Bo false), (5, Sr ((pathOf a).1)), (6, I ((pathOf a).2)), (7, Sr ((pathOf b).1)), (8, I ((pathOf b).2)), (9, I (((comN (pathOf a).1 (pathOf b).1 : Nat) : Int))), (16, Bo false), (31, Bo (!(!(([(pathOf a).2, (pathOf b).2]).any fun x0 => !decide (x0 = 0)))))] ?_
    refine runL_nil ?_
    refine tq_then ?_
    refine tc_seq ?_
    refine tc_rb [0] [(4, Bo false), (5, Sr ((pathOf a).1)), (6, I ((pathOf a).2)), (7, Sr ((pathOf b).1)), (8, I ((pathOf b).2)), (9, I (((comN (pathOf a).1 (pathOf b).1 : Nat) : Int))), (16, Bo false), (31, Bo (!(!(([(pathOf a).2, (pathOf b).2]).any fun x0 => !decide (x0 = 0))))), (49, I 0)] ?_
    refine tc_block ?_
    refine tc_loop (σ := Nat × Mem) (fun q_ => (Mem.le G1 q_.2) ∧ (q_.1 ≤ 16)) (fun q_ => [(5, Sr ((pathOf a).1)), (6, I ((pathOf a).2)), (7, Sr ((pathOf b).1)), (8, I ((pathOf b).2)), (9, I (((comN (pathOf a).1 (pathOf b).1 : Nat) : Int))), (16, Bo false), (31, Bo (!(!(([(pathOf a).2, (pathOf b).2]).any fun x0 => !decide (x0 = 0))))), (49, I ((q_.1 : Int)))]) (fun q_ => q_.2) (fun q_ => [[]]) (fun q_ => 16 - q_.1) ((0, G1)) ⟨(Mem.le_refl _), (by (try dsimp only); first | exact Nat.zero_le _ | omega | simp)⟩ (fun q_ hs => ?_)
    obtain ⟨i, g⟩ := q_
    obtain ⟨hle, hi⟩ := hs
    dsimp only at hle hi
    refine tc_eq (fr' := [(5, Sr ((pathOf a).1)), (6, I ((pathOf a).2)), (7, Sr ((pathOf b).1)), (8, I ((pathOf b).2)), (9, I (((comN (pathOf a).1 (pathOf b).1 : Nat) : Int))), (16, Bo false), (31, Bo (!(!(([(pathOf a).2, (pathOf b).2]).any fun x0 => !decide (x0 = 0))))), (49, I ((i : Int)))]) (L' := [[]]) rfl rfl ?_
    refine tc_rb [0] [(5, Sr ((pathOf a).1)), (6, I ((pathOf a).2)), (7, Sr ((pathOf b).1)), (8, I ((pathOf b).2)), (9, I (((comN (pathOf a).1 (pathOf b).1 : Nat) : Int))), (16, Bo false), (31, Bo (!(!(([(pathOf a).2, (pathOf b).2]).any fun x0 => !decide (x0 = 0))))), (49, I ((i : Int))), (50, Bo (decide ((i : Int) < 16)))] ?_
    refine tc_seq ?_
    refine tc_cond (decide ((i : Int) < 16)) (fun h3 => ?_) (fun h3 => ?_)
    ·
      try simp only [decide_eq_true_eq, decide_eq_false_iff_not, Bool.and_eq_true, Bool.or_eq_true, Bool.and_eq_false_imp, Bool.or_eq_false_iff, Bool.not_eq_true', Bool.not_eq_false', Bool.not_eq_true, Bool.not_eq_false, beq_iff_eq, beq_eq_false_iff_ne, bne_iff_ne, ne_eq, Decidable.not_not, Int.not_lt, Int.not_le] at h3
      refine tc_skip ?_
      refine tq_then ?_
      refine tc_seq ?_
      refine tc_block ?_
      refine tc_rb [0,0] [(5, Sr ((pathOf a).1)), (6, I ((pathOf a).2)), (7, Sr ((pathOf b).1)), (8, I ((pathOf b).2)), (9, I (((comN (pathOf a).1 (pathOf b).1 : Nat) : Int))), (10, I ((i : Int))), (16, Bo false), (31, Bo (!(!(([(pathOf a).2, (pathOf b).2]).any fun x0 => !decide (x0 = 0))))), (49, I ((i : Int))), (50, Bo (decide ((i : Int) < 16)))] ?_
      refine tc_seq ?_
      refine tc_region ?_
      refine runL_b [0,0] [(5, Sr ((pathOf a).1)), (6, I ((pathOf a).2)), (7, Sr ((pathOf b).1)), (8, I ((pathOf b).2)), (9, I (((comN (pathOf a).1 (pathOf b).1 : Nat) : Int))), (10, I ((i : Int))), (16, Bo false), (31, Bo (!(!(([(pathOf a).2, (pathOf b).2]).any fun x0 => !decide (x0 = 0))))), (49, I ((i : Int))), (50, Bo (decide ((i : Int) < 16))), (53, Sr ((pathOf a).1)), (54, I ((i : Int)))] ?_
      refine runL_callV 55 (.tuple #[I ((bitAt ((pathOf a).1) ((i : Int))).1), I ((bitAt ((pathOf a).1) ((i : Int))).2)]) (bitAt_con g ((pathOf a).1) (Nat.le_trans (pathOf_len a) (by decide)) ((i : Int))) ?_
      refine runL_b [0,0,0,0,0] [(5, Sr ((pathOf a).1)), (6, I ((pathOf a).2)), (7, Sr ((pathOf b).1)), (8, I ((pathOf b).2)), (9, I (((comN (pathOf a).1 (pathOf b).1 : Nat) : Int))), (10, I ((i : Int))), (11, I ((bitAt ((pathOf a).1) ((i : Int))).1)), (12, I ((bitAt ((pathOf a).1) ((i : Int))).2)), (16, Bo false), (31, Bo (!(!(([(pathOf a).2, (pathOf b).2]).any fun x0 => !decide (x0 = 0))))), (49, I ((i : Int))), (50, Bo (decide ((i : Int) < 16)))] ?_
      refine runL_nil ?_
      refine tq_then ?_
      refine tc_seq ?_
      refine tc_region ?_
      refine runL_b [0,0] [(5, Sr ((pathOf a).1)), (6, I ((pathOf a).2)), (7, Sr ((pathOf b).1)), (8, I ((pathOf b).2)), (9, I (((comN (pathOf a).1 (pathOf b).1 : Nat) : Int))), (10, I ((i : Int))), (11, I ((bitAt ((pathOf a).1) ((i : Int))).1)), (12, I ((bitAt ((pathOf a).1) ((i : Int))).2)), (16, Bo false), (31, Bo (!(!(([(pathOf a).2, (pathOf b).2]).any fun x0 => !decide (x0 = 0))))), (49, I ((i : Int))), (50, Bo (decide ((i : Int) < 16))), (59, Sr ((pathOf b).1)), (60, I ((i : Int)))] ?_
      refine runL_callV 61 (.tuple #[I ((bitAt ((pathOf b).1) ((i : Int))).1), I ((bitAt ((pathOf b).1) ((i : Int))).2)]) (bitAt_con g ((pathOf b).1) (Nat.le_trans (pathOf_len b) (by decide)) ((i : Int))) ?_
      refine runL_b [0,0,0,0,0] [(5, Sr ((pathOf a).1)), (6, I ((pathOf a).2)), (7, Sr ((pathOf b).1)), (8, I ((pathOf b).2)), (9, I (((comN (pathOf a).1 (pathOf b).1 : Nat) : Int))), (10, I ((i : Int))), (11, I ((bitAt ((pathOf a).1) ((i : Int))).1)), (12, I ((bitAt ((pathOf a).1) ((i : Int))).2)), (13, I ((bitAt ((pathOf b).1) ((i : Int))).1)), (14, I ((bitAt ((pathOf b).1) ((i : Int))).2)), (16, Bo false), (31, Bo (!(!(([(pathOf a).2, (pathOf b).2]).any fun x0 => !decide (x0 = 0))))), (49, I ((i : Int))), (50, Bo (decide ((i : Int) < 16)))] ?_
      refine runL_nil ?_
      refine tq_then ?_
      refine tc_seq ?_
      refine tc_region ?_
      refine runL_b [0,0] [(5, Sr ((pathOf a).1)), (6, I ((pathOf a).2)), (7, Sr ((pathOf b).1)), (8, I ((pathOf b).2)), (9, I (((comN (pathOf a).1 (pathOf b).1 : Nat) : Int))), (10, I ((i : Int))), (11, I ((bitAt ((pathOf a).1) ((i : Int))).1)), (12, I ((bitAt ((pathOf a).1) ((i : Int))).2)), (13, I ((bitAt ((pathOf b).1) ((i : Int))).1)), (14, I ((bitAt ((pathOf b).1) ((i : Int))).2)), (16, Bo false), (31, Bo (!(!(([(pathOf a).2, (pathOf b).2]).any fun x0 => !decide (x0 = 0))))), (49, I ((i : Int))), (50, Bo (decide ((i : Int) < 16))), (64, I ((bitAt ((pathOf a).1) ((i : Int))).2)), (65, I ((bitAt ((pathOf b).1) ((i : Int))).2))] ?_
      refine runL_bsl 66 2 #[I ((bitAt ((pathOf a).1) ((i : Int))).2), I ((bitAt ((pathOf b).1) ((i : Int))).2)] 23 (fun b2 => ?_)
      refine runL_frz1 (b := b2) (o := 0) (cs := [I ((bitAt ((pathOf a).1) ((i : Int))).2), I ((bitAt ((pathOf b).1) ((i : Int))).2)]) 0 (fun G2 hl2 hz2 => ?_)
      have hs2 : RS EErr G2 (At b2 0) 2 [(bitAt ((pathOf a).1) ((i : Int))).2, (bitAt ((pathOf b).1) ((i : Int))).2] := RS.lit [[I ((bitAt ((pathOf a).1) ((i : Int))).2)], [I ((bitAt ((pathOf b).1) ((i : Int))).2)]] [(bitAt ((pathOf a).1) ((i : Int))).2, (bitAt ((pathOf b).1) ((i : Int))).2] ⟨rfl, ⟨rfl, trivial⟩⟩ hz2 (Nat.le_of_ble_eq_true rfl) (Nat.le_of_ble_eq_true rfl)
      refine runL_callV 67 (Bo (!(([(bitAt ((pathOf a).1) ((i : Int))).2, (bitAt ((pathOf b).1) ((i : Int))).2]).any fun x0 => !decide (x0 = 0)))) (good_con G2 (At b2 0) 2 ([(bitAt ((pathOf a).1) ((i : Int))).2, (bitAt ((pathOf b).1) ((i : Int))).2]) hs2) ?_
      refine runL_b [0,0] [(5, Sr ((pathOf a).1)), (6, I ((pathOf a).2)), (7, Sr ((pathOf b).1)), (8, I ((pathOf b).2)), (9, I (((comN (pathOf a).1 (pathOf b).1 : Nat) : Int))), (10, I ((i : Int))), (11, I ((bitAt ((pathOf a).1) ((i : Int))).1)), (12, I ((bitAt ((pathOf a).1) ((i : Int))).2)), (13, I ((bitAt ((pathOf b).1) ((i : Int))).1)), (14, I ((bitAt ((pathOf b).1) ((i : Int))).2)), (16, Bo false), (31, Bo (!(!(([(pathOf a).2, (pathOf b).2]).any fun x0 => !decide (x0 = 0))))), (49, I ((i : Int))), (50, Bo (decide ((i : Int) < 16))), (69, Bo (!(!(([(bitAt ((pathOf a).1) ((i : Int))).2, (bitAt ((pathOf b).1) ((i : Int))).2]).any fun x0 => !decide (x0 = 0)))))] ?_
      refine runL_cases (fun bb => [(5, Sr ((pathOf a).1)), (6, I ((pathOf a).2)), (7, Sr ((pathOf b).1)), (8, I ((pathOf b).2)), (9, I (((comN (pathOf a).1 (pathOf b).1 : Nat) : Int))), (10, I ((i : Int))), (11, I ((bitAt ((pathOf a).1) ((i : Int))).1)), (12, I ((bitAt ((pathOf a).1) ((i : Int))).2)), (13, I ((bitAt ((pathOf b).1) ((i : Int))).1)), (14, I ((bitAt ((pathOf b).1) ((i : Int))).2)), (16, Bo false), (31, Bo (!(!(([(pathOf a).2, (pathOf b).2]).any fun x0 => !decide (x0 = 0))))), (49, I ((i : Int))), (50, Bo (decide ((i : Int) < 16))), (69, Bo bb)]) (!(!(([(bitAt ((pathOf a).1) ((i : Int))).2, (bitAt ((pathOf b).1) ((i : Int))).2]).any fun x0 => !decide (x0 = 0)))) (fun h4 => ?_) (fun h4 => ?_)
      ·
        try simp only [decide_eq_true_eq, decide_eq_false_iff_not, Bool.and_eq_true, Bool.or_eq_true, Bool.and_eq_false_imp, Bool.or_eq_false_iff, Bool.not_eq_true', Bool.not_eq_false', Bool.not_eq_true, Bool.not_eq_false, beq_iff_eq, beq_eq_false_iff_ne, bne_iff_ne, ne_eq, Decidable.not_not, Int.not_lt, Int.not_le] at h4
        refine runL_b [1,1,1,1,1,1,1,1,0,0,1,1,1,1,1,1,1,1,0] [(5, Sr ((pathOf a).1)), (6, I ((pathOf a).2)), (7, Sr ((pathOf b).1)), (8, I ((pathOf b).2)), (9, I (((comN (pathOf a).1 (pathOf b).1 : Nat) : Int))), (10, I ((i : Int))), (11, I ((bitAt ((pathOf a).1) ((i : Int))).1)), (12, I ((bitAt ((pathOf a).1) ((i : Int))).2)), (13, I ((bitAt ((pathOf b).1) ((i : Int))).1)), (14, I ((bitAt ((pathOf b).1) ((i : Int))).2)), (16, Bo false), (31, Bo (!(!(([(pathOf a).2, (pathOf b).2]).any fun x0 => !decide (x0 = 0))))), (49, I ((i : Int))), (50, Bo (decide ((i : Int) < 16))), (88, Bo true)] ?_
        refine runL_nil ?_
        refine tq_then ?_
        refine tc_cond_true ?_
        refine tc_rb [0] [(4, Bo false), (5, Sr ((pathOf a).1)), (6, I ((pathOf a).2)), (7, Sr ((pathOf b).1)), (8, I ((pathOf b).2)), (9, I (((comN (pathOf a).1 (pathOf b).1 : Nat) : Int))), (10, I ((i : Int))), (11, I ((bitAt ((pathOf a).1) ((i : Int))).1)), (12, I ((bitAt ((pathOf a).1) ((i : Int))).2)), (13, I ((bitAt ((pathOf b).1) ((i : Int))).1)), (14, I ((bitAt ((pathOf b).1) ((i : Int))).2)), (16, Bo false), (31, Bo (!(!(([(pathOf a).2, (pathOf b).2]).any fun x0 => !decide (x0 = 0))))), (49, I ((i : Int))), (50, Bo (decide ((i : Int) < 16))), (88, Bo true)] ?_
        refine tc_ret ?_
        refine tq_block_ret ?_
        refine tq_then_ret ?_
        refine tq_rnd_ret ?_
        refine tq_block_ret ?_
        refine tq_then_ret ?_
        refine tq_ret [0] [Bo false] (bp_ret (Mem.le_trans (Mem.le_trans hl1 hle) hl2) ?_)
        exfalso
        first | (have q1_ := pathOf_or a; have q2_ := pathOf_or b; simp_all; done) | (obtain ⟨g1_, g2_⟩ := good2 h1; first | exact bits_end g1_ g2_ | (obtain ⟨q1_, q2_, q3_, q4_⟩ := bits_at g1_ g2_ (k := i) (by omega); first | exact absurd (q3_ h5.1) h5.2 | exact q4_ h6.1 h6.2 | (rw [q1_, q2_] at h4; exact absurd h4 (by decide))))
      ·
        try simp only [decide_eq_true_eq, decide_eq_false_iff_not, Bool.and_eq_true, Bool.or_eq_true, Bool.and_eq_false_imp, Bool.or_eq_false_iff, Bool.not_eq_true', Bool.not_eq_false', Bool.not_eq_true, Bool.not_eq_false, beq_iff_eq, beq_eq_false_iff_ne, bne_iff_ne, ne_eq, Decidable.not_not, Int.not_lt, Int.not_le] at h4
        refine runL_b [0,0,0,0] [(5, Sr ((pathOf a).1)), (6, I ((pathOf a).2)), (7, Sr ((pathOf b).1)), (8, I ((pathOf b).2)), (9, I (((comN (pathOf a).1 (pathOf b).1 : Nat) : Int))), (10, I ((i : Int))), (11, I ((bitAt ((pathOf a).1) ((i : Int))).1)), (12, I ((bitAt ((pathOf a).1) ((i : Int))).2)), (13, I ((bitAt ((pathOf b).1) ((i : Int))).1)), (14, I ((bitAt ((pathOf b).1) ((i : Int))).2)), (16, Bo false), (31, Bo (!(!(([(pathOf a).2, (pathOf b).2]).any fun x0 => !decide (x0 = 0))))), (49, I ((i : Int))), (50, Bo (decide ((i : Int) < 16))), (69, Bo false), (73, Bo (decide ((i : Int) < ((comN (pathOf a).1 (pathOf b).1 : Nat) : Int))))] ?_
        refine runL_b2 (decide ((i : Int) < ((comN (pathOf a).1 (pathOf b).1 : Nat) : Int))) (fun bb => [(5, Sr ((pathOf a).1)), (6, I ((pathOf a).2)), (7, Sr ((pathOf b).1)), (8, I ((pathOf b).2)), (9, I (((comN (pathOf a).1 (pathOf b).1 : Nat) : Int))), (10, I ((i : Int))), (11, I ((bitAt ((pathOf a).1) ((i : Int))).1)), (12, I ((bitAt ((pathOf a).1) ((i : Int))).2)), (13, I ((bitAt ((pathOf b).1) ((i : Int))).1)), (14, I ((bitAt ((pathOf b).1) ((i : Int))).2)), (16, Bo false), (31, Bo (!(!(([(pathOf a).2, (pathOf b).2]).any fun x0 => !decide (x0 = 0))))), (49, I ((i : Int))), (50, Bo (decide ((i : Int) < 16))), (69, Bo false), (73, Bo bb)]) [0,0,0,0] [1,1,1,0] (fun bb => [(5, Sr ((pathOf a).1)), (6, I ((pathOf a).2)), (7, Sr ((pathOf b).1)), (8, I ((pathOf b).2)), (9, I (((comN (pathOf a).1 (pathOf b).1 : Nat) : Int))), (10, I ((i : Int))), (11, I ((bitAt ((pathOf a).1) ((i : Int))).1)), (12, I ((bitAt ((pathOf a).1) ((i : Int))).2)), (13, I ((bitAt ((pathOf b).1) ((i : Int))).1)), (14, I ((bitAt ((pathOf b).1) ((i : Int))).2)), (16, Bo false), (31, Bo (!(!(([(pathOf a).2, (pathOf b).2]).any fun x0 => !decide (x0 = 0))))), (49, I ((i : Int))), (50, Bo (decide ((i : Int) < 16))), (69, Bo false), (77, Bo (bb && (!decide ((bitAt ((pathOf a).1) ((i : Int))).1 = (bitAt ((pathOf b).1) ((i : Int))).1))))]) ?_
        refine runL_b [0,0] [(5, Sr ((pathOf a).1)), (6, I ((pathOf a).2)), (7, Sr ((pathOf b).1)), (8, I ((pathOf b).2)), (9, I (((comN (pathOf a).1 (pathOf b).1 : Nat) : Int))), (10, I ((i : Int))), (11, I ((bitAt ((pathOf a).1) ((i : Int))).1)), (12, I ((bitAt ((pathOf a).1) ((i : Int))).2)), (13, I ((bitAt ((pathOf b).1) ((i : Int))).1)), (14, I ((bitAt ((pathOf b).1) ((i : Int))).2)), (16, Bo false), (31, Bo (!(!(([(pathOf a).2, (pathOf b).2]).any fun x0 => !decide (x0 = 0))))), (49, I ((i : Int))), (50, Bo (decide ((i : Int) < 16))), (79, Bo ((decide ((i : Int) < ((comN (pathOf a).1 (pathOf b).1 : Nat) : Int))) && (!decide ((bitAt ((pathOf a).1) ((i : Int))).1 = (bitAt ((pathOf b).1) ((i : Int))).1))))] ?_
        refine runL_cases (fun bb => [(5, Sr ((pathOf a).1)), (6, I ((pathOf a).2)), (7, Sr ((pathOf b).1)), (8, I ((pathOf b).2)), (9, I (((comN (pathOf a).1 (pathOf b).1 : Nat) : Int))), (10, I ((i : Int))), (11, I ((bitAt ((pathOf a).1) ((i : Int))).1)), (12, I ((bitAt ((pathOf a).1) ((i : Int))).2)), (13, I ((bitAt ((pathOf b).1) ((i : Int))).1)), (14, I ((bitAt ((pathOf b).1) ((i : Int))).2)), (16, Bo false), (31, Bo (!(!(([(pathOf a).2, (pathOf b).2]).any fun x0 => !decide (x0 = 0))))), (49, I ((i : Int))), (50, Bo (decide ((i : Int) < 16))), (79, Bo bb)]) ((decide ((i : Int) < ((comN (pathOf a).1 (pathOf b).1 : Nat) : Int))) && (!decide ((bitAt ((pathOf a).1) ((i : Int))).1 = (bitAt ((pathOf b).1) ((i : Int))).1))) (fun h5 => ?_) (fun h5 => ?_)
        ·
          try simp only [decide_eq_true_eq, decide_eq_false_iff_not, Bool.and_eq_true, Bool.or_eq_true, Bool.and_eq_false_imp, Bool.or_eq_false_iff, Bool.not_eq_true', Bool.not_eq_false', Bool.not_eq_true, Bool.not_eq_false, beq_iff_eq, beq_eq_false_iff_ne, bne_iff_ne, ne_eq, Decidable.not_not, Int.not_lt, Int.not_le] at h5
          refine runL_b [1,1,1,1,1,1,1,1,0] [(5, Sr ((pathOf a).1)), (6, I ((pathOf a).2)), (7, Sr ((pathOf b).1)), (8, I ((pathOf b).2)), (9, I (((comN (pathOf a).1 (pathOf b).1 : Nat) : Int))), (10, I ((i : Int))), (11, I ((bitAt ((pathOf a).1) ((i : Int))).1)), (12, I ((bitAt ((pathOf a).1) ((i : Int))).2)), (13, I ((bitAt ((pathOf b).1) ((i : Int))).1)), (14, I ((bitAt ((pathOf b).1) ((i : Int))).2)), (16, Bo false), (31, Bo (!(!(([(pathOf a).2, (pathOf b).2]).any fun x0 => !decide (x0 = 0))))), (49, I ((i : Int))), (50, Bo (decide ((i : Int) < 16))), (88, Bo true)] ?_
          refine runL_nil ?_
          refine tq_then ?_
          refine tc_cond_true ?_
          refine tc_rb [0] [(4, Bo false), (5, Sr ((pathOf a).1)), (6, I ((pathOf a).2)), (7, Sr ((pathOf b).1)), (8, I ((pathOf b).2)), (9, I (((comN (pathOf a).1 (pathOf b).1 : Nat) : Int))), (10, I ((i : Int))), (11, I ((bitAt ((pathOf a).1) ((i : Int))).1)), (12, I ((bitAt ((pathOf a).1) ((i : Int))).2)), (13, I ((bitAt ((pathOf b).1) ((i : Int))).1)), (14, I ((bitAt ((pathOf b).1) ((i : Int))).2)), (16, Bo false), (31, Bo (!(!(([(pathOf a).2, (pathOf b).2]).any fun x0 => !decide (x0 = 0))))), (49, I ((i : Int))), (50, Bo (decide ((i : Int) < 16))), (88, Bo true)] ?_
          refine tc_ret ?_
          refine tq_block_ret ?_
          refine tq_then_ret ?_
          refine tq_rnd_ret ?_
          refine tq_block_ret ?_
          refine tq_then_ret ?_
          refine tq_ret [0] [Bo false] (bp_ret (Mem.le_trans (Mem.le_trans hl1 hle) hl2) ?_)
          exfalso
          first | (have q1_ := pathOf_or a; have q2_ := pathOf_or b; simp_all; done) | (obtain ⟨g1_, g2_⟩ := good2 h1; first | exact bits_end g1_ g2_ | (obtain ⟨q1_, q2_, q3_, q4_⟩ := bits_at g1_ g2_ (k := i) (by omega); first | exact absurd (q3_ h5.1) h5.2 | exact q4_ h6.1 h6.2 | (rw [q1_, q2_] at h4; exact absurd h4 (by decide))))
        ·
          try simp only [decide_eq_true_eq, decide_eq_false_iff_not, Bool.and_eq_true, Bool.or_eq_true, Bool.and_eq_false_imp, Bool.or_eq_false_iff, Bool.not_eq_true', Bool.not_eq_false', Bool.not_eq_true, Bool.not_eq_false, beq_iff_eq, beq_eq_false_iff_ne, bne_iff_ne, ne_eq, Decidable.not_not, Int.not_lt, Int.not_le] at h5
          refine runL_b [0,0,0,0] [(5, Sr ((pathOf a).1)), (6, I ((pathOf a).2)), (7, Sr ((pathOf b).1)), (8, I ((pathOf b).2)), (9, I (((comN (pathOf a).1 (pathOf b).1 : Nat) : Int))), (10, I ((i : Int))), (11, I ((bitAt ((pathOf a).1) ((i : Int))).1)), (12, I ((bitAt ((pathOf a).1) ((i : Int))).2)), (13, I ((bitAt ((pathOf b).1) ((i : Int))).1)), (14, I ((bitAt ((pathOf b).1) ((i : Int))).2)), (16, Bo false), (31, Bo (!(!(([(pathOf a).2, (pathOf b).2]).any fun x0 => !decide (x0 = 0))))), (49, I ((i : Int))), (50, Bo (decide ((i : Int) < 16))), (79, Bo false), (83, Bo (decide ((i : Int) = ((comN (pathOf a).1 (pathOf b).1 : Nat) : Int))))] ?_
          refine runL_b2 (decide ((i : Int) = ((comN (pathOf a).1 (pathOf b).1 : Nat) : Int))) (fun bb => [(5, Sr ((pathOf a).1)), (6, I ((pathOf a).2)), (7, Sr ((pathOf b).1)), (8, I ((pathOf b).2)), (9, I (((comN (pathOf a).1 (pathOf b).1 : Nat) : Int))), (10, I ((i : Int))), (11, I ((bitAt ((pathOf a).1) ((i : Int))).1)), (12, I ((bitAt ((pathOf a).1) ((i : Int))).2)), (13, I ((bitAt ((pathOf b).1) ((i : Int))).1)), (14, I ((bitAt ((pathOf b).1) ((i : Int))).2)), (16, Bo false), (31, Bo (!(!(([(pathOf a).2, (pathOf b).2]).any fun x0 => !decide (x0 = 0))))), (49, I ((i : Int))), (50, Bo (decide ((i : Int) < 16))), (79, Bo false), (83, Bo bb)]) [0,0,0,0] [1,1,1,0] (fun bb => [(5, Sr ((pathOf a).1)), (6, I ((pathOf a).2)), (7, Sr ((pathOf b).1)), (8, I ((pathOf b).2)), (9, I (((comN (pathOf a).1 (pathOf b).1 : Nat) : Int))), (10, I ((i : Int))), (11, I ((bitAt ((pathOf a).1) ((i : Int))).1)), (12, I ((bitAt ((pathOf a).1) ((i : Int))).2)), (13, I ((bitAt ((pathOf b).1) ((i : Int))).1)), (14, I ((bitAt ((pathOf b).1) ((i : Int))).2)), (16, Bo false), (31, Bo (!(!(([(pathOf a).2, (pathOf b).2]).any fun x0 => !decide (x0 = 0))))), (49, I ((i : Int))), (50, Bo (decide ((i : Int) < 16))), (79, Bo false), (87, Bo (bb && (decide ((bitAt ((pathOf a).1) ((i : Int))).1 = (bitAt ((pathOf b).1) ((i : Int))).1))))]) ?_
          refine runL_b [0] [(5, Sr ((pathOf a).1)), (6, I ((pathOf a).2)), (7, Sr ((pathOf b).1)), (8, I ((pathOf b).2)), (9, I (((comN (pathOf a).1 (pathOf b).1 : Nat) : Int))), (10, I ((i : Int))), (11, I ((bitAt ((pathOf a).1) ((i : Int))).1)), (12, I ((bitAt ((pathOf a).1) ((i : Int))).2)), (13, I ((bitAt ((pathOf b).1) ((i : Int))).1)), (14, I ((bitAt ((pathOf b).1) ((i : Int))).2)), (16, Bo false), (31, Bo (!(!(([(pathOf a).2, (pathOf b).2]).any fun x0 => !decide (x0 = 0))))), (49, I ((i : Int))), (50, Bo (decide ((i : Int) < 16))), (88, Bo ((decide ((i : Int) = ((comN (pathOf a).1 (pathOf b).1 : Nat) : Int))) && (decide ((bitAt ((pathOf a).1) ((i : Int))).1 = (bitAt ((pathOf b).1) ((i : Int))).1))))] ?_
          refine runL_nil ?_
          refine tq_then ?_
          refine tc_cond ((decide ((i : Int) = ((comN (pathOf a).1 (pathOf b).1 : Nat) : Int))) && (decide ((bitAt ((pathOf a).1) ((i : Int))).1 = (bitAt ((pathOf b).1) ((i : Int))).1))) (fun h6 => ?_) (fun h6 => ?_)
          ·
            try simp only [decide_eq_true_eq, decide_eq_false_iff_not, Bool.and_eq_true, Bool.or_eq_true, Bool.and_eq_false_imp, Bool.or_eq_false_iff, Bool.not_eq_true', Bool.not_eq_false', Bool.not_eq_true, Bool.not_eq_false, beq_iff_eq, beq_eq_false_iff_ne, bne_iff_ne, ne_eq, Decidable.not_not, Int.not_lt, Int.not_le] at h6
            refine tc_rb [0] [(4, Bo false), (5, Sr ((pathOf a).1)), (6, I ((pathOf a).2)), (7, Sr ((pathOf b).1)), (8, I ((pathOf b).2)), (9, I (((comN (pathOf a).1 (pathOf b).1 : Nat) : Int))), (10, I ((i : Int))), (11, I ((bitAt ((pathOf a).1) ((i : Int))).1)), (12, I ((bitAt ((pathOf a).1) ((i : Int))).2)), (13, I ((bitAt ((pathOf b).1) ((i : Int))).1)), (14, I ((bitAt ((pathOf b).1) ((i : Int))).2)), (16, Bo false), (31, Bo (!(!(([(pathOf a).2, (pathOf b).2]).any fun x0 => !decide (x0 = 0))))), (49, I ((i : Int))), (50, Bo (decide ((i : Int) < 16))), (88, Bo ((decide ((i : Int) = ((comN (pathOf a).1 (pathOf b).1 : Nat) : Int))) && (decide ((bitAt ((pathOf a).1) ((i : Int))).1 = (bitAt ((pathOf b).1) ((i : Int))).1))))] ?_
            refine tc_ret ?_
            refine tq_block_ret ?_
            refine tq_then_ret ?_
            refine tq_rnd_ret ?_
            refine tq_block_ret ?_
            refine tq_then_ret ?_
            refine tq_ret [0] [Bo false] (bp_ret (Mem.le_trans (Mem.le_trans hl1 hle) hl2) ?_)
            exfalso
            first | (have q1_ := pathOf_or a; have q2_ := pathOf_or b; simp_all; done) | (obtain ⟨g1_, g2_⟩ := good2 h1; first | exact bits_end g1_ g2_ | (obtain ⟨q1_, q2_, q3_, q4_⟩ := bits_at g1_ g2_ (k := i) (by omega); first | exact absurd (q3_ h5.1) h5.2 | exact q4_ h6.1 h6.2 | (rw [q1_, q2_] at h4; exact absurd h4 (by decide))))
          ·
            try simp only [decide_eq_true_eq, decide_eq_false_iff_not, Bool.and_eq_true, Bool.or_eq_true, Bool.and_eq_false_imp, Bool.or_eq_false_iff, Bool.not_eq_true', Bool.not_eq_false', Bool.not_eq_true, Bool.not_eq_false, beq_iff_eq, beq_eq_false_iff_ne, bne_iff_ne, ne_eq, Decidable.not_not, Int.not_lt, Int.not_le] at h6
            refine tc_skip ?_
            refine tq_block ?_
            refine tq_then ?_
            refine tc_region ?_
            refine runL_b [0,0] [(5, Sr ((pathOf a).1)), (6, I ((pathOf a).2)), (7, Sr ((pathOf b).1)), (8, I ((pathOf b).2)), (9, I (((comN (pathOf a).1 (pathOf b).1 : Nat) : Int))), (10, I ((i : Int))), (11, I ((bitAt ((pathOf a).1) ((i : Int))).1)), (12, I ((bitAt ((pathOf a).1) ((i : Int))).2)), (13, I ((bitAt ((pathOf b).1) ((i : Int))).1)), (14, I ((bitAt ((pathOf b).1) ((i : Int))).2)), (16, Bo false), (31, Bo (!(!(([(pathOf a).2, (pathOf b).2]).any fun x0 => !decide (x0 = 0))))), (49, I (IntKind.i64.wrap (((i : Int)) + 1))), (50, Bo (decide ((i : Int) < 16))), (88, Bo ((decide ((i : Int) = ((comN (pathOf a).1 (pathOf b).1 : Nat) : Int))) && (decide ((bitAt ((pathOf a).1) ((i : Int))).1 = (bitAt ((pathOf b).1) ((i : Int))).1))))] ?_
            have e1 : IntKind.i64.wrap (((i : Int)) + 1) = ((i : Int)) + 1 := IntWalk.i64_in _ (by omega)
            refine runL_eq (fr' := [(5, Sr ((pathOf a).1)), (6, I ((pathOf a).2)), (7, Sr ((pathOf b).1)), (8, I ((pathOf b).2)), (9, I (((comN (pathOf a).1 (pathOf b).1 : Nat) : Int))), (10, I ((i : Int))), (11, I ((bitAt ((pathOf a).1) ((i : Int))).1)), (12, I ((bitAt ((pathOf a).1) ((i : Int))).2)), (13, I ((bitAt ((pathOf b).1) ((i : Int))).1)), (14, I ((bitAt ((pathOf b).1) ((i : Int))).2)), (16, Bo false), (31, Bo (!(!(([(pathOf a).2, (pathOf b).2]).any fun x0 => !decide (x0 = 0))))), (49, I (((i : Int)) + 1)), (50, Bo (decide ((i : Int) < 16))), (88, Bo ((decide ((i : Int) = ((comN (pathOf a).1 (pathOf b).1 : Nat) : Int))) && (decide ((bitAt ((pathOf a).1) ((i : Int))).1 = (bitAt ((pathOf b).1) ((i : Int))).1))))]) (L' := [[], []]) (by simp only [e1]) (by rfl) ?_
            clear e1
            refine runL_nil ?_
            refine tq_owns [[]] ((.cons _ (.cons_cons _ .slnil))) ?_
            exact tq_rnd ((i + 1, G2)) ⟨(Mem.le_trans hle hl2), (by omega)⟩ (by (try dsimp only); omega)
    ·
      try simp only [decide_eq_true_eq, decide_eq_false_iff_not, Bool.and_eq_true, Bool.or_eq_true, Bool.and_eq_false_imp, Bool.or_eq_false_iff, Bool.not_eq_true', Bool.not_eq_false', Bool.not_eq_true, Bool.not_eq_false, beq_iff_eq, beq_eq_false_iff_ne, bne_iff_ne, ne_eq, Decidable.not_not, Int.not_lt, Int.not_le] at h3
      refine tc_exit ?_
      refine tq_then_exit ?_
      refine tq_rnd_exit ?_
      refine tq_block_here ?_
      refine tq_then ?_
      refine tc_seq ?_
      refine tc_region ?_
      refine runL_b [0,0,0] [(5, Sr ((pathOf a).1)), (6, I ((pathOf a).2)), (7, Sr ((pathOf b).1)), (8, I ((pathOf b).2)), (9, I (((comN (pathOf a).1 (pathOf b).1 : Nat) : Int))), (16, Bo false), (31, Bo (!(!(([(pathOf a).2, (pathOf b).2]).any fun x0 => !decide (x0 = 0))))), (49, I ((i : Int))), (50, Bo (decide ((i : Int) < 16))), (92, Bo (decide (((comN (pathOf a).1 (pathOf b).1 : Nat) : Int) ≥ 0)))] ?_
      refine runL_b2 (decide (((comN (pathOf a).1 (pathOf b).1 : Nat) : Int) ≥ 0)) (fun bb => [(5, Sr ((pathOf a).1)), (6, I ((pathOf a).2)), (7, Sr ((pathOf b).1)), (8, I ((pathOf b).2)), (9, I (((comN (pathOf a).1 (pathOf b).1 : Nat) : Int))), (16, Bo false), (31, Bo (!(!(([(pathOf a).2, (pathOf b).2]).any fun x0 => !decide (x0 = 0))))), (49, I ((i : Int))), (50, Bo (decide ((i : Int) < 16))), (92, Bo bb)]) [0,0,0] [1,1,0] (fun bb => [(5, Sr ((pathOf a).1)), (6, I ((pathOf a).2)), (7, Sr ((pathOf b).1)), (8, I ((pathOf b).2)), (9, I (((comN (pathOf a).1 (pathOf b).1 : Nat) : Int))), (16, Bo false), (31, Bo (!(!(([(pathOf a).2, (pathOf b).2]).any fun x0 => !decide (x0 = 0))))), (49, I ((i : Int))), (50, Bo (decide ((i : Int) < 16))), (95, Bo (bb && (decide (((comN (pathOf a).1 (pathOf b).1 : Nat) : Int) ≤ 16))))]) ?_
      refine runL_b [0] [(5, Sr ((pathOf a).1)), (6, I ((pathOf a).2)), (7, Sr ((pathOf b).1)), (8, I ((pathOf b).2)), (9, I (((comN (pathOf a).1 (pathOf b).1 : Nat) : Int))), (16, Bo false), (31, Bo (!(!(([(pathOf a).2, (pathOf b).2]).any fun x0 => !decide (x0 = 0))))), (49, I ((i : Int))), (50, Bo (decide ((i : Int) < 16))), (96, Bo ((decide (((comN (pathOf a).1 (pathOf b).1 : Nat) : Int) ≥ 0)) && (decide (((comN (pathOf a).1 (pathOf b).1 : Nat) : Int) ≤ 16))))] ?_
      refine runL_b2 ((decide (((comN (pathOf a).1 (pathOf b).1 : Nat) : Int) ≥ 0)) && (decide (((comN (pathOf a).1 (pathOf b).1 : Nat) : Int) ≤ 16))) (fun bb => [(5, Sr ((pathOf a).1)), (6, I ((pathOf a).2)), (7, Sr ((pathOf b).1)), (8, I ((pathOf b).2)), (9, I (((comN (pathOf a).1 (pathOf b).1 : Nat) : Int))), (16, Bo false), (31, Bo (!(!(([(pathOf a).2, (pathOf b).2]).any fun x0 => !decide (x0 = 0))))), (49, I ((i : Int))), (50, Bo (decide ((i : Int) < 16))), (96, Bo bb)]) [0,0,0,0,0,0,0] [1,1,1,1,1,1,0] (fun bb => [(5, Sr ((pathOf a).1)), (6, I ((pathOf a).2)), (7, Sr ((pathOf b).1)), (8, I ((pathOf b).2)), (9, I (((comN (pathOf a).1 (pathOf b).1 : Nat) : Int))), (16, Bo false), (31, Bo (!(!(([(pathOf a).2, (pathOf b).2]).any fun x0 => !decide (x0 = 0))))), (49, I ((i : Int))), (50, Bo (decide ((i : Int) < 16))), (103, Bo (bb && (((decide (((comN (pathOf a).1 (pathOf b).1 : Nat) : Int) = 16)) == (((B ((pathOf a).1)).toList == (B ((pathOf b).1)).toList))))))]) ?_
      refine runL_eq (fr' := [(5, Sr ((pathOf a).1)), (6, I ((pathOf a).2)), (7, Sr ((pathOf b).1)), (8, I ((pathOf b).2)), (9, I (((comN (pathOf a).1 (pathOf b).1 : Nat) : Int))), (16, Bo false), (31, Bo (!(!(([(pathOf a).2, (pathOf b).2]).any fun x0 => !decide (x0 = 0))))), (49, I ((i : Int))), (50, Bo (decide ((i : Int) < 16))), (103, Bo (((decide (((comN (pathOf a).1 (pathOf b).1 : Nat) : Int) ≥ 0)) && (decide (((comN (pathOf a).1 (pathOf b).1 : Nat) : Int) ≤ 16))) && (((decide (((comN (pathOf a).1 (pathOf b).1 : Nat) : Int) = 16)) == (((pathOf a).1 == (pathOf b).1))))))]) (L' := [[]]) (by simp only [B_toList]) (by rfl) ?_
      refine runL_b [0] [(4, Bo (((decide (((comN (pathOf a).1 (pathOf b).1 : Nat) : Int) ≥ 0)) && (decide (((comN (pathOf a).1 (pathOf b).1 : Nat) : Int) ≤ 16))) && (((decide (((comN (pathOf a).1 (pathOf b).1 : Nat) : Int) = 16)) == (((pathOf a).1 == (pathOf b).1)))))), (5, Sr ((pathOf a).1)), (6, I ((pathOf a).2)), (7, Sr ((pathOf b).1)), (8, I ((pathOf b).2)), (9, I (((comN (pathOf a).1 (pathOf b).1 : Nat) : Int))), (16, Bo false), (31, Bo (!(!(([(pathOf a).2, (pathOf b).2]).any fun x0 => !decide (x0 = 0))))), (49, I ((i : Int))), (50, Bo (decide ((i : Int) < 16)))] ?_
      refine runL_nil ?_
      refine tq_then ?_
      refine tc_ret ?_
      refine tq_ret [0] [Bo (((decide (((comN (pathOf a).1 (pathOf b).1 : Nat) : Int) ≥ 0)) && (decide (((comN (pathOf a).1 (pathOf b).1 : Nat) : Int) ≤ 16))) && (((decide (((comN (pathOf a).1 (pathOf b).1 : Nat) : Int) = 16)) == (((pathOf a).1 == (pathOf b).1)))))] (bp_ret (Mem.le_trans hl1 hle) ?_)
      have hf_ : (((decide (((comN (pathOf a).1 (pathOf b).1 : Nat) : Int) ≥ 0)) && (decide (((comN (pathOf a).1 (pathOf b).1 : Nat) : Int) ≤ 16))) && (((decide (((comN (pathOf a).1 (pathOf b).1 : Nat) : Int) = 16)) == (((pathOf a).1 == (pathOf b).1))))) = true := by
        first | (have q1_ := pathOf_or a; have q2_ := pathOf_or b; simp_all; done) | (obtain ⟨g1_, g2_⟩ := good2 h1; first | exact bits_end g1_ g2_ | (obtain ⟨q1_, q2_, q3_, q4_⟩ := bits_at g1_ g2_ (k := i) (by omega); first | exact absurd (q3_ h5.1) h5.2 | exact q4_ h6.1 h6.2 | (rw [q1_, q2_] at h4; exact absurd h4 (by decide))))
      exact congrArg Bo hf_
end Go.Proofs.YtjcbbpohbfjkkaaDoor
