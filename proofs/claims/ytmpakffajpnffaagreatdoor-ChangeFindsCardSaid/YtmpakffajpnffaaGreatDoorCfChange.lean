import Derived.Test.YtmpakffajpnffaaGreatDoorCfMake
import Derived.Test.YtmpakffajpnffaaGreatDoorCfPSort
namespace Go.Proofs.YtmpakffajpnffaaGreatDoor
open Go.Tx
set_option linter.unusedVariables false
set_option linter.unusedSimpArgs false
open Go.Tx Go.Proofs Go.Shelf
def nmOf (l : List EntD) : List (List UInt8) := l.map fun x => x.name
theorem nmOf_len (l : List EntD) : (nmOf l).length = l.length := by simp [nmOf]
theorem nmOf_next {l : List EntD} {i : Nat} {x : EntD} (h : l[i]? = some x) : nmOf (l.take (i + 1)) = nmOf (l.take i) ++ [x.name] := by unfold nmOf; rw [List.take_add_one, h]; simp
def unlike (a b : List EntD) (n : List UInt8) : Prop := ¬ (treeGet a n).2.1 = (treeGet b n).2.1 ∨ ¬ (treeGet a n).1 = (treeGet b n).1
instance (a b : List EntD) (n : List UInt8) : Decidable (unlike a b n) := by unfold unlike; infer_instance
def apartB (a b : List EntD) (q n : List UInt8) : Bool := decide (q <+: (pathOf n).1) && decide (unlike a b n)
def allNames (a b : List EntD) : List (List UInt8) := (sortNames (nmOf a ++ nmOf b)).1
def differ (a b : List EntD) (q : List UInt8) : List (List UInt8) := (allNames a b).filter (apartB a b q)
def chCheck (a b : List EntD) : Int := if ¬ treeCheck a = 0 then treeCheck a else treeCheck b
def chDiff (a b : List EntD) : List (List UInt8) × Int := if ¬ chCheck a b = 0 then ([], chCheck a b) else (differ a b [], 0)
theorem allNames_len (a b : List EntD) : (allNames a b).length ≤ a.length + b.length := by
  have h : (sortNames (nmOf a ++ nmOf b)).1.length ≤ (nmOf a ++ nmOf b).length := by
    unfold sortNames; split
    · simp
    · exact sortedP_len _
  unfold allNames
  rw [List.length_append, nmOf_len, nmOf_len] at h; exact h
theorem fil_snoc {l : List (List UInt8)} {p : List UInt8 → Bool} {i : Nat} {x : List UInt8} (hx : l[i]? = some x) (h : p x = true) : (l.take i).filter p ++ [x] = (l.take (i + 1)).filter p := by
  rw [List.take_add_one, hx]; simp [h]
theorem fil_skip {l : List (List UInt8)} {p : List UInt8 → Bool} {i : Nat} {x : List UInt8} (hx : l[i]? = some x) (h : p x = false) : (l.take i).filter p = (l.take (i + 1)).filter p := by
  rw [List.take_add_one, hx]; simp [h]
theorem fil_len {l : List (List UInt8)} {p : List UInt8 → Bool} {i : Nat} : ((l.take i).filter p).length ≤ l.length := Nat.le_trans (List.length_filter_le _ _) (by simp; omega)
theorem differ_len (a b : List EntD) (q : List UInt8) : (differ a b q).length ≤ a.length + b.length := Nat.le_trans (List.length_filter_le _ _) (allNames_len a b)
theorem apart_yes {a b : List EntD} {q n : List UInt8} (h1 : q <+: (pathOf n).1) (h2 : unlike a b n) : apartB a b q n = true := by unfold apartB; simp [h1, h2]
theorem apart_no1 {a b : List EntD} {q n : List UInt8} (h1 : ¬ q <+: (pathOf n).1) : apartB a b q n = false := by unfold apartB; simp [h1]
theorem apart_no2 {a b : List EntD} {q n : List UInt8} (h1 : (treeGet a n).2.1 = (treeGet b n).2.1) (h2 : (treeGet a n).1 = (treeGet b n).1) : apartB a b q n = false := by unfold apartB unlike; simp [h1, h2]
theorem chCheck_ok {a b : List EntD} (h : chCheck a b = 0) : TreeOk a ∧ TreeOk b := by
  unfold chCheck at h
  split at h
  · contradiction
  · rename_i h1; exact ⟨treeCheck_iff.1 (Decidable.not_not.1 h1), treeCheck_iff.1 h⟩
theorem chCheck_no {a b : List EntD} (h : ¬ chCheck a b = 0) : ¬ (TreeOk a ∧ TreeOk b) := by
  rintro ⟨h1, h2⟩
  apply h; unfold chCheck
  rw [treeCheck_iff.2 h1, treeCheck_iff.2 h2]; rfl
theorem chDiff_ok {a b : List EntD} (h : (chDiff a b).2 = 0) : TreeOk a ∧ TreeOk b ∧ chDiff a b = (differ a b [], 0) := by
  unfold chDiff at h ⊢
  split at h
  · contradiction
  · rename_i h1
    obtain ⟨k1, k2⟩ := chCheck_ok (Decidable.not_not.1 h1)
    rw [if_neg h1]; exact ⟨k1, k2, rfl⟩
theorem chDiff_no {a b : List EntD} (h : ¬ (chDiff a b).2 = 0) : (chDiff a b).1 = [] ∧ ¬ (TreeOk a ∧ TreeOk b) := by
  unfold chDiff at h ⊢
  split at h
  · rename_i h1; rw [if_pos h1]; exact ⟨rfl, chCheck_no h1⟩
  · exact absurd rfl h
theorem right_name {n v : List UInt8} (h : treeRight n v = 0) : pathName n = true := by
  unfold treeRight at h
  split at h
  · cases h
  · rename_i h1; simpa using h1
theorem names_sort {a b : List EntD} (ha : TreeOk a) (hb : TreeOk b) : (sortNames (nmOf a ++ nmOf b)).2 = 0 ∧ allNames a b = sortedP (nmOf a ++ nmOf b) := by
  unfold allNames sortNames
  rw [if_neg]
  · exact ⟨rfl, rfl⟩
  rw [List.any_eq_true]
  rintro ⟨s, hs, e⟩
  have : pathName s = true := by
    rcases List.mem_append.1 hs with h | h
    · obtain ⟨x, hx, rfl⟩ := List.mem_map.1 h; exact right_name (ha.ok x hx)
    · obtain ⟨x, hx, rfl⟩ := List.mem_map.1 h; exact right_name (hb.ok x hx)
  rw [this] at e; cases e
theorem mem_all {a b : List EntD} (ha : TreeOk a) (hb : TreeOk b) {n : List UInt8} : n ∈ allNames a b ↔ n ∈ nmOf a ∨ n ∈ nmOf b := by
  rw [(names_sort ha hb).2, mem_sortedP, List.mem_append]
theorem mem_differ {a b : List EntD} (ha : TreeOk a) (hb : TreeOk b) {q n : List UInt8} : n ∈ differ a b q ↔ (n ∈ nmOf a ∨ n ∈ nmOf b) ∧ q <+: (pathOf n).1 ∧ unlike a b n := by
  unfold differ
  rw [List.mem_filter, mem_all ha hb]
  unfold apartB
  simp
theorem nmOf_con (G : Mem) (a_l : Option Addr) (c_l : Nat) (l : List EntD) (h_l : RS EEnt G a_l c_l l)  : Con Tryz.prog 107 #[Sl a_l l.length c_l] G [] (fun u G' L' => ∃ (a1 : Option Addr) (c2 : Nat) (r3 : List Seg), u = Sl a1 ((nmOf l).length) c2 ∧ (TRow ES G' a1 c2 (nmOf l) r3) ∧ L' = [r3]) := by
 refine con_of Tryz.func107 19 [(0, Sl a_l l.length c_l)] rfl (fun w0 G0 => ?_)
 refine tc_rb [0] [(0, Sl a_l l.length c_l)] ?_
 refine tc_rb [0] [(0, Sl a_l l.length c_l), (3, Sl none 0 0)] (tc_seq ?_)
 refine tc_rb [0,0,0] [(3, Sl none 0 0), (6, Sl a_l l.length c_l), (7, I (l.length : Int)), (8, I 0)] (tc_block ?_)
 refine tc_empty ?_
 have hlm_h_l : l.length ≤ 9223372036854775807 := Nat.le_trans (h_l).le (h_l).max
 refine tc_loop (σ := Nat × Option Addr × Nat × List Seg × List (List UInt8)) (fun q_ => (q_.1 ≤ l.length) ∧ (TRow ES G q_.2.1 q_.2.2.1 q_.2.2.2.2 q_.2.2.2.1) ∧ (q_.2.2.2.2 = nmOf (l.take q_.1))) (fun q_ => [(3, Sl q_.2.1 q_.2.2.2.2.length q_.2.2.1), (6, Sl a_l l.length c_l), (7, I (l.length : Int)), (8, I (q_.1 : Int))]) (fun q_ => G) (fun q_ => [q_.2.2.2.1]) (fun q_ => l.length - q_.1) (0, none, 0, [], []) ⟨(by (try dsimp only); first | exact Nat.zero_le _ | omega | simp), (TRow.none ES _), (by (try dsimp only); simp [nmOf])⟩ (fun q_ hs => ?_)
 obtain ⟨i, ao, co, ro, xo⟩ := q_
 obtain ⟨hi, hro, hxo⟩ := hs
 dsimp only at hi hro hxo
 refine tc_eq (fr' := [(3, Sl ao xo.length co), (6, Sl a_l l.length c_l), (7, I (l.length : Int)), (8, I (i : Int))]) (L' := [ro]) rfl rfl ?_
 refine tc_rb [0] [(3, Sl ao xo.length co), (6, Sl a_l l.length c_l), (7, I (l.length : Int)), (8, I (i : Int)), (9, Bo (decide ((i : Int) < (l.length : Int))))] (tc_seq ?_)
 refine tc_cond (decide ((i : Int) < (l.length : Int))) (fun h1 => ?_) (fun h1 => ?_)
 ·
  try simp only [BB] at h1
  refine tc_skip (tq_then (tc_seq (tc_block (tc_seq (tc_region ?_)))))
  obtain ⟨b1, o1, rfl⟩ := RS.addr h_l (k := i) (by omega)
  obtain ⟨x1, hx1⟩ := getX (l := l) (k := i) (by omega)
  obtain ⟨_, ⟨rfl, w1, w2⟩, hc1⟩ := RS.get h_l hx1
  refine runL_idx (b := b1) (off := o1) (len := l.length) (cap := c_l) (ik := .i64) 10 68 2 i (by omega) ?_
  refine runL_ldG 11 68 (cs := [Sr x1.name, Sr x1.value]) 0 (.agg #[Sr x1.name, Sr x1.value]) hc1 ?_
  refine runL_box 5 #[Sr ([]), Sr ([])] 68 (fun b2 => ?_)
  refine runL_bs [3] [(3, Sl ao xo.length co), (5, Pt b2 0), (6, Sl (At b1 o1) l.length c_l), (7, I (l.length : Int)), (8, I (i : Int))] [[Sg b2 0 [Sr x1.name, Sr x1.value]], ro] (runL_nil (tq_then (tc_region ?_)))
  refine runL_b [0,0,2] [(3, Sl ao xo.length co), (6, Sl (At b1 o1) l.length c_l), (7, I (l.length : Int)), (8, I (i : Int)), (12, Sl ao xo.length co), (14, Sr x1.name)] ?_
  refine runL_bsl 15 1 #[Sr x1.name] 9 (fun b3 => ?_)
  refine runL_app1' (b := b3) (cs := [Sr x1.name]) 16 9 2 0 (E := ES) x1.name hro ⟨rfl, w1⟩ (by (have q_ := h_l.fit; simp only [EEnt] at q_; (try simp only [hxo]); simp only [List.length_append, List.length_cons, List.length_nil, nmOf_len, List.length_take, ES]; omega)) (by (have q_ := h_l.fit; simp only [EEnt] at q_; (try simp only [hxo]); simp only [List.length_append, List.length_cons, List.length_nil, nmOf_len, List.length_take, ES]; omega)) (fun a1 c1 r1 hr1 => ?_)
  refine runL_b [0] [(3, Sl a1 ((xo ++ [x1.name]).length) c1), (6, Sl (At b1 o1) l.length c_l), (7, I (l.length : Int)), (8, I (i : Int))] (runL_nil (tq_block (tq_then (tc_region ?_))))
  refine runL_b [0,0] [(3, Sl a1 ((xo ++ [x1.name]).length) c1), (6, Sl (At b1 o1) l.length c_l), (7, I (l.length : Int)), (8, I (IntKind.i64.wrap ((i : Int) + 1)))] ?_
  have e1 : IntKind.i64.wrap ((i : Int) + 1) = (i : Int) + 1 := IntWalk.i64_in _ (by omega)
  refine runL_eq (fr' := [(3, Sl a1 ((xo ++ [x1.name]).length) c1), (6, Sl (At b1 o1) l.length c_l), (7, I (l.length : Int)), (8, I ((i : Int) + 1))]) (L' := [[Sg b3 0 [Sr x1.name]], [Sg b2 0 [Sr x1.name, Sr x1.value]], r1]) (by simp only [e1]) (by rfl) ?_
  clear e1
  refine runL_nil ?_
  refine tq_owns [r1] (.cons _ (.cons _ (.cons_cons _ .slnil))) ?_
  exact tq_rnd (i + 1, a1, c1, r1, xo ++ [x1.name]) ⟨(by omega), hr1, (by (try dsimp only); rw [hxo, nmOf_next hx1])⟩ (by (try dsimp only); omega)
 ·
  try simp only [BB] at h1
  refine tc_exit (tq_then_exit (tq_rnd_exit (tq_block_here (tq_then ?_))))
  refine tc_rb [0,0] [(2, Sl ao xo.length co)] (tc_ret ?_)
  refine tq_front 0 ?_
  have hf1 : nmOf l = xo := by
   rw [hxo, List.take_of_length_le (by omega)]
  refine tq_ret [0] [Sl ao xo.length co] (bp_rows [ro] (.cons_cons _ .slnil) (Mem.le_refl _) ?_)
  rw [hf1]
  try dsimp only
  exact ⟨ao, co, ro, rfl, hro, rfl⟩
theorem differ_con (G : Mem) (a_a : Option Addr) (c_a : Nat) (a : List EntD) (h_a : RS EEnt G a_a c_a a) (a_b : Option Addr) (c_b : Nat) (b : List EntD) (h_b : RS EEnt G a_b c_b b) (q : List UInt8) (hw_q : (q).length ≤ 140737488351232) (hab : (a.length + b.length) * 16 ≤ 140737488351232) : Con Tryz.prog 71 #[Sl a_a a.length c_a, Sl a_b b.length c_b, Sr q] G [] (fun u G' L' => ∃ (a1 : Option Addr) (c2 : Nat) (r3 : List Seg), u = Sl a1 ((differ a b q).length) c2 ∧ (TRow ES G' a1 c2 (differ a b q) r3) ∧ L' = [r3]) := by
 refine con_of Tryz.func71 73 [(0, Sl a_a a.length c_a), (1, Sl a_b b.length c_b), (2, Sr q)] rfl (fun w0 G0 => ?_)
 refine tc_rb [0] [(0, Sl a_a a.length c_a), (1, Sl a_b b.length c_b), (2, Sr q)] (tc_seq (tc_region ?_))
 refine runL_b [0] [(0, Sl a_a a.length c_a), (1, Sl a_b b.length c_b), (2, Sr q), (21, Sl a_a a.length c_a)] ?_
 refine runL_callR 22 (nmOf_con G a_a c_a a h_a) (fun v G1 L1 hl1 hp => ?_)
 obtain ⟨a1, c1, r1, rfl, hr1, rfl⟩ := hp
 refine runL_b [0] [(0, Sl a_a a.length c_a), (1, Sl a_b b.length c_b), (2, Sr q), (22, Sl a1 ((nmOf a).length) c1), (23, Sl a_b b.length c_b)] ?_
 refine runL_callR 24 (nmOf_con G1 a_b c_b b (h_b.mono hl1)) (fun v G2 L1 hl2 hp => ?_)
 obtain ⟨a2, c2, r2, rfl, hr2, rfl⟩ := hp
 refine runL_frzR (E := ES) 0 hr2 (by rw [nmOf_len]; simp only [ES]; omega) (fun G3 hl3 hs1 => ?_)
 refine runL_app' 25 9 1 (E := ES) (hr1.mono (Mem.le_trans hl2 hl3)) hs1 (by first | (have q1_ := fil_len (l := allNames a b) (p := apartB a b q) (i := i); have q2_ := allNames_len a b; (try rw [← hxo] at q1_); (try simp only [List.length_append, List.length_cons, List.length_nil, ES]); omega) | (have q1_ := nmOf_len a; have q2_ := nmOf_len b; (try simp only [List.length_append, ES]); omega)) (by first | (have q1_ := fil_len (l := allNames a b) (p := apartB a b q) (i := i); have q2_ := allNames_len a b; (try rw [← hxo] at q1_); (try simp only [List.length_append, List.length_cons, List.length_nil, ES]); omega) | (have q1_ := nmOf_len a; have q2_ := nmOf_len b; (try simp only [List.length_append, ES]); omega)) (fun a3 c3 r3 hr3 => ?_)
 refine runL_frzR (E := ES) 1 hr3 (by (have q1_ := nmOf_len a; have q2_ := nmOf_len b; (try simp only [List.length_append, ES]); omega)) (fun G4 hl4 hs2 => ?_)
 refine runL_callR 26 (sortNames_con G4 a3 c3 ((nmOf a) ++ (nmOf b)) hs2) (fun v G5 L1 hl5 hp => ?_)
 obtain ⟨a4, c4, rfl, hs3, rfl⟩ := hp
 refine runL_b [0,0,0,0,0] [(0, Sl a_a a.length c_a), (1, Sl a_b b.length c_b), (2, Sr q), (7, Sl a4 (((sortNames ((nmOf a) ++ (nmOf b))).1).length) c4)] (runL_nil (tq_then ?_))
 refine tc_rb [0] [(0, Sl a_a a.length c_a), (1, Sl a_b b.length c_b), (2, Sr q), (7, Sl a4 (((sortNames ((nmOf a) ++ (nmOf b))).1).length) c4), (9, Sl none 0 0)] (tc_seq ?_)
 refine tc_rb [0,0,0] [(0, Sl a_a a.length c_a), (1, Sl a_b b.length c_b), (2, Sr q), (9, Sl none 0 0), (29, Sl a4 (((sortNames ((nmOf a) ++ (nmOf b))).1).length) c4), (30, I ((((sortNames ((nmOf a) ++ (nmOf b))).1).length : Nat) : Int)), (31, I 0)] (tc_block ?_)
 refine tc_empty ?_
 have hlm_h_a : a.length ≤ 9223372036854775807 := Nat.le_trans (h_a).le (h_a).max
 have hlm_h_b : b.length ≤ 9223372036854775807 := Nat.le_trans (h_b).le (h_b).max
 have hlm_hs3 : ((sortNames ((nmOf a) ++ (nmOf b))).1).length ≤ 9223372036854775807 := Nat.le_trans (hs3).le (hs3).max
 refine tc_loop (σ := Nat × Option Addr × Nat × List Seg × List (List UInt8) × Mem) (fun q_ => (Mem.le G5 q_.2.2.2.2.2) ∧ (q_.1 ≤ ((sortNames ((nmOf a) ++ (nmOf b))).1).length) ∧ (TRow ES q_.2.2.2.2.2 q_.2.1 q_.2.2.1 q_.2.2.2.2.1 q_.2.2.2.1) ∧ (q_.2.2.2.2.1 = ((allNames a b).take q_.1).filter (apartB a b q))) (fun q_ => [(0, Sl a_a a.length c_a), (1, Sl a_b b.length c_b), (2, Sr q), (9, Sl q_.2.1 q_.2.2.2.2.1.length q_.2.2.1), (29, Sl a4 (((sortNames ((nmOf a) ++ (nmOf b))).1).length) c4), (30, I ((((sortNames ((nmOf a) ++ (nmOf b))).1).length : Nat) : Int)), (31, I (q_.1 : Int))]) (fun q_ => q_.2.2.2.2.2) (fun q_ => [q_.2.2.2.1, [], []]) (fun q_ => ((sortNames ((nmOf a) ++ (nmOf b))).1).length - q_.1) (0, none, 0, [], [], G5) ⟨(Mem.le_refl _), (by (try dsimp only); first | exact Nat.zero_le _ | omega | simp), (TRow.none ES _), (by (try dsimp only); simp)⟩ (fun q_ hs => ?_)
 obtain ⟨i, ao, co, ro, xo, g⟩ := q_
 obtain ⟨hle, hi, hro, hxo⟩ := hs
 dsimp only at hle hi hro hxo
 refine tc_eq (fr' := [(0, Sl a_a a.length c_a), (1, Sl a_b b.length c_b), (2, Sr q), (9, Sl ao xo.length co), (29, Sl a4 (((sortNames ((nmOf a) ++ (nmOf b))).1).length) c4), (30, I ((((sortNames ((nmOf a) ++ (nmOf b))).1).length : Nat) : Int)), (31, I (i : Int))]) (L' := [ro, [], []]) rfl rfl ?_
 refine tc_rb [0] [(0, Sl a_a a.length c_a), (1, Sl a_b b.length c_b), (2, Sr q), (9, Sl ao xo.length co), (29, Sl a4 (((sortNames ((nmOf a) ++ (nmOf b))).1).length) c4), (30, I ((((sortNames ((nmOf a) ++ (nmOf b))).1).length : Nat) : Int)), (31, I (i : Int)), (32, Bo (decide ((i : Int) < ((((sortNames ((nmOf a) ++ (nmOf b))).1).length : Nat) : Int))))] (tc_seq ?_)
 refine tc_cond (decide ((i : Int) < ((((sortNames ((nmOf a) ++ (nmOf b))).1).length : Nat) : Int))) (fun h1 => ?_) (fun h1 => ?_)
 ·
  try simp only [BB] at h1
  refine tc_skip (tq_then (tc_seq (tc_block (tc_seq (tc_region ?_)))))
  obtain ⟨b1, o1, rfl⟩ := RS.addr (hs3.mono hle) (k := i) (by omega)
  obtain ⟨x1, hx1⟩ := getX (l := (sortNames ((nmOf a) ++ (nmOf b))).1) (k := i) (by omega)
  obtain ⟨_, ⟨rfl, w1⟩, hc1⟩ := RS.get (hs3.mono hle) hx1
  refine runL_idx (b := b1) (off := o1) (len := ((sortNames ((nmOf a) ++ (nmOf b))).1).length) (cap := c4) (ik := .i64) 33 9 1 i (by omega) ?_
  refine runL_ldG 34 9 (cs := [Sr x1]) 0 (Sr x1) hc1 ?_
  refine runL_b [0] [(0, Sl a_a a.length c_a), (1, Sl a_b b.length c_b), (2, Sr q), (9, Sl ao xo.length co), (11, Sr x1), (29, Sl (At b1 o1) (((sortNames ((nmOf a) ++ (nmOf b))).1).length) c4), (30, I ((((sortNames ((nmOf a) ++ (nmOf b))).1).length : Nat) : Int)), (31, I (i : Int))] (runL_nil (tq_then (tc_seq (tc_region ?_))))
  refine runL_b [0] [(0, Sl a_a a.length c_a), (1, Sl a_b b.length c_b), (2, Sr q), (9, Sl ao xo.length co), (11, Sr x1), (29, Sl (At b1 o1) (((sortNames ((nmOf a) ++ (nmOf b))).1).length) c4), (30, I ((((sortNames ((nmOf a) ++ (nmOf b))).1).length : Nat) : Int)), (31, I (i : Int)), (36, Sr x1)] ?_
  refine runL_callV 37 (.tuple #[Sr ((pathOf x1).1), I ((pathOf x1).2)]) (pathOf_con g x1 w1) ?_
  refine runL_b [0,0,0,0,0] [(0, Sl a_a a.length c_a), (1, Sl a_b b.length c_b), (2, Sr q), (9, Sl ao xo.length co), (11, Sr x1), (12, Sr ((pathOf x1).1)), (29, Sl (At b1 o1) (((sortNames ((nmOf a) ++ (nmOf b))).1).length) c4), (30, I ((((sortNames ((nmOf a) ++ (nmOf b))).1).length : Nat) : Int)), (31, I (i : Int))] (runL_nil (tq_then (tc_seq (tc_region ?_))))
  refine runL_b [0,0] [(0, Sl a_a a.length c_a), (1, Sl a_b b.length c_b), (2, Sr q), (9, Sl ao xo.length co), (11, Sr x1), (12, Sr ((pathOf x1).1)), (29, Sl (At b1 o1) (((sortNames ((nmOf a) ++ (nmOf b))).1).length) c4), (30, I ((((sortNames ((nmOf a) ++ (nmOf b))).1).length : Nat) : Int)), (31, I (i : Int)), (41, Sl a_a a.length c_a), (42, Sr x1)] ?_
  refine runL_callR 43 (treeGet_con g a_a c_a a (h_a.mono (Mem.le_trans (Mem.le_trans (Mem.le_trans (Mem.le_trans (Mem.le_trans hl1 hl2) hl3) hl4) hl5) hle)) x1 w1) (fun v G6 L1 hl6 hp => ?_)
  obtain ⟨rfl, w2, rfl⟩ := hp
  refine runL_b [0,0,0,0,0,0,0] [(0, Sl a_a a.length c_a), (1, Sl a_b b.length c_b), (2, Sr q), (9, Sl ao xo.length co), (11, Sr x1), (12, Sr ((pathOf x1).1)), (14, Sr ((treeGet a x1).1)), (15, Bo ((treeGet a x1).2.1)), (29, Sl (At b1 o1) (((sortNames ((nmOf a) ++ (nmOf b))).1).length) c4), (30, I ((((sortNames ((nmOf a) ++ (nmOf b))).1).length : Nat) : Int)), (31, I (i : Int))] (runL_nil (tq_then (tc_seq (tc_region ?_))))
  refine runL_b [0,0] [(0, Sl a_a a.length c_a), (1, Sl a_b b.length c_b), (2, Sr q), (9, Sl ao xo.length co), (11, Sr x1), (12, Sr ((pathOf x1).1)), (14, Sr ((treeGet a x1).1)), (15, Bo ((treeGet a x1).2.1)), (29, Sl (At b1 o1) (((sortNames ((nmOf a) ++ (nmOf b))).1).length) c4), (30, I ((((sortNames ((nmOf a) ++ (nmOf b))).1).length : Nat) : Int)), (31, I (i : Int)), (48, Sl a_b b.length c_b), (49, Sr x1)] ?_
  refine runL_callR 50 (treeGet_con G6 a_b c_b b (h_b.mono (Mem.le_trans (Mem.le_trans (Mem.le_trans (Mem.le_trans (Mem.le_trans (Mem.le_trans hl1 hl2) hl3) hl4) hl5) hle) hl6)) x1 w1) (fun v G7 L1 hl7 hp => ?_)
  obtain ⟨rfl, w3, rfl⟩ := hp
  refine runL_b [0,0,0,0,0,0,0] [(0, Sl a_a a.length c_a), (1, Sl a_b b.length c_b), (2, Sr q), (9, Sl ao xo.length co), (11, Sr x1), (12, Sr ((pathOf x1).1)), (14, Sr ((treeGet a x1).1)), (15, Bo ((treeGet a x1).2.1)), (17, Sr ((treeGet b x1).1)), (18, Bo ((treeGet b x1).2.1)), (29, Sl (At b1 o1) (((sortNames ((nmOf a) ++ (nmOf b))).1).length) c4), (30, I ((((sortNames ((nmOf a) ++ (nmOf b))).1).length : Nat) : Int)), (31, I (i : Int))] (runL_nil (tq_then (tc_seq (tc_region ?_))))
  refine runL_b [0,0] [(0, Sl a_a a.length c_a), (1, Sl a_b b.length c_b), (2, Sr q), (9, Sl ao xo.length co), (11, Sr x1), (14, Sr ((treeGet a x1).1)), (15, Bo ((treeGet a x1).2.1)), (17, Sr ((treeGet b x1).1)), (18, Bo ((treeGet b x1).2.1)), (29, Sl (At b1 o1) (((sortNames ((nmOf a) ++ (nmOf b))).1).length) c4), (30, I ((((sortNames ((nmOf a) ++ (nmOf b))).1).length : Nat) : Int)), (31, I (i : Int)), (54, Sr ((pathOf x1).1)), (55, Sr q)] ?_
  refine runL_callV 56 (Bo (decide (q <+: (pathOf x1).1))) (hasPrefix_con G7 ((pathOf x1).1) q) ?_
  refine runL_b [0] [(0, Sl a_a a.length c_a), (1, Sl a_b b.length c_b), (2, Sr q), (9, Sl ao xo.length co), (11, Sr x1), (14, Sr ((treeGet a x1).1)), (15, Bo ((treeGet a x1).2.1)), (17, Sr ((treeGet b x1).1)), (18, Bo ((treeGet b x1).2.1)), (29, Sl (At b1 o1) (((sortNames ((nmOf a) ++ (nmOf b))).1).length) c4), (30, I ((((sortNames ((nmOf a) ++ (nmOf b))).1).length : Nat) : Int)), (31, I (i : Int)), (57, Bo (decide (q <+: (pathOf x1).1)))] ?_
  refine runL_cases (fun bb => [(0, Sl a_a a.length c_a), (1, Sl a_b b.length c_b), (2, Sr q), (9, Sl ao xo.length co), (11, Sr x1), (14, Sr ((treeGet a x1).1)), (15, Bo ((treeGet a x1).2.1)), (17, Sr ((treeGet b x1).1)), (18, Bo ((treeGet b x1).2.1)), (29, Sl (At b1 o1) (((sortNames ((nmOf a) ++ (nmOf b))).1).length) c4), (30, I ((((sortNames ((nmOf a) ++ (nmOf b))).1).length : Nat) : Int)), (31, I (i : Int)), (57, Bo bb)]) (decide (q <+: (pathOf x1).1)) (fun h2 => ?_) (fun h2 => ?_)
  ·
   try simp only [BB] at h2
   refine runL_b [0,0,0,0] [(0, Sl a_a a.length c_a), (1, Sl a_b b.length c_b), (2, Sr q), (9, Sl ao xo.length co), (11, Sr x1), (14, Sr ((treeGet a x1).1)), (17, Sr ((treeGet b x1).1)), (29, Sl (At b1 o1) (((sortNames ((nmOf a) ++ (nmOf b))).1).length) c4), (30, I ((((sortNames ((nmOf a) ++ (nmOf b))).1).length : Nat) : Int)), (31, I (i : Int)), (57, Bo true), (61, Bo (!(((treeGet a x1).2.1) == ((treeGet b x1).2.1))))] ?_
   refine runL_b2 (!(((treeGet a x1).2.1) == ((treeGet b x1).2.1))) (fun bb => [(0, Sl a_a a.length c_a), (1, Sl a_b b.length c_b), (2, Sr q), (9, Sl ao xo.length co), (11, Sr x1), (14, Sr ((treeGet a x1).1)), (17, Sr ((treeGet b x1).1)), (29, Sl (At b1 o1) (((sortNames ((nmOf a) ++ (nmOf b))).1).length) c4), (30, I ((((sortNames ((nmOf a) ++ (nmOf b))).1).length : Nat) : Int)), (31, I (i : Int)), (57, Bo true), (61, Bo bb)]) [1,1,1,0] [0,0,0,0] (fun bb => [(0, Sl a_a a.length c_a), (1, Sl a_b b.length c_b), (2, Sr q), (9, Sl ao xo.length co), (11, Sr x1), (29, Sl (At b1 o1) (((sortNames ((nmOf a) ++ (nmOf b))).1).length) c4), (30, I ((((sortNames ((nmOf a) ++ (nmOf b))).1).length : Nat) : Int)), (31, I (i : Int)), (57, Bo true), (65, Bo (bb || (!((B ((treeGet a x1).1)).toList == (B ((treeGet b x1).1)).toList))))]) ?_
   refine runL_eq (fr' := [(0, Sl a_a a.length c_a), (1, Sl a_b b.length c_b), (2, Sr q), (9, Sl ao xo.length co), (11, Sr x1), (29, Sl (At b1 o1) (((sortNames ((nmOf a) ++ (nmOf b))).1).length) c4), (30, I ((((sortNames ((nmOf a) ++ (nmOf b))).1).length : Nat) : Int)), (31, I (i : Int)), (57, Bo true), (65, Bo ((!(((treeGet a x1).2.1) == ((treeGet b x1).2.1))) || (!((treeGet a x1).1 == (treeGet b x1).1))))]) (L' := [ro, [], []]) (by simp only [B_toList]) (by rfl) ?_
   refine runL_b [0] [(0, Sl a_a a.length c_a), (1, Sl a_b b.length c_b), (2, Sr q), (9, Sl ao xo.length co), (11, Sr x1), (29, Sl (At b1 o1) (((sortNames ((nmOf a) ++ (nmOf b))).1).length) c4), (30, I ((((sortNames ((nmOf a) ++ (nmOf b))).1).length : Nat) : Int)), (31, I (i : Int)), (66, Bo ((!(((treeGet a x1).2.1) == ((treeGet b x1).2.1))) || (!((treeGet a x1).1 == (treeGet b x1).1))))] (runL_nil (tq_then ?_))
   refine tc_cond ((!(((treeGet a x1).2.1) == ((treeGet b x1).2.1))) || (!((treeGet a x1).1 == (treeGet b x1).1))) (fun h3 => ?_) (fun h3 => ?_)
   ·
    try simp only [BB] at h3
    refine tc_region ?_
    refine runL_b [0,0] [(0, Sl a_a a.length c_a), (1, Sl a_b b.length c_b), (2, Sr q), (9, Sl ao xo.length co), (29, Sl (At b1 o1) (((sortNames ((nmOf a) ++ (nmOf b))).1).length) c4), (30, I ((((sortNames ((nmOf a) ++ (nmOf b))).1).length : Nat) : Int)), (31, I (i : Int)), (67, Sl ao xo.length co), (68, Sr x1)] ?_
    refine runL_bsl 69 1 #[Sr x1] 9 (fun b2 => ?_)
    refine runL_app1' (b := b2) (cs := [Sr x1]) 70 9 1 0 (E := ES) x1 (hro.mono (Mem.le_trans hl6 hl7)) ⟨rfl, (by first | assumption | omega | (simp; done) | (simp; omega))⟩ (by first | (have q1_ := fil_len (l := allNames a b) (p := apartB a b q) (i := i); have q2_ := allNames_len a b; (try rw [← hxo] at q1_); (try simp only [List.length_append, List.length_cons, List.length_nil, ES]); omega) | (have q1_ := nmOf_len a; have q2_ := nmOf_len b; (try simp only [List.length_append, ES]); omega)) (by first | (have q1_ := fil_len (l := allNames a b) (p := apartB a b q) (i := i); have q2_ := allNames_len a b; (try rw [← hxo] at q1_); (try simp only [List.length_append, List.length_cons, List.length_nil, ES]); omega) | (have q1_ := nmOf_len a; have q2_ := nmOf_len b; (try simp only [List.length_append, ES]); omega)) (fun a5 c5 r4 hr4 => ?_)
    refine runL_b [0] [(0, Sl a_a a.length c_a), (1, Sl a_b b.length c_b), (2, Sr q), (9, Sl a5 ((xo ++ [x1]).length) c5), (29, Sl (At b1 o1) (((sortNames ((nmOf a) ++ (nmOf b))).1).length) c4), (30, I ((((sortNames ((nmOf a) ++ (nmOf b))).1).length : Nat) : Int)), (31, I (i : Int))] (runL_nil (tq_block (tq_then (tc_region ?_))))
    refine runL_b [0,0] [(0, Sl a_a a.length c_a), (1, Sl a_b b.length c_b), (2, Sr q), (9, Sl a5 ((xo ++ [x1]).length) c5), (29, Sl (At b1 o1) (((sortNames ((nmOf a) ++ (nmOf b))).1).length) c4), (30, I ((((sortNames ((nmOf a) ++ (nmOf b))).1).length : Nat) : Int)), (31, I (IntKind.i64.wrap ((i : Int) + 1)))] ?_
    have e1 : IntKind.i64.wrap ((i : Int) + 1) = (i : Int) + 1 := IntWalk.i64_in _ (by omega)
    refine runL_eq (fr' := [(0, Sl a_a a.length c_a), (1, Sl a_b b.length c_b), (2, Sr q), (9, Sl a5 ((xo ++ [x1]).length) c5), (29, Sl (At b1 o1) (((sortNames ((nmOf a) ++ (nmOf b))).1).length) c4), (30, I ((((sortNames ((nmOf a) ++ (nmOf b))).1).length : Nat) : Int)), (31, I ((i : Int) + 1))]) (L' := [[Sg b2 0 [Sr x1]], r4, [], []]) (by simp only [e1]) (by rfl) ?_
    clear e1
    refine runL_nil ?_
    refine tq_owns [r4, [], []] (.cons _ (.cons_cons _ (.cons_cons _ (.cons_cons _ .slnil)))) ?_
    exact tq_rnd (i + 1, a5, c5, r4, xo ++ [x1], G7) ⟨(Mem.le_trans hle (Mem.le_trans hl6 hl7)), (by omega), hr4, (by (try dsimp only); rw [hxo]; first | exact fil_snoc hx1 (apart_yes h2 h3) | exact fil_skip hx1 (apart_no2 h3.1 h3.2) | exact fil_skip hx1 (apart_no1 h2))⟩ (by (try dsimp only); omega)
   ·
    try simp only [BB] at h3
    refine tc_skip (tq_block (tq_then (tc_region ?_)))
    refine runL_b [0,0] [(0, Sl a_a a.length c_a), (1, Sl a_b b.length c_b), (2, Sr q), (9, Sl ao xo.length co), (29, Sl (At b1 o1) (((sortNames ((nmOf a) ++ (nmOf b))).1).length) c4), (30, I ((((sortNames ((nmOf a) ++ (nmOf b))).1).length : Nat) : Int)), (31, I (IntKind.i64.wrap ((i : Int) + 1)))] ?_
    have e2 : IntKind.i64.wrap ((i : Int) + 1) = (i : Int) + 1 := IntWalk.i64_in _ (by omega)
    refine runL_eq (fr' := [(0, Sl a_a a.length c_a), (1, Sl a_b b.length c_b), (2, Sr q), (9, Sl ao xo.length co), (29, Sl (At b1 o1) (((sortNames ((nmOf a) ++ (nmOf b))).1).length) c4), (30, I ((((sortNames ((nmOf a) ++ (nmOf b))).1).length : Nat) : Int)), (31, I ((i : Int) + 1))]) (L' := [ro, [], []]) (by simp only [e2]) (by rfl) ?_
    clear e2
    refine runL_nil ?_
    exact tq_rnd (i + 1, ao, co, ro, xo, G7) ⟨(Mem.le_trans hle (Mem.le_trans hl6 hl7)), (by omega), (hro.mono (Mem.le_trans hl6 hl7)), (by (try dsimp only); rw [hxo]; first | exact fil_snoc hx1 (apart_yes h2 h3) | exact fil_skip hx1 (apart_no2 h3.1 h3.2) | exact fil_skip hx1 (apart_no1 h2))⟩ (by (try dsimp only); omega)
  ·
   try simp only [BB] at h2
   refine runL_b [1,1,1,1,1,1,1,1,0] [(0, Sl a_a a.length c_a), (1, Sl a_b b.length c_b), (2, Sr q), (9, Sl ao xo.length co), (11, Sr x1), (29, Sl (At b1 o1) (((sortNames ((nmOf a) ++ (nmOf b))).1).length) c4), (30, I ((((sortNames ((nmOf a) ++ (nmOf b))).1).length : Nat) : Int)), (31, I (i : Int)), (66, Bo false)] (runL_nil (tq_then ?_))
   refine tc_cond_false ?_
   refine tc_skip (tq_block (tq_then (tc_region ?_)))
   refine runL_b [0,0] [(0, Sl a_a a.length c_a), (1, Sl a_b b.length c_b), (2, Sr q), (9, Sl ao xo.length co), (29, Sl (At b1 o1) (((sortNames ((nmOf a) ++ (nmOf b))).1).length) c4), (30, I ((((sortNames ((nmOf a) ++ (nmOf b))).1).length : Nat) : Int)), (31, I (IntKind.i64.wrap ((i : Int) + 1)))] ?_
   have e3 : IntKind.i64.wrap ((i : Int) + 1) = (i : Int) + 1 := IntWalk.i64_in _ (by omega)
   refine runL_eq (fr' := [(0, Sl a_a a.length c_a), (1, Sl a_b b.length c_b), (2, Sr q), (9, Sl ao xo.length co), (29, Sl (At b1 o1) (((sortNames ((nmOf a) ++ (nmOf b))).1).length) c4), (30, I ((((sortNames ((nmOf a) ++ (nmOf b))).1).length : Nat) : Int)), (31, I ((i : Int) + 1))]) (L' := [ro, [], []]) (by simp only [e3]) (by rfl) ?_
   clear e3
   refine runL_nil ?_
   exact tq_rnd (i + 1, ao, co, ro, xo, G7) ⟨(Mem.le_trans hle (Mem.le_trans hl6 hl7)), (by omega), (hro.mono (Mem.le_trans hl6 hl7)), (by (try dsimp only); rw [hxo]; first | exact fil_snoc hx1 (apart_yes h2 h3) | exact fil_skip hx1 (apart_no2 h3.1 h3.2) | exact fil_skip hx1 (apart_no1 h2))⟩ (by (try dsimp only); omega)
 ·
  try simp only [BB] at h1
  refine tc_exit (tq_then_exit (tq_rnd_exit (tq_block_here (tq_then ?_))))
  refine tc_rb [0,0] [(6, Sl ao xo.length co)] (tc_ret ?_)
  refine tq_front 0 ?_
  have hf1 : differ a b q = xo := by
   rw [hxo, List.take_of_length_le (show (allNames a b).length ≤ i by unfold allNames; omega)]; rfl
  refine tq_ret [0] [Sl ao xo.length co] (bp_rows [ro] (.cons_cons _ (.cons _ (.cons _ .slnil))) (Mem.le_trans (Mem.le_trans (Mem.le_trans (Mem.le_trans (Mem.le_trans hl1 hl2) hl3) hl4) hl5) hle) ?_)
  rw [hf1]
  try dsimp only
  exact ⟨ao, co, ro, rfl, hro, rfl⟩
theorem chCheck_con (G : Mem) (a_a : Option Addr) (c_a : Nat) (a : List EntD) (h_a : RS EEnt G a_a c_a a) (a_b : Option Addr) (c_b : Nat) (b : List EntD) (h_b : RS EEnt G a_b c_b b)  : Con Tryz.prog 70 #[Sl a_a a.length c_a, Sl a_b b.length c_b] G [] (fun u G' L' => u = I (chCheck a b)) := by
 refine con_of Tryz.func70 13 [(0, Sl a_a a.length c_a), (1, Sl a_b b.length c_b)] rfl (fun w0 G0 => ?_)
 refine tc_rb [0] [(0, Sl a_a a.length c_a), (1, Sl a_b b.length c_b)] (tc_seq (tc_seq (tc_region ?_)))
 refine runL_b [0] [(1, Sl a_b b.length c_b), (6, Sl a_a a.length c_a)] ?_
 refine runL_callV 7 (I (treeCheck a)) (treeCheck_con G a_a c_a a h_a) ?_
 refine runL_b [0] [(1, Sl a_b b.length c_b), (5, I (treeCheck a))] (runL_nil (tq_then ?_))
 refine tc_rb [0,0] [(1, Sl a_b b.length c_b), (5, I (treeCheck a)), (9, Bo (!decide (treeCheck a = 0)))] ?_
 refine tc_cond (!decide (treeCheck a = 0)) (fun h1 => ?_) (fun h1 => ?_)
 ·
  try simp only [BB] at h1
  refine tc_rb [0,0] [(4, I (treeCheck a))] (tc_ret (tq_then_ret ?_))
  refine tq_ret [0] [I (treeCheck a)] (bp_ret (Mem.le_refl _) ?_)
  have hf_ : (chCheck a b) = (treeCheck a) := by
   unfold chCheck; first | (rw [if_pos (by assumption)]; done) | (rw [if_neg (by simp_all)]; done)
  (try rw [hf_]); first | with_reducible rfl | (simp only [packR]; done) | rfl
 ·
  try simp only [BB] at h1
  refine tc_skip (tq_then (tc_seq (tc_region ?_)))
  refine runL_b [0] [(11, Sl a_b b.length c_b)] ?_
  refine runL_callV 12 (I (treeCheck b)) (treeCheck_con G a_b c_b b h_b) ?_
  refine runL_b [0] [(4, I (treeCheck b))] (runL_nil (tq_then (tc_ret ?_)))
  refine tq_ret [0] [I (treeCheck b)] (bp_ret (Mem.le_refl _) ?_)
  have hf_ : (chCheck a b) = (treeCheck b) := by
   unfold chCheck; first | (rw [if_pos (by assumption)]; done) | (rw [if_neg (by simp_all)]; done)
  (try rw [hf_]); first | with_reducible rfl | (simp only [packR]; done) | rfl
theorem chDiff_con (G : Mem) (a_a : Option Addr) (c_a : Nat) (a : List EntD) (h_a : RS EEnt G a_a c_a a) (a_b : Option Addr) (c_b : Nat) (b : List EntD) (h_b : RS EEnt G a_b c_b b)  : Con Tryz.prog 30 #[Sl a_a a.length c_a, Sl a_b b.length c_b] G [] (fun u G' L' => ∃ (a1 : Option Addr) (c2 : Nat), u = .tuple #[Sl a1 (((chDiff a b).1).length) c2, I ((chDiff a b).2)] ∧ (RS ES G' a1 c2 ((chDiff a b).1)) ∧ L' = []) := by
 refine con_of Tryz.func30 16 [(0, Sl a_a a.length c_a), (1, Sl a_b b.length c_b)] rfl (fun w0 G0 => ?_)
 refine tc_rb [0,0] [(0, Sl a_a a.length c_a), (1, Sl a_b b.length c_b)] (tc_seq (tc_seq (tc_region ?_)))
 refine runL_b [0,0] [(0, Sl a_a a.length c_a), (1, Sl a_b b.length c_b), (7, Sl a_a a.length c_a), (8, Sl a_b b.length c_b)] ?_
 refine runL_callV 9 (I (chCheck a b)) (chCheck_con G a_a c_a a h_a a_b c_b b h_b) ?_
 refine runL_b [0] [(0, Sl a_a a.length c_a), (1, Sl a_b b.length c_b), (6, I (chCheck a b))] (runL_nil (tq_then ?_))
 refine tc_rb [0,0] [(0, Sl a_a a.length c_a), (1, Sl a_b b.length c_b), (6, I (chCheck a b)), (11, Bo (!decide (chCheck a b = 0)))] ?_
 refine tc_cond (!decide (chCheck a b = 0)) (fun h1 => ?_) (fun h1 => ?_)
 ·
  try simp only [BB] at h1
  refine tc_rb [0,0,0] [(4, Sl none 0 0), (5, I (chCheck a b))] (tc_ret (tq_then_ret ?_))
  have hf1 : chDiff a b = ([], chCheck a b) := by
   unfold chDiff; first | (rw [if_pos (by assumption)]; done) | (rw [if_neg (by simp_all)]; done)
  refine tq_ret [0, 0] [Sl none 0 0, I (chCheck a b)] (bp_rows [] .slnil (Mem.le_refl _) ?_)
  rw [hf1]
  try dsimp only
  exact ⟨none, 0, rfl, (RS.nil' ES G), rfl⟩
 ·
  try simp only [BB] at h1
  refine tc_skip (tq_then (tc_seq (tc_region ?_)))
  refine runL_b [0,0] [(13, Sl a_a a.length c_a), (14, Sl a_b b.length c_b)] ?_
  refine runL_callR 15 (differ_con G a_a c_a a h_a a_b c_b b h_b ([]) (Nat.le_of_ble_eq_true rfl) (by have q_ := chCheck_ok (a := a) (b := b) (by assumption); have q1_ := q_.1.len; have q2_ := q_.2.len; omega)) (fun v G1 L1 hl1 hp => ?_)
  obtain ⟨a1, c1, r1, rfl, hr1, rfl⟩ := hp
  refine runL_b [0,0] [(4, Sl a1 ((differ a b ([])).length) c1), (5, I 0)] (runL_nil (tq_then (tc_ret ?_)))
  refine tq_frzR (E := ES) 0 hr1 (by have q0_ := chCheck_ok (a := a) (b := b) (by assumption); have q1_ := q0_.1.len; have q2_ := q0_.2.len; have q_ := differ_len a b ([]); simp only [ES]; omega) (fun G2 hl2 hs1 => ?_)
  have hf2 : chDiff a b = (differ a b ([]), 0) := by
   unfold chDiff; first | (rw [if_pos (by assumption)]; done) | (rw [if_neg (by simp_all)]; done)
  refine tq_ret [0, 0] [Sl a1 ((differ a b ([])).length) c1, I 0] (bp_rows [] (.cons _ .slnil) (Mem.le_trans hl1 hl2) ?_)
  rw [hf2]
  try dsimp only
  exact ⟨a1, c1, rfl, hs1, rfl⟩
end Go.Proofs.YtmpakffajpnffaaGreatDoor
