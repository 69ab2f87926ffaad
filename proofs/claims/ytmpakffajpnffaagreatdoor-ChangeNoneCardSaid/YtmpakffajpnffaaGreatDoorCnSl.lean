import Derived.Test.YtmpakffajpnffaaGreatDoorCnTy
namespace Go.Proofs.YtmpakffajpnffaaGreatDoor
open Go.Tx
set_option linter.unusedVariables false
set_option linter.unusedSimpArgs false
theorem takeEq_step {α : Type} {a b : List α} {i : Nat} {x y : α} (h : a.take i = b.take i) (hx : a[i]? = some x) (hy : b[i]? = some y) (e : x = y) : a.take (i + 1) = b.take (i + 1) := by
  rw [List.take_add_one, List.take_add_one, h, hx, hy, e]
theorem ne_at {α : Type} {a b : List α} {i : Nat} {x y : α} (hx : a[i]? = some x) (hy : b[i]? = some y) (e : ¬ x = y) : ¬ a = b := by
  intro h; rw [h, hy] at hx; exact e (Option.some.inj hx).symm
theorem takeEq_all {α : Type} {a b : List α} {i : Nat} (hl : a.length = b.length) (hi : a.length ≤ i) (h : a.take i = b.take i) : a = b := by
  rwa [List.take_of_length_le hi, List.take_of_length_le (by omega)] at h
theorem EntD_ne {x y : EntD} : x = y ↔ x.name = y.name ∧ x.value = y.value := by cases x; cases y; simp
theorem idxF_ge {α : Type} {p : α → Bool} {l : List α} {i : Nat} (h : idxF p l = (i : Int)) : ∃ x, l[i]? = some x ∧ p x = true := by
  unfold idxF at h
  cases hh : l.findIdx? p with
  | none => rw [hh] at h; simp at h
  | some k =>
    rw [hh] at h
    have : k = i := by simp at h; omega
    subst this
    rw [List.findIdx?_eq_some_iff_getElem] at hh
    obtain ⟨h1, h2, _⟩ := hh
    exact ⟨l[k], List.getElem?_eq_getElem h1, h2⟩
theorem sclone_EEnt (G : Mem) (a_l : Option Addr) (c_l : Nat) (l : List EntD) (h_l : RS EEnt G a_l c_l l)  : Con Tryz.prog 50 #[Sl a_l l.length c_l] G [] (fun u G' L' => ∃ (a1 : Option Addr) (c2 : Nat) (r3 : List Seg), u = Sl a1 l.length c2 ∧ (TRow EEnt G' a1 c2 l r3) ∧ L' = [r3]) := by
 refine con_of Tryz.func50 8 [(0, Sl a_l l.length c_l)] rfl (fun w0 G0 => ?_)
 refine tc_rb [0] [(0, Sl a_l l.length c_l)] (tc_seq (tc_seq (tc_region ?_)))
 refine runL_b [0] [(0, Sl a_l l.length c_l), (3, Sl a_l l.length c_l)] ?_
 refine runL_one 4 (Bo ((a_l).isNone)) (by intro w; cases a_l <;> kernel_rfl) ?_
 refine runL_nil (tq_then ?_)
 refine tc_cond ((a_l).isNone) (fun h1 => ?_) (fun h1 => ?_)
 ·
  try simp only [BB] at h1
  refine tc_rb [0] [(2, Sl none 0 0)] (tc_ret (tq_then_ret ?_))
  refine tq_empty ?_
  refine tq_front 0 ?_
  have hf1 : l = [] := by
   first | rfl | exact RS.isNil h_l h1
  refine tq_ret [0] [Sl none 0 0] (bp_rows [[]] (.cons_cons _ .slnil) (Mem.le_refl _) ?_)
  rw [hf1]
  try dsimp only
  exact ⟨none, 0, ([]), rfl, (TRow.none EEnt _), rfl⟩
 ·
  try simp only [BB] at h1
  refine tc_skip (tq_then (tc_seq (tc_region ?_)))
  refine runL_bsl 5 0 #[] 68 (fun b1 => ?_)
  refine runL_b [0] [(5, Sl (At b1 0) 0 0), (6, Sl a_l l.length c_l)] ?_
  refine runL_app0 7 68 0 (TRow.of_lit (E := EEnt) (b := b1) [] [] trivial (by simp)) h_l (fun a1 c1 r1 hr1 => ?_)
  refine runL_b [0] [(2, Sl a1 l.length c1)] (runL_nil (tq_then (tc_ret ?_)))
  refine tq_front 0 ?_
  have hf2 : l = l := by
   first | rfl | exact RS.isNil h_l h1
  refine tq_ret [0] [Sl a1 l.length c1] (bp_rows [r1] (.cons_cons _ .slnil) (Mem.le_refl _) ?_)
  rw [hf2]
  try dsimp only
  exact ⟨a1, c1, r1, rfl, hr1, rfl⟩
theorem seq_EEnt (G : Mem) (a_a : Option Addr) (c_a : Nat) (a : List EntD) (h_a : RS EEnt G a_a c_a a) (a_b : Option Addr) (c_b : Nat) (b : List EntD) (h_b : RS EEnt G a_b c_b b)  : Con Tryz.prog 28 #[Sl a_a a.length c_a, Sl a_b b.length c_b] G [] (fun u G' L' => u = Bo (decide (a = b))) := by
 refine con_of Tryz.func28 26 [(0, Sl a_a a.length c_a), (1, Sl a_b b.length c_b)] rfl (fun w0 G0 => ?_)
 refine tc_rb [0] [(0, Sl a_a a.length c_a), (1, Sl a_b b.length c_b)] (tc_seq ?_)
 refine tc_rb [0,0,0,0,0] [(0, Sl a_a a.length c_a), (1, Sl a_b b.length c_b), (10, Bo (!decide ((a.length : Int) = (b.length : Int))))] ?_
 refine tc_cond (!decide ((a.length : Int) = (b.length : Int))) (fun h1 => ?_) (fun h1 => ?_)
 ·
  try simp only [BB] at h1
  refine tc_rb [0] [(4, Bo false)] (tc_ret (tq_then_ret ?_))
  refine tq_ret [0] [Bo false] (bp_ret (Mem.le_refl _) ?_)
  have hf_ : (decide (a = b)) = false := by
   first | (rw [decide_eq_false]; intro hh; subst hh; exact absurd rfl h1) | (rw [decide_eq_false]; exact ne_at hx1 hx2 (by first | assumption | (rw [EntD_ne]; assumption) | simp_all [EntD_ne])) | (rw [decide_eq_true]; exact takeEq_all (by omega) (by omega) he)
  (try rw [hf_]); first | with_reducible rfl | (simp only [packR]; done) | rfl
 ·
  try simp only [BB] at h1
  refine tc_skip (tq_then (tc_seq ?_))
  refine tc_rb [0,0,0] [(0, Sl a_a a.length c_a), (1, Sl a_b b.length c_b), (12, I (a.length : Int)), (13, I 0)] (tc_block ?_)
  have hlm_h_a : a.length ≤ 9223372036854775807 := Nat.le_trans (h_a).le (h_a).max
  have hlm_h_b : b.length ≤ 9223372036854775807 := Nat.le_trans (h_b).le (h_b).max
  refine tc_loop (σ := Nat) (fun q_ => (q_ ≤ a.length) ∧ (a.take q_ = b.take q_)) (fun q_ => [(0, Sl a_a a.length c_a), (1, Sl a_b b.length c_b), (12, I (a.length : Int)), (13, I (q_ : Int))]) (fun q_ => G) (fun q_ => []) (fun q_ => a.length - q_) 0 ⟨(by (try dsimp only); first | exact Nat.zero_le _ | omega | simp), rfl⟩ (fun q_ hs => ?_)
  revert hs; revert q_; intro i hs
  obtain ⟨hi, he⟩ := hs
  refine tc_eq (fr' := [(0, Sl a_a a.length c_a), (1, Sl a_b b.length c_b), (12, I (a.length : Int)), (13, I (i : Int))]) (L' := []) rfl rfl ?_
  refine tc_rb [0] [(0, Sl a_a a.length c_a), (1, Sl a_b b.length c_b), (12, I (a.length : Int)), (13, I (i : Int)), (14, Bo (decide ((i : Int) < (a.length : Int))))] (tc_seq ?_)
  refine tc_cond (decide ((i : Int) < (a.length : Int))) (fun h2 => ?_) (fun h2 => ?_)
  ·
   try simp only [BB] at h2
   refine tc_skip (tq_then (tc_seq (tc_block ?_)))
   refine tc_rb [0,0] [(0, Sl a_a a.length c_a), (1, Sl a_b b.length c_b), (5, I (i : Int)), (12, I (a.length : Int)), (13, I (i : Int))] (tc_seq ?_)
   obtain ⟨b1, o1, rfl⟩ := RS.addr h_a (k := i) (by omega)
   obtain ⟨x1, hx1⟩ := getX (l := a) (k := i) (by omega)
   obtain ⟨_, ⟨rfl, w1, w2⟩, hc1⟩ := RS.get h_a hx1
   obtain ⟨b2, o2, rfl⟩ := RS.addr h_b (k := i) (by omega)
   obtain ⟨x2, hx2⟩ := getX (l := b) (k := i) (by omega)
   obtain ⟨_, ⟨rfl, w3, w4⟩, hc2⟩ := RS.get h_b hx2
   refine tc_draw [] ?_
   refine dr_V [(0, Sl (At b1 o1) a.length c_a), (1, I (i : Int)), (2, Pt b1 (o1 + i * 2)), (3, .agg #[Sr x1.name, Sr x1.value]), (4, Sl (At b2 o2) b.length c_b), (5, I (i : Int)), (6, Pt b2 (o2 + i * 2)), (7, .agg #[Sr x2.name, Sr x2.value]), (8, Bo (!((x1.name == x2.name) && (x1.value == x2.value))))] ?_
   refine dr_end [] [(0,0), (1,0), (4,0), (5,0)] [2, 3, 6, 7, 8] [(0, Sl (At b1 o1) a.length c_a), (1, Sl (At b2 o2) b.length c_b), (12, I (a.length : Int)), (13, I (i : Int)), (24, Bo (!((x1.name == x2.name) && (x1.value == x2.value))))] (List.forall_mem_cons.2 ⟨?_, (List.forall_mem_cons.2 ⟨?_, (List.forall_mem_cons.2 ⟨?_, (List.forall_mem_cons.2 ⟨?_, (List.forall_mem_cons.2 ⟨?_, List.forall_mem_nil _⟩)⟩)⟩)⟩)⟩) ?_
   ·
    refine stab_of 2 18 (Pt b1 (o1 + i * 2)) [(16, Sl (At b1 o1) a.length c_a), (17, I (i : Int))] (fun X => ?_)
    exact runL_idx (b := b1) (off := o1) (len := a.length) (cap := c_a) (ik := .i64) 18 68 2 i (by omega) stab_end
   ·
    refine stab_of 3 19 (.agg #[Sr x1.name, Sr x1.value]) [(18, Pt b1 (o1 + i * 2))] (fun X => ?_)
    exact runL_ldG 19 68 (cs := [Sr x1.name, Sr x1.value]) 0 (.agg #[Sr x1.name, Sr x1.value]) hc1 stab_end
   ·
    refine stab_of 6 22 (Pt b2 (o2 + i * 2)) [(20, Sl (At b2 o2) b.length c_b), (21, I (i : Int))] (fun X => ?_)
    exact runL_idx (b := b2) (off := o2) (len := b.length) (cap := c_b) (ik := .i64) 22 68 2 i (by omega) stab_end
   ·
    refine stab_of 7 23 (.agg #[Sr x2.name, Sr x2.value]) [(22, Pt b2 (o2 + i * 2))] (fun X => ?_)
    exact runL_ldG 23 68 (cs := [Sr x2.name, Sr x2.value]) 0 (.agg #[Sr x2.name, Sr x2.value]) hc2 stab_end
   ·
    refine stab_of 8 24 (Bo (!((x1.name == x2.name) && (x1.value == x2.value)))) [(19, .agg #[Sr x1.name, Sr x1.value]), (23, .agg #[Sr x2.name, Sr x2.value])] (fun X => ?_)
    exact runL_eqv 24 (Bo (!(((B x1.name).toList == (B x2.name).toList) && (((B x1.value).toList == (B x2.value).toList) && true)))) (Bo (!((x1.name == x2.name) && (x1.value == x2.value)))) (by simp [B_toList, Bool.and_assoc]) stab_end
   refine tq_then ?_
   refine tc_cond (!((x1.name == x2.name) && (x1.value == x2.value))) (fun h3 => ?_) (fun h3 => ?_)
   ·
    try simp only [BB] at h3
    refine tc_rb [0] [(4, Bo false)] (tc_ret (tq_block_ret (tq_then_ret (tq_rnd_ret (tq_block_ret (tq_then_ret ?_))))))
    refine tq_ret [0] [Bo false] (bp_ret (Mem.le_refl _) ?_)
    have hf_ : (decide (a = b)) = false := by
     first | (rw [decide_eq_false]; intro hh; subst hh; exact absurd rfl h1) | (rw [decide_eq_false]; exact ne_at hx1 hx2 (by first | assumption | (rw [EntD_ne]; assumption) | simp_all [EntD_ne])) | (rw [decide_eq_true]; exact takeEq_all (by omega) (by omega) he)
    (try rw [hf_]); first | with_reducible rfl | (simp only [packR]; done) | rfl
   ·
    try simp only [BB] at h3
    refine tc_skip (tq_block (tq_then (tc_region ?_)))
    refine runL_b [0,0] [(0, Sl (At b1 o1) a.length c_a), (1, Sl (At b2 o2) b.length c_b), (12, I (a.length : Int)), (13, I (IntKind.i64.wrap ((i : Int) + 1)))] ?_
    have e1 : IntKind.i64.wrap ((i : Int) + 1) = (i : Int) + 1 := IntWalk.i64_in _ (by omega)
    refine runL_eq (fr' := [(0, Sl (At b1 o1) a.length c_a), (1, Sl (At b2 o2) b.length c_b), (12, I (a.length : Int)), (13, I ((i : Int) + 1))]) (L' := []) (by simp only [e1]) (by rfl) ?_
    clear e1
    refine runL_nil ?_
    exact tq_rnd (i + 1) ⟨(by omega), (takeEq_step he hx1 hx2 (by first | assumption | (rw [EntD_ne]; assumption) | simp_all [EntD_ne]))⟩ (by (try dsimp only); omega)
  ·
   try simp only [BB] at h2
   refine tc_exit (tq_then_exit (tq_rnd_exit (tq_block_here (tq_then ?_))))
   refine tc_rb [0] [(4, Bo true)] (tc_ret ?_)
   refine tq_ret [0] [Bo true] (bp_ret (Mem.le_refl _) ?_)
   have hf_ : (decide (a = b)) = true := by
    first | (rw [decide_eq_false]; intro hh; subst hh; exact absurd rfl h1) | (rw [decide_eq_false]; exact ne_at hx1 hx2 (by first | assumption | (rw [EntD_ne]; assumption) | simp_all [EntD_ne])) | (rw [decide_eq_true]; exact takeEq_all (by omega) (by omega) he)
   (try rw [hf_]); first | with_reducible rfl | (simp only [packR]; done) | rfl
theorem sidxF_EEnt (G : Mem) (a_l : Option Addr) (c_l : Nat) (l : List EntD) (h_l : RS EEnt G a_l c_l l) (k_f : FuncId) (caps_f : Array Value) (p_f : EntD → Bool) (hk_f : isFn Tryz.prog k_f) (h_f : ∀ (vs0 : List Value) (x0 : EntD) (hx0 : EEnt.R G vs0 x0), Con Tryz.prog k_f (#[.agg vs0.toArray] ++ caps_f) G [] (fun u _ _ => u = Bo (p_f x0)))  : Con Tryz.prog 184 #[Sl a_l l.length c_l, .func (.func k_f) #[] caps_f] G [] (fun u G' L' => u = I (idxF p_f l)) := by
 refine con_of Tryz.func184 19 [(0, Sl a_l l.length c_l), (1, .func (.func k_f) #[] caps_f)] rfl (fun w0 G0 => ?_)
 refine tc_rb [0] [(0, Sl a_l l.length c_l), (1, .func (.func k_f) #[] caps_f)] (tc_seq ?_)
 refine tc_rb [0,0,0] [(0, Sl a_l l.length c_l), (1, .func (.func k_f) #[] caps_f), (7, I (l.length : Int)), (8, I 0)] (tc_block ?_)
 have hlm_h_l : l.length ≤ 9223372036854775807 := Nat.le_trans (h_l).le (h_l).max
 refine tc_loop (σ := Nat) (fun q_ => (q_ ≤ l.length) ∧ ((l.take q_).any p_f = false)) (fun q_ => [(0, Sl a_l l.length c_l), (1, .func (.func k_f) #[] caps_f), (7, I (l.length : Int)), (8, I (q_ : Int))]) (fun q_ => G) (fun q_ => []) (fun q_ => l.length - q_) 0 ⟨(by (try dsimp only); first | exact Nat.zero_le _ | omega | simp), (by (try dsimp only); simp)⟩ (fun q_ hs => ?_)
 revert hs; revert q_; intro i hs
 obtain ⟨hi, hn⟩ := hs
 refine tc_eq (fr' := [(0, Sl a_l l.length c_l), (1, .func (.func k_f) #[] caps_f), (7, I (l.length : Int)), (8, I (i : Int))]) (L' := []) rfl rfl ?_
 refine tc_rb [0] [(0, Sl a_l l.length c_l), (1, .func (.func k_f) #[] caps_f), (7, I (l.length : Int)), (8, I (i : Int)), (9, Bo (decide ((i : Int) < (l.length : Int))))] (tc_seq ?_)
 refine tc_cond (decide ((i : Int) < (l.length : Int))) (fun h1 => ?_) (fun h1 => ?_)
 ·
  try simp only [BB] at h1
  refine tc_skip (tq_then (tc_seq (tc_block ?_)))
  refine tc_rb [0,0] [(0, Sl a_l l.length c_l), (1, .func (.func k_f) #[] caps_f), (5, I (i : Int)), (7, I (l.length : Int)), (8, I (i : Int))] (tc_seq (tc_region ?_))
  refine runL_b [0,0,0] [(0, Sl a_l l.length c_l), (1, .func (.func k_f) #[] caps_f), (5, I (i : Int)), (7, I (l.length : Int)), (8, I (i : Int)), (11, .func (.func k_f) #[] caps_f), (12, Sl a_l l.length c_l), (13, I (i : Int))] ?_
  obtain ⟨b1, o1, rfl⟩ := RS.addr h_l (k := i) (by omega)
  obtain ⟨x1, hx1⟩ := getX (l := l) (k := i) (by omega)
  obtain ⟨_, ⟨rfl, w1, w2⟩, hc1⟩ := RS.get h_l hx1
  refine runL_idx (b := b1) (off := o1) (len := l.length) (cap := c_l) (ik := .i64) 14 68 2 i (by omega) ?_
  refine runL_ldG 15 68 (cs := [Sr x1.name, Sr x1.value]) 0 (.agg #[Sr x1.name, Sr x1.value]) hc1 ?_
  refine runL_callF (k := k_f) (caps := caps_f) (args := #[.agg #[Sr x1.name, Sr x1.value]]) 16 (Bo (p_f x1)) hk_f (h_f [Sr x1.name, Sr x1.value] x1 (⟨rfl, w1, w2⟩)) ?_
  refine runL_nil (tq_then ?_)
  refine tc_cond (p_f x1) (fun h2 => ?_) (fun h2 => ?_)
  ·
   try simp only [BB] at h2
   refine tc_rb [0,0] [(4, I (i : Int))] (tc_ret (tq_block_ret (tq_then_ret (tq_rnd_ret (tq_block_ret (tq_then_ret ?_))))))
   refine tq_ret [0] [I (i : Int)] (bp_ret (Mem.le_refl _) ?_)
   have hf_ : (idxF p_f l) = (i : Int) := by
    first | exact idxF_some hx1 (by simpa using h2) hn | exact idxF_none (by rw [List.take_of_length_le (by omega)] at hn; exact hn)
   (try rw [hf_]); first | with_reducible rfl | (simp only [packR]; done) | rfl
  ·
   try simp only [BB] at h2
   refine tc_skip (tq_block (tq_then (tc_region ?_)))
   refine runL_b [0,0] [(0, Sl (At b1 o1) l.length c_l), (1, .func (.func k_f) #[] caps_f), (7, I (l.length : Int)), (8, I (IntKind.i64.wrap ((i : Int) + 1)))] ?_
   have e1 : IntKind.i64.wrap ((i : Int) + 1) = (i : Int) + 1 := IntWalk.i64_in _ (by omega)
   refine runL_eq (fr' := [(0, Sl (At b1 o1) l.length c_l), (1, .func (.func k_f) #[] caps_f), (7, I (l.length : Int)), (8, I ((i : Int) + 1))]) (L' := []) (by simp only [e1]) (by rfl) ?_
   clear e1
   refine runL_nil ?_
   exact tq_rnd (i + 1) ⟨(by omega), (any_take hx1 (by simpa using h2) hn)⟩ (by (try dsimp only); omega)
 ·
  try simp only [BB] at h1
  refine tc_exit (tq_then_exit (tq_rnd_exit (tq_block_here (tq_then ?_))))
  refine tc_rb [0] [(4, I (-1))] (tc_ret ?_)
  refine tq_ret [0] [I (-1)] (bp_ret (Mem.le_refl _) ?_)
  have hf_ : (idxF p_f l) = (-1) := by
   first | exact idxF_some hx1 (by simpa using h2) hn | exact idxF_none (by rw [List.take_of_length_le (by omega)] at hn; exact hn)
  (try rw [hf_]); first | with_reducible rfl | (simp only [packR]; done) | rfl
theorem sclone_ES (G : Mem) (a_l : Option Addr) (c_l : Nat) (l : List (List UInt8)) (h_l : RS ES G a_l c_l l)  : Con Tryz.prog 87 #[Sl a_l l.length c_l] G [] (fun u G' L' => ∃ (a1 : Option Addr) (c2 : Nat) (r3 : List Seg), u = Sl a1 l.length c2 ∧ (TRow ES G' a1 c2 l r3) ∧ L' = [r3]) := by
 refine con_of Tryz.func87 8 [(0, Sl a_l l.length c_l)] rfl (fun w0 G0 => ?_)
 refine tc_rb [0] [(0, Sl a_l l.length c_l)] (tc_seq (tc_seq (tc_region ?_)))
 refine runL_b [0] [(0, Sl a_l l.length c_l), (3, Sl a_l l.length c_l)] ?_
 refine runL_one 4 (Bo ((a_l).isNone)) (by intro w; cases a_l <;> kernel_rfl) ?_
 refine runL_nil (tq_then ?_)
 refine tc_cond ((a_l).isNone) (fun h1 => ?_) (fun h1 => ?_)
 ·
  try simp only [BB] at h1
  refine tc_rb [0] [(2, Sl none 0 0)] (tc_ret (tq_then_ret ?_))
  refine tq_empty ?_
  refine tq_front 0 ?_
  have hf1 : l = [] := by
   first | rfl | exact RS.isNil h_l h1
  refine tq_ret [0] [Sl none 0 0] (bp_rows [[]] (.cons_cons _ .slnil) (Mem.le_refl _) ?_)
  rw [hf1]
  try dsimp only
  exact ⟨none, 0, ([]), rfl, (TRow.none ES _), rfl⟩
 ·
  try simp only [BB] at h1
  refine tc_skip (tq_then (tc_seq (tc_region ?_)))
  refine runL_bsl 5 0 #[] 9 (fun b1 => ?_)
  refine runL_b [0] [(5, Sl (At b1 0) 0 0), (6, Sl a_l l.length c_l)] ?_
  refine runL_app0 7 9 0 (TRow.of_lit (E := ES) (b := b1) [] [] trivial (by simp)) h_l (fun a1 c1 r1 hr1 => ?_)
  refine runL_b [0] [(2, Sl a1 l.length c1)] (runL_nil (tq_then (tc_ret ?_)))
  refine tq_front 0 ?_
  have hf2 : l = l := by
   first | rfl | exact RS.isNil h_l h1
  refine tq_ret [0] [Sl a1 l.length c1] (bp_rows [r1] (.cons_cons _ .slnil) (Mem.le_refl _) ?_)
  rw [hf2]
  try dsimp only
  exact ⟨a1, c1, r1, rfl, hr1, rfl⟩
theorem seq_ES (G : Mem) (a_a : Option Addr) (c_a : Nat) (a : List (List UInt8)) (h_a : RS ES G a_a c_a a) (a_b : Option Addr) (c_b : Nat) (b : List (List UInt8)) (h_b : RS ES G a_b c_b b)  : Con Tryz.prog 31 #[Sl a_a a.length c_a, Sl a_b b.length c_b] G [] (fun u G' L' => u = Bo (decide (a = b))) := by
 refine con_of Tryz.func31 26 [(0, Sl a_a a.length c_a), (1, Sl a_b b.length c_b)] rfl (fun w0 G0 => ?_)
 refine tc_rb [0] [(0, Sl a_a a.length c_a), (1, Sl a_b b.length c_b)] (tc_seq ?_)
 refine tc_rb [0,0,0,0,0] [(0, Sl a_a a.length c_a), (1, Sl a_b b.length c_b), (10, Bo (!decide ((a.length : Int) = (b.length : Int))))] ?_
 refine tc_cond (!decide ((a.length : Int) = (b.length : Int))) (fun h1 => ?_) (fun h1 => ?_)
 ·
  try simp only [BB] at h1
  refine tc_rb [0] [(4, Bo false)] (tc_ret (tq_then_ret ?_))
  refine tq_ret [0] [Bo false] (bp_ret (Mem.le_refl _) ?_)
  have hf_ : (decide (a = b)) = false := by
   first | (rw [decide_eq_false]; intro hh; subst hh; exact absurd rfl h1) | (rw [decide_eq_false]; exact ne_at hx1 hx2 (by first | assumption | omega | simp_all)) | (rw [decide_eq_true]; exact takeEq_all (by omega) (by omega) he)
  (try rw [hf_]); first | with_reducible rfl | (simp only [packR]; done) | rfl
 ·
  try simp only [BB] at h1
  refine tc_skip (tq_then (tc_seq ?_))
  refine tc_rb [0,0,0] [(0, Sl a_a a.length c_a), (1, Sl a_b b.length c_b), (12, I (a.length : Int)), (13, I 0)] (tc_block ?_)
  have hlm_h_a : a.length ≤ 9223372036854775807 := Nat.le_trans (h_a).le (h_a).max
  have hlm_h_b : b.length ≤ 9223372036854775807 := Nat.le_trans (h_b).le (h_b).max
  refine tc_loop (σ := Nat) (fun q_ => (q_ ≤ a.length) ∧ (a.take q_ = b.take q_)) (fun q_ => [(0, Sl a_a a.length c_a), (1, Sl a_b b.length c_b), (12, I (a.length : Int)), (13, I (q_ : Int))]) (fun q_ => G) (fun q_ => []) (fun q_ => a.length - q_) 0 ⟨(by (try dsimp only); first | exact Nat.zero_le _ | omega | simp), rfl⟩ (fun q_ hs => ?_)
  revert hs; revert q_; intro i hs
  obtain ⟨hi, he⟩ := hs
  refine tc_eq (fr' := [(0, Sl a_a a.length c_a), (1, Sl a_b b.length c_b), (12, I (a.length : Int)), (13, I (i : Int))]) (L' := []) rfl rfl ?_
  refine tc_rb [0] [(0, Sl a_a a.length c_a), (1, Sl a_b b.length c_b), (12, I (a.length : Int)), (13, I (i : Int)), (14, Bo (decide ((i : Int) < (a.length : Int))))] (tc_seq ?_)
  refine tc_cond (decide ((i : Int) < (a.length : Int))) (fun h2 => ?_) (fun h2 => ?_)
  ·
   try simp only [BB] at h2
   refine tc_skip (tq_then (tc_seq (tc_block ?_)))
   refine tc_rb [0,0] [(0, Sl a_a a.length c_a), (1, Sl a_b b.length c_b), (5, I (i : Int)), (12, I (a.length : Int)), (13, I (i : Int))] (tc_seq ?_)
   obtain ⟨b1, o1, rfl⟩ := RS.addr h_a (k := i) (by omega)
   obtain ⟨x1, hx1⟩ := getX (l := a) (k := i) (by omega)
   obtain ⟨_, ⟨rfl, w1⟩, hc1⟩ := RS.get h_a hx1
   obtain ⟨b2, o2, rfl⟩ := RS.addr h_b (k := i) (by omega)
   obtain ⟨x2, hx2⟩ := getX (l := b) (k := i) (by omega)
   obtain ⟨_, ⟨rfl, w2⟩, hc2⟩ := RS.get h_b hx2
   refine tc_draw [] ?_
   refine dr_V [(0, Sl (At b1 o1) a.length c_a), (1, I (i : Int)), (2, Pt b1 (o1 + i * 1)), (3, Sr x1), (4, Sl (At b2 o2) b.length c_b), (5, I (i : Int)), (6, Pt b2 (o2 + i * 1)), (7, Sr x2), (8, Bo (!((B x1).toList == (B x2).toList)))] ?_
   refine dr_end [] [(0,0), (1,0), (4,0), (5,0), (8,0)] [2, 3, 6, 7] [(0, Sl (At b1 o1) a.length c_a), (1, Sl (At b2 o2) b.length c_b), (12, I (a.length : Int)), (13, I (i : Int)), (24, Bo (!((B x1).toList == (B x2).toList)))] (List.forall_mem_cons.2 ⟨?_, (List.forall_mem_cons.2 ⟨?_, (List.forall_mem_cons.2 ⟨?_, (List.forall_mem_cons.2 ⟨?_, List.forall_mem_nil _⟩)⟩)⟩)⟩) ?_
   ·
    refine stab_of 2 18 (Pt b1 (o1 + i * 1)) [(16, Sl (At b1 o1) a.length c_a), (17, I (i : Int))] (fun X => ?_)
    exact runL_idx (b := b1) (off := o1) (len := a.length) (cap := c_a) (ik := .i64) 18 9 1 i (by omega) stab_end
   ·
    refine stab_of 3 19 (Sr x1) [(18, Pt b1 (o1 + i * 1))] (fun X => ?_)
    exact runL_ldG 19 9 (cs := [Sr x1]) 0 (Sr x1) hc1 stab_end
   ·
    refine stab_of 6 22 (Pt b2 (o2 + i * 1)) [(20, Sl (At b2 o2) b.length c_b), (21, I (i : Int))] (fun X => ?_)
    exact runL_idx (b := b2) (off := o2) (len := b.length) (cap := c_b) (ik := .i64) 22 9 1 i (by omega) stab_end
   ·
    refine stab_of 7 23 (Sr x2) [(22, Pt b2 (o2 + i * 1))] (fun X => ?_)
    exact runL_ldG 23 9 (cs := [Sr x2]) 0 (Sr x2) hc2 stab_end
   refine tq_eq (fr' := [(0, Sl (At b1 o1) a.length c_a), (1, Sl (At b2 o2) b.length c_b), (12, I (a.length : Int)), (13, I (i : Int)), (24, Bo (!(x1 == x2)))]) (L' := []) (by simp only [B_toList]) (by rfl) ?_
   refine tq_then ?_
   refine tc_cond (!(x1 == x2)) (fun h3 => ?_) (fun h3 => ?_)
   ·
    try simp only [BB] at h3
    refine tc_rb [0] [(4, Bo false)] (tc_ret (tq_block_ret (tq_then_ret (tq_rnd_ret (tq_block_ret (tq_then_ret ?_))))))
    refine tq_ret [0] [Bo false] (bp_ret (Mem.le_refl _) ?_)
    have hf_ : (decide (a = b)) = false := by
     first | (rw [decide_eq_false]; intro hh; subst hh; exact absurd rfl h1) | (rw [decide_eq_false]; exact ne_at hx1 hx2 (by first | assumption | omega | simp_all)) | (rw [decide_eq_true]; exact takeEq_all (by omega) (by omega) he)
    (try rw [hf_]); first | with_reducible rfl | (simp only [packR]; done) | rfl
   ·
    try simp only [BB] at h3
    refine tc_skip (tq_block (tq_then (tc_region ?_)))
    refine runL_b [0,0] [(0, Sl (At b1 o1) a.length c_a), (1, Sl (At b2 o2) b.length c_b), (12, I (a.length : Int)), (13, I (IntKind.i64.wrap ((i : Int) + 1)))] ?_
    have e1 : IntKind.i64.wrap ((i : Int) + 1) = (i : Int) + 1 := IntWalk.i64_in _ (by omega)
    refine runL_eq (fr' := [(0, Sl (At b1 o1) a.length c_a), (1, Sl (At b2 o2) b.length c_b), (12, I (a.length : Int)), (13, I ((i : Int) + 1))]) (L' := []) (by simp only [e1]) (by rfl) ?_
    clear e1
    refine runL_nil ?_
    exact tq_rnd (i + 1) ⟨(by omega), (takeEq_step he hx1 hx2 (by first | assumption | omega | simp_all))⟩ (by (try dsimp only); omega)
  ·
   try simp only [BB] at h2
   refine tc_exit (tq_then_exit (tq_rnd_exit (tq_block_here (tq_then ?_))))
   refine tc_rb [0] [(4, Bo true)] (tc_ret ?_)
   refine tq_ret [0] [Bo true] (bp_ret (Mem.le_refl _) ?_)
   have hf_ : (decide (a = b)) = true := by
    first | (rw [decide_eq_false]; intro hh; subst hh; exact absurd rfl h1) | (rw [decide_eq_false]; exact ne_at hx1 hx2 (by first | assumption | omega | simp_all)) | (rw [decide_eq_true]; exact takeEq_all (by omega) (by omega) he)
   (try rw [hf_]); first | with_reducible rfl | (simp only [packR]; done) | rfl
theorem sidxF_ES (G : Mem) (a_l : Option Addr) (c_l : Nat) (l : List (List UInt8)) (h_l : RS ES G a_l c_l l) (k_f : FuncId) (caps_f : Array Value) (p_f : (List UInt8) → Bool) (hk_f : isFn Tryz.prog k_f) (h_f : ∀ (x0 : (List UInt8)) (hx0 : (x0).length ≤ 140737488351232), Con Tryz.prog k_f (#[Sr x0] ++ caps_f) G [] (fun u _ _ => u = Bo (p_f x0)))  : Con Tryz.prog 171 #[Sl a_l l.length c_l, .func (.func k_f) #[] caps_f] G [] (fun u G' L' => u = I (idxF p_f l)) := by
 refine con_of Tryz.func171 19 [(0, Sl a_l l.length c_l), (1, .func (.func k_f) #[] caps_f)] rfl (fun w0 G0 => ?_)
 refine tc_rb [0] [(0, Sl a_l l.length c_l), (1, .func (.func k_f) #[] caps_f)] (tc_seq ?_)
 refine tc_rb [0,0,0] [(0, Sl a_l l.length c_l), (1, .func (.func k_f) #[] caps_f), (7, I (l.length : Int)), (8, I 0)] (tc_block ?_)
 have hlm_h_l : l.length ≤ 9223372036854775807 := Nat.le_trans (h_l).le (h_l).max
 refine tc_loop (σ := Nat) (fun q_ => (q_ ≤ l.length) ∧ ((l.take q_).any p_f = false)) (fun q_ => [(0, Sl a_l l.length c_l), (1, .func (.func k_f) #[] caps_f), (7, I (l.length : Int)), (8, I (q_ : Int))]) (fun q_ => G) (fun q_ => []) (fun q_ => l.length - q_) 0 ⟨(by (try dsimp only); first | exact Nat.zero_le _ | omega | simp), (by (try dsimp only); simp)⟩ (fun q_ hs => ?_)
 revert hs; revert q_; intro i hs
 obtain ⟨hi, hn⟩ := hs
 refine tc_eq (fr' := [(0, Sl a_l l.length c_l), (1, .func (.func k_f) #[] caps_f), (7, I (l.length : Int)), (8, I (i : Int))]) (L' := []) rfl rfl ?_
 refine tc_rb [0] [(0, Sl a_l l.length c_l), (1, .func (.func k_f) #[] caps_f), (7, I (l.length : Int)), (8, I (i : Int)), (9, Bo (decide ((i : Int) < (l.length : Int))))] (tc_seq ?_)
 refine tc_cond (decide ((i : Int) < (l.length : Int))) (fun h1 => ?_) (fun h1 => ?_)
 ·
  try simp only [BB] at h1
  refine tc_skip (tq_then (tc_seq (tc_block ?_)))
  refine tc_rb [0,0] [(0, Sl a_l l.length c_l), (1, .func (.func k_f) #[] caps_f), (5, I (i : Int)), (7, I (l.length : Int)), (8, I (i : Int))] (tc_seq (tc_region ?_))
  refine runL_b [0,0,0] [(0, Sl a_l l.length c_l), (1, .func (.func k_f) #[] caps_f), (5, I (i : Int)), (7, I (l.length : Int)), (8, I (i : Int)), (11, .func (.func k_f) #[] caps_f), (12, Sl a_l l.length c_l), (13, I (i : Int))] ?_
  obtain ⟨b1, o1, rfl⟩ := RS.addr h_l (k := i) (by omega)
  obtain ⟨x1, hx1⟩ := getX (l := l) (k := i) (by omega)
  obtain ⟨_, ⟨rfl, w1⟩, hc1⟩ := RS.get h_l hx1
  refine runL_idx (b := b1) (off := o1) (len := l.length) (cap := c_l) (ik := .i64) 14 9 1 i (by omega) ?_
  refine runL_ldG 15 9 (cs := [Sr x1]) 0 (Sr x1) hc1 ?_
  refine runL_callF (k := k_f) (caps := caps_f) (args := #[Sr x1]) 16 (Bo (p_f x1)) hk_f (h_f x1 w1) ?_
  refine runL_nil (tq_then ?_)
  refine tc_cond (p_f x1) (fun h2 => ?_) (fun h2 => ?_)
  ·
   try simp only [BB] at h2
   refine tc_rb [0,0] [(4, I (i : Int))] (tc_ret (tq_block_ret (tq_then_ret (tq_rnd_ret (tq_block_ret (tq_then_ret ?_))))))
   refine tq_ret [0] [I (i : Int)] (bp_ret (Mem.le_refl _) ?_)
   have hf_ : (idxF p_f l) = (i : Int) := by
    first | exact idxF_some hx1 (by simpa using h2) hn | exact idxF_none (by rw [List.take_of_length_le (by omega)] at hn; exact hn)
   (try rw [hf_]); first | with_reducible rfl | (simp only [packR]; done) | rfl
  ·
   try simp only [BB] at h2
   refine tc_skip (tq_block (tq_then (tc_region ?_)))
   refine runL_b [0,0] [(0, Sl (At b1 o1) l.length c_l), (1, .func (.func k_f) #[] caps_f), (7, I (l.length : Int)), (8, I (IntKind.i64.wrap ((i : Int) + 1)))] ?_
   have e1 : IntKind.i64.wrap ((i : Int) + 1) = (i : Int) + 1 := IntWalk.i64_in _ (by omega)
   refine runL_eq (fr' := [(0, Sl (At b1 o1) l.length c_l), (1, .func (.func k_f) #[] caps_f), (7, I (l.length : Int)), (8, I ((i : Int) + 1))]) (L' := []) (by simp only [e1]) (by rfl) ?_
   clear e1
   refine runL_nil ?_
   exact tq_rnd (i + 1) ⟨(by omega), (any_take hx1 (by simpa using h2) hn)⟩ (by (try dsimp only); omega)
 ·
  try simp only [BB] at h1
  refine tc_exit (tq_then_exit (tq_rnd_exit (tq_block_here (tq_then ?_))))
  refine tc_rb [0] [(4, I (-1))] (tc_ret ?_)
  refine tq_ret [0] [I (-1)] (bp_ret (Mem.le_refl _) ?_)
  have hf_ : (idxF p_f l) = (-1) := by
   first | exact idxF_some hx1 (by simpa using h2) hn | exact idxF_none (by rw [List.take_of_length_le (by omega)] at hn; exact hn)
  (try rw [hf_]); first | with_reducible rfl | (simp only [packR]; done) | rfl
theorem sany_ES (G : Mem) (a_l : Option Addr) (c_l : Nat) (l : List (List UInt8)) (h_l : RS ES G a_l c_l l) (k_f : FuncId) (caps_f : Array Value) (p_f : (List UInt8) → Bool) (hk_f : isFn Tryz.prog k_f) (h_f : ∀ (x0 : (List UInt8)) (hx0 : (x0).length ≤ 140737488351232), Con Tryz.prog k_f (#[Sr x0] ++ caps_f) G [] (fun u _ _ => u = Bo (p_f x0)))  : Con Tryz.prog 128 #[Sl a_l l.length c_l, .func (.func k_f) #[] caps_f] G [] (fun u G' L' => u = Bo (l.any p_f)) := by
 refine con_of Tryz.func128 9 [(0, Sl a_l l.length c_l), (1, .func (.func k_f) #[] caps_f)] rfl (fun w0 G0 => ?_)
 refine tc_rb [0] [(0, Sl a_l l.length c_l), (1, .func (.func k_f) #[] caps_f)] (tc_seq (tc_region ?_))
 refine runL_b [0,0] [(5, Sl a_l l.length c_l), (6, .func (.func k_f) #[] caps_f)] ?_
 refine runL_callV 7 (I (idxF p_f l)) (sidxF_ES G a_l c_l l h_l k_f caps_f p_f hk_f h_f) ?_
 refine runL_b [0,0] [(4, Bo (decide (idxF p_f l ≥ 0)))] (runL_nil (tq_then (tc_ret ?_)))
 refine tq_ret [0] [Bo (decide (idxF p_f l ≥ 0))] (bp_ret (Mem.le_refl _) ?_)
 have hf_ : (l.any p_f) = (decide (idxF p_f l ≥ 0)) := by
  rw [idxF_any]
 (try rw [hf_]); first | with_reducible rfl | (simp only [packR]; done) | rfl
end Go.Proofs.YtmpakffajpnffaaGreatDoor
