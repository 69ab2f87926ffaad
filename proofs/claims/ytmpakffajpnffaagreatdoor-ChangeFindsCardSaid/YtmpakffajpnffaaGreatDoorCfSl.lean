import Derived.Test.YtmpakffajpnffaaGreatDoorCfTy
namespace Go.Proofs.YtmpakffajpnffaaGreatDoor
open Go.Tx
set_option linter.unusedVariables false
set_option linter.unusedSimpArgs false
theorem EntD_ne {x y : EntD} : x = y ↔ x.name = y.name ∧ x.value = y.value := by cases x; cases y; simp
theorem idxF_ge {α : Type} {p : α → Bool} {l : List α} {i : Nat} (h : idxF p l = (i : Int)) : ∃ x, l[i]? = some x ∧ p x = true := by
  unfold idxF at h
  cases hh : l.findIdx? p with
  | none => rw [hh] at h; simp at h
  | some k =>
    rw [hh] at h
    have : k = i := by simp at h; omega
    subst this
    rw [List.findIdx?_eq_some_iff_getElem] at hh
    obtain ⟨h1, h2, _⟩ := hh
    exact ⟨l[k], List.getElem?_eq_getElem h1, h2⟩
theorem sclone_EEnt (G : Mem) (a_l : Option Addr) (c_l : Nat) (l : List EntD) (h_l : RS EEnt G a_l c_l l)  : Con Tryz.prog 50 #[Sl a_l l.length c_l] G [] (fun u G' L' => ∃ (a1 : Option Addr) (c2 : Nat) (r3 : List Seg), u = Sl a1 l.length c2 ∧ (TRow EEnt G' a1 c2 l r3) ∧ L' = [r3]) := by
 refine con_of Tryz.func50 8 [(0, Sl a_l l.length c_l)] rfl (fun w0 G0 => ?_)
 refine tc_rb [0] [(0, Sl a_l l.length c_l)] (tc_seq (tc_seq (tc_region ?_)))
 refine runL_b [0] [(0, Sl a_l l.length c_l), (3, Sl a_l l.length c_l)] ?_
 refine runL_one 4 (Bo ((a_l).isNone)) (by intro w; cases a_l <;> kernel_rfl) ?_
 refine runL_nil (tq_then ?_)
 refine tc_cond ((a_l).isNone) (fun h1 => ?_) (fun h1 => ?_)
 ·
  try simp only [BB] at h1
  refine tc_rb [0] [(2, Sl none 0 0)] (tc_ret (tq_then_ret ?_))
  refine tq_empty ?_
  refine tq_front 0 ?_
  have hf1 : l = [] := by
   first | rfl | exact RS.isNil h_l h1
  refine tq_ret [0] [Sl none 0 0] (bp_rows [[]] (.cons_cons _ .slnil) (Mem.le_refl _) ?_)
  rw [hf1]
  try dsimp only
  exact ⟨none, 0, ([]), rfl, (TRow.none EEnt _), rfl⟩
 ·
  try simp only [BB] at h1
  refine tc_skip (tq_then (tc_seq (tc_region ?_)))
  refine runL_bsl 5 0 #[] 68 (fun b1 => ?_)
  refine runL_b [0] [(5, Sl (At b1 0) 0 0), (6, Sl a_l l.length c_l)] ?_
  refine runL_app0 7 68 0 (TRow.of_lit (E := EEnt) (b := b1) [] [] trivial (by simp)) h_l (fun a1 c1 r1 hr1 => ?_)
  refine runL_b [0] [(2, Sl a1 l.length c1)] (runL_nil (tq_then (tc_ret ?_)))
  refine tq_front 0 ?_
  have hf2 : l = l := by
   first | rfl | exact RS.isNil h_l h1
  refine tq_ret [0] [Sl a1 l.length c1] (bp_rows [r1] (.cons_cons _ .slnil) (Mem.le_refl _) ?_)
  rw [hf2]
  try dsimp only
  exact ⟨a1, c1, r1, rfl, hr1, rfl⟩
theorem sidxF_EEnt (G : Mem) (a_l : Option Addr) (c_l : Nat) (l : List EntD) (h_l : RS EEnt G a_l c_l l) (k_f : FuncId) (caps_f : Array Value) (p_f : EntD → Bool) (hk_f : isFn Tryz.prog k_f) (h_f : ∀ (vs0 : List Value) (x0 : EntD) (hx0 : EEnt.R G vs0 x0), Con Tryz.prog k_f (#[.agg vs0.toArray] ++ caps_f) G [] (fun u _ _ => u = Bo (p_f x0)))  : Con Tryz.prog 184 #[Sl a_l l.length c_l, .func (.func k_f) #[] caps_f] G [] (fun u G' L' => u = I (idxF p_f l)) := by
 refine con_of Tryz.func184 19 [(0, Sl a_l l.length c_l), (1, .func (.func k_f) #[] caps_f)] rfl (fun w0 G0 => ?_)
 refine tc_rb [0] [(0, Sl a_l l.length c_l), (1, .func (.func k_f) #[] caps_f)] (tc_seq ?_)
 refine tc_rb [0,0,0] [(0, Sl a_l l.length c_l), (1, .func (.func k_f) #[] caps_f), (7, I (l.length : Int)), (8, I 0)] (tc_block ?_)
 have hlm_h_l : l.length ≤ 9223372036854775807 := Nat.le_trans (h_l).le (h_l).max
 refine tc_loop (σ := Nat) (fun q_ => (q_ ≤ l.length) ∧ ((l.take q_).any p_f = false)) (fun q_ => [(0, Sl a_l l.length c_l), (1, .func (.func k_f) #[] caps_f), (7, I (l.length : Int)), (8, I (q_ : Int))]) (fun q_ => G) (fun q_ => []) (fun q_ => l.length - q_) 0 ⟨(by (try dsimp only); first | exact Nat.zero_le _ | omega | simp), (by (try dsimp only); simp)⟩ (fun q_ hs => ?_)
 revert hs; revert q_; intro i hs
 obtain ⟨hi, hn⟩ := hs
 refine tc_eq (fr' := [(0, Sl a_l l.length c_l), (1, .func (.func k_f) #[] caps_f), (7, I (l.length : Int)), (8, I (i : Int))]) (L' := []) rfl rfl ?_
 refine tc_rb [0] [(0, Sl a_l l.length c_l), (1, .func (.func k_f) #[] caps_f), (7, I (l.length : Int)), (8, I (i : Int)), (9, Bo (decide ((i : Int) < (l.length : Int))))] (tc_seq ?_)
 refine tc_cond (decide ((i : Int) < (l.length : Int))) (fun h1 => ?_) (fun h1 => ?_)
 ·
  try simp only [BB] at h1
  refine tc_skip (tq_then (tc_seq (tc_block ?_)))
  refine tc_rb [0,0] [(0, Sl a_l l.length c_l), (1, .func (.func k_f) #[] caps_f), (5, I (i : Int)), (7, I (l.length : Int)), (8, I (i : Int))] (tc_seq (tc_region ?_))
  refine runL_b [0,0,0] [(0, Sl a_l l.length c_l), (1, .func (.func k_f) #[] caps_f), (5, I (i : Int)), (7, I (l.length : Int)), (8, I (i : Int)), (11, .func (.func k_f) #[] caps_f), (12, Sl a_l l.length c_l), (13, I (i : Int))] ?_
  obtain ⟨b1, o1, rfl⟩ := RS.addr h_l (k := i) (by omega)
  obtain ⟨x1, hx1⟩ := getX (l := l) (k := i) (by omega)
  obtain ⟨_, ⟨rfl, w1, w2⟩, hc1⟩ := RS.get h_l hx1
  refine runL_idx (b := b1) (off := o1) (len := l.length) (cap := c_l) (ik := .i64) 14 68 2 i (by omega) ?_
  refine runL_ldG 15 68 (cs := [Sr x1.name, Sr x1.value]) 0 (.agg #[Sr x1.name, Sr x1.value]) hc1 ?_
  refine runL_callF (k := k_f) (caps := caps_f) (args := #[.agg #[Sr x1.name, Sr x1.value]]) 16 (Bo (p_f x1)) hk_f (h_f [Sr x1.name, Sr x1.value] x1 (⟨rfl, w1, w2⟩)) ?_
  refine runL_nil (tq_then ?_)
  refine tc_cond (p_f x1) (fun h2 => ?_) (fun h2 => ?_)
  ·
   try simp only [BB] at h2
   refine tc_rb [0,0] [(4, I (i : Int))] (tc_ret (tq_block_ret (tq_then_ret (tq_rnd_ret (tq_block_ret (tq_then_ret ?_))))))
   refine tq_ret [0] [I (i : Int)] (bp_ret (Mem.le_refl _) ?_)
   have hf_ : (idxF p_f l) = (i : Int) := by
    first | exact idxF_some hx1 (by simpa using h2) hn | exact idxF_none (by rw [List.take_of_length_le (by omega)] at hn; exact hn)
   (try rw [hf_]); first | with_reducible rfl | (simp only [packR]; done) | rfl
  ·
   try simp only [BB] at h2
   refine tc_skip (tq_block (tq_then (tc_region ?_)))
   refine runL_b [0,0] [(0, Sl (At b1 o1) l.length c_l), (1, .func (.func k_f) #[] caps_f), (7, I (l.length : Int)), (8, I (IntKind.i64.wrap ((i : Int) + 1)))] ?_
   have e1 : IntKind.i64.wrap ((i : Int) + 1) = (i : Int) + 1 := IntWalk.i64_in _ (by omega)
   refine runL_eq (fr' := [(0, Sl (At b1 o1) l.length c_l), (1, .func (.func k_f) #[] caps_f), (7, I (l.length : Int)), (8, I ((i : Int) + 1))]) (L' := []) (by simp only [e1]) (by rfl) ?_
   clear e1
   refine runL_nil ?_
   exact tq_rnd (i + 1) ⟨(by omega), (any_take hx1 (by simpa using h2) hn)⟩ (by (try dsimp only); omega)
 ·
  try simp only [BB] at h1
  refine tc_exit (tq_then_exit (tq_rnd_exit (tq_block_here (tq_then ?_))))
  refine tc_rb [0] [(4, I (-1))] (tc_ret ?_)
  refine tq_ret [0] [I (-1)] (bp_ret (Mem.le_refl _) ?_)
  have hf_ : (idxF p_f l) = (-1) := by
   first | exact idxF_some hx1 (by simpa using h2) hn | exact idxF_none (by rw [List.take_of_length_le (by omega)] at hn; exact hn)
  (try rw [hf_]); first | with_reducible rfl | (simp only [packR]; done) | rfl
theorem sany_EEnt (G : Mem) (a_l : Option Addr) (c_l : Nat) (l : List EntD) (h_l : RS EEnt G a_l c_l l) (k_f : FuncId) (caps_f : Array Value) (p_f : EntD → Bool) (hk_f : isFn Tryz.prog k_f) (h_f : ∀ (vs0 : List Value) (x0 : EntD) (hx0 : EEnt.R G vs0 x0), Con Tryz.prog k_f (#[.agg vs0.toArray] ++ caps_f) G [] (fun u _ _ => u = Bo (p_f x0)))  : Con Tryz.prog 160 #[Sl a_l l.length c_l, .func (.func k_f) #[] caps_f] G [] (fun u G' L' => u = Bo (l.any p_f)) := by
 refine con_of Tryz.func160 9 [(0, Sl a_l l.length c_l), (1, .func (.func k_f) #[] caps_f)] rfl (fun w0 G0 => ?_)
 refine tc_rb [0] [(0, Sl a_l l.length c_l), (1, .func (.func k_f) #[] caps_f)] (tc_seq (tc_region ?_))
 refine runL_b [0,0] [(5, Sl a_l l.length c_l), (6, .func (.func k_f) #[] caps_f)] ?_
 refine runL_callV 7 (I (idxF p_f l)) (sidxF_EEnt G a_l c_l l h_l k_f caps_f p_f hk_f h_f) ?_
 refine runL_b [0,0] [(4, Bo (decide (idxF p_f l ≥ 0)))] (runL_nil (tq_then (tc_ret ?_)))
 refine tq_ret [0] [Bo (decide (idxF p_f l ≥ 0))] (bp_ret (Mem.le_refl _) ?_)
 have hf_ : (l.any p_f) = (decide (idxF p_f l ≥ 0)) := by
  rw [idxF_any]
 (try rw [hf_]); first | with_reducible rfl | (simp only [packR]; done) | rfl
theorem sclone_ES (G : Mem) (a_l : Option Addr) (c_l : Nat) (l : List (List UInt8)) (h_l : RS ES G a_l c_l l)  : Con Tryz.prog 87 #[Sl a_l l.length c_l] G [] (fun u G' L' => ∃ (a1 : Option Addr) (c2 : Nat) (r3 : List Seg), u = Sl a1 l.length c2 ∧ (TRow ES G' a1 c2 l r3) ∧ L' = [r3]) := by
 refine con_of Tryz.func87 8 [(0, Sl a_l l.length c_l)] rfl (fun w0 G0 => ?_)
 refine tc_rb [0] [(0, Sl a_l l.length c_l)] (tc_seq (tc_seq (tc_region ?_)))
 refine runL_b [0] [(0, Sl a_l l.length c_l), (3, Sl a_l l.length c_l)] ?_
 refine runL_one 4 (Bo ((a_l).isNone)) (by intro w; cases a_l <;> kernel_rfl) ?_
 refine runL_nil (tq_then ?_)
 refine tc_cond ((a_l).isNone) (fun h1 => ?_) (fun h1 => ?_)
 ·
  try simp only [BB] at h1
  refine tc_rb [0] [(2, Sl none 0 0)] (tc_ret (tq_then_ret ?_))
  refine tq_empty ?_
  refine tq_front 0 ?_
  have hf1 : l = [] := by
   first | rfl | exact RS.isNil h_l h1
  refine tq_ret [0] [Sl none 0 0] (bp_rows [[]] (.cons_cons _ .slnil) (Mem.le_refl _) ?_)
  rw [hf1]
  try dsimp only
  exact ⟨none, 0, ([]), rfl, (TRow.none ES _), rfl⟩
 ·
  try simp only [BB] at h1
  refine tc_skip (tq_then (tc_seq (tc_region ?_)))
  refine runL_bsl 5 0 #[] 9 (fun b1 => ?_)
  refine runL_b [0] [(5, Sl (At b1 0) 0 0), (6, Sl a_l l.length c_l)] ?_
  refine runL_app0 7 9 0 (TRow.of_lit (E := ES) (b := b1) [] [] trivial (by simp)) h_l (fun a1 c1 r1 hr1 => ?_)
  refine runL_b [0] [(2, Sl a1 l.length c1)] (runL_nil (tq_then (tc_ret ?_)))
  refine tq_front 0 ?_
  have hf2 : l = l := by
   first | rfl | exact RS.isNil h_l h1
  refine tq_ret [0] [Sl a1 l.length c1] (bp_rows [r1] (.cons_cons _ .slnil) (Mem.le_refl _) ?_)
  rw [hf2]
  try dsimp only
  exact ⟨a1, c1, r1, rfl, hr1, rfl⟩
theorem sidxF_ES (G : Mem) (a_l : Option Addr) (c_l : Nat) (l : List (List UInt8)) (h_l : RS ES G a_l c_l l) (k_f : FuncId) (caps_f : Array Value) (p_f : (List UInt8) → Bool) (hk_f : isFn Tryz.prog k_f) (h_f : ∀ (x0 : (List UInt8)) (hx0 : (x0).length ≤ 140737488351232), Con Tryz.prog k_f (#[Sr x0] ++ caps_f) G [] (fun u _ _ => u = Bo (p_f x0)))  : Con Tryz.prog 171 #[Sl a_l l.length c_l, .func (.func k_f) #[] caps_f] G [] (fun u G' L' => u = I (idxF p_f l)) := by
 refine con_of Tryz.func171 19 [(0, Sl a_l l.length c_l), (1, .func (.func k_f) #[] caps_f)] rfl (fun w0 G0 => ?_)
 refine tc_rb [0] [(0, Sl a_l l.length c_l), (1, .func (.func k_f) #[] caps_f)] (tc_seq ?_)
 refine tc_rb [0,0,0] [(0, Sl a_l l.length c_l), (1, .func (.func k_f) #[] caps_f), (7, I (l.length : Int)), (8, I 0)] (tc_block ?_)
 have hlm_h_l : l.length ≤ 9223372036854775807 := Nat.le_trans (h_l).le (h_l).max
 refine tc_loop (σ := Nat) (fun q_ => (q_ ≤ l.length) ∧ ((l.take q_).any p_f = false)) (fun q_ => [(0, Sl a_l l.length c_l), (1, .func (.func k_f) #[] caps_f), (7, I (l.length : Int)), (8, I (q_ : Int))]) (fun q_ => G) (fun q_ => []) (fun q_ => l.length - q_) 0 ⟨(by (try dsimp only); first | exact Nat.zero_le _ | omega | simp), (by (try dsimp only); simp)⟩ (fun q_ hs => ?_)
 revert hs; revert q_; intro i hs
 obtain ⟨hi, hn⟩ := hs
 refine tc_eq (fr' := [(0, Sl a_l l.length c_l), (1, .func (.func k_f) #[] caps_f), (7, I (l.length : Int)), (8, I (i : Int))]) (L' := []) rfl rfl ?_
 refine tc_rb [0] [(0, Sl a_l l.length c_l), (1, .func (.func k_f) #[] caps_f), (7, I (l.length : Int)), (8, I (i : Int)), (9, Bo (decide ((i : Int) < (l.length : Int))))] (tc_seq ?_)
 refine tc_cond (decide ((i : Int) < (l.length : Int))) (fun h1 => ?_) (fun h1 => ?_)
 ·
  try simp only [BB] at h1
  refine tc_skip (tq_then (tc_seq (tc_block ?_)))
  refine tc_rb [0,0] [(0, Sl a_l l.length c_l), (1, .func (.func k_f) #[] caps_f), (5, I (i : Int)), (7, I (l.length : Int)), (8, I (i : Int))] (tc_seq (tc_region ?_))
  refine runL_b [0,0,0] [(0, Sl a_l l.length c_l), (1, .func (.func k_f) #[] caps_f), (5, I (i : Int)), (7, I (l.length : Int)), (8, I (i : Int)), (11, .func (.func k_f) #[] caps_f), (12, Sl a_l l.length c_l), (13, I (i : Int))] ?_
  obtain ⟨b1, o1, rfl⟩ := RS.addr h_l (k := i) (by omega)
  obtain ⟨x1, hx1⟩ := getX (l := l) (k := i) (by omega)
  obtain ⟨_, ⟨rfl, w1⟩, hc1⟩ := RS.get h_l hx1
  refine runL_idx (b := b1) (off := o1) (len := l.length) (cap := c_l) (ik := .i64) 14 9 1 i (by omega) ?_
  refine runL_ldG 15 9 (cs := [Sr x1]) 0 (Sr x1) hc1 ?_
  refine runL_callF (k := k_f) (caps := caps_f) (args := #[Sr x1]) 16 (Bo (p_f x1)) hk_f (h_f x1 w1) ?_
  refine runL_nil (tq_then ?_)
  refine tc_cond (p_f x1) (fun h2 => ?_) (fun h2 => ?_)
  ·
   try simp only [BB] at h2
   refine tc_rb [0,0] [(4, I (i : Int))] (tc_ret (tq_block_ret (tq_then_ret (tq_rnd_ret (tq_block_ret (tq_then_ret ?_))))))
   refine tq_ret [0] [I (i : Int)] (bp_ret (Mem.le_refl _) ?_)
   have hf_ : (idxF p_f l) = (i : Int) := by
    first | exact idxF_some hx1 (by simpa using h2) hn | exact idxF_none (by rw [List.take_of_length_le (by omega)] at hn; exact hn)
   (try rw [hf_]); first | with_reducible rfl | (simp only [packR]; done) | rfl
  ·
   try simp only [BB] at h2
   refine tc_skip (tq_block (tq_then (tc_region ?_)))
   refine runL_b [0,0] [(0, Sl (At b1 o1) l.length c_l), (1, .func (.func k_f) #[] caps_f), (7, I (l.length : Int)), (8, I (IntKind.i64.wrap ((i : Int) + 1)))] ?_
   have e1 : IntKind.i64.wrap ((i : Int) + 1) = (i : Int) + 1 := IntWalk.i64_in _ (by omega)
   refine runL_eq (fr' := [(0, Sl (At b1 o1) l.length c_l), (1, .func (.func k_f) #[] caps_f), (7, I (l.length : Int)), (8, I ((i : Int) + 1))]) (L' := []) (by simp only [e1]) (by rfl) ?_
   clear e1
   refine runL_nil ?_
   exact tq_rnd (i + 1) ⟨(by omega), (any_take hx1 (by simpa using h2) hn)⟩ (by (try dsimp only); omega)
 ·
  try simp only [BB] at h1
  refine tc_exit (tq_then_exit (tq_rnd_exit (tq_block_here (tq_then ?_))))
  refine tc_rb [0] [(4, I (-1))] (tc_ret ?_)
  refine tq_ret [0] [I (-1)] (bp_ret (Mem.le_refl _) ?_)
  have hf_ : (idxF p_f l) = (-1) := by
   first | exact idxF_some hx1 (by simpa using h2) hn | exact idxF_none (by rw [List.take_of_length_le (by omega)] at hn; exact hn)
  (try rw [hf_]); first | with_reducible rfl | (simp only [packR]; done) | rfl
theorem sany_ES (G : Mem) (a_l : Option Addr) (c_l : Nat) (l : List (List UInt8)) (h_l : RS ES G a_l c_l l) (k_f : FuncId) (caps_f : Array Value) (p_f : (List UInt8) → Bool) (hk_f : isFn Tryz.prog k_f) (h_f : ∀ (x0 : (List UInt8)) (hx0 : (x0).length ≤ 140737488351232), Con Tryz.prog k_f (#[Sr x0] ++ caps_f) G [] (fun u _ _ => u = Bo (p_f x0)))  : Con Tryz.prog 128 #[Sl a_l l.length c_l, .func (.func k_f) #[] caps_f] G [] (fun u G' L' => u = Bo (l.any p_f)) := by
 refine con_of Tryz.func128 9 [(0, Sl a_l l.length c_l), (1, .func (.func k_f) #[] caps_f)] rfl (fun w0 G0 => ?_)
 refine tc_rb [0] [(0, Sl a_l l.length c_l), (1, .func (.func k_f) #[] caps_f)] (tc_seq (tc_region ?_))
 refine runL_b [0,0] [(5, Sl a_l l.length c_l), (6, .func (.func k_f) #[] caps_f)] ?_
 refine runL_callV 7 (I (idxF p_f l)) (sidxF_ES G a_l c_l l h_l k_f caps_f p_f hk_f h_f) ?_
 refine runL_b [0,0] [(4, Bo (decide (idxF p_f l ≥ 0)))] (runL_nil (tq_then (tc_ret ?_)))
 refine tq_ret [0] [Bo (decide (idxF p_f l ≥ 0))] (bp_ret (Mem.le_refl _) ?_)
 have hf_ : (l.any p_f) = (decide (idxF p_f l ≥ 0)) := by
  rw [idxF_any]
 (try rw [hf_]); first | with_reducible rfl | (simp only [packR]; done) | rfl
theorem sidx_ES (G : Mem) (a_l : Option Addr) (c_l : Nat) (l : List (List UInt8)) (h_l : RS ES G a_l c_l l) (v : List UInt8)  : Con Tryz.prog 74 #[Sl a_l l.length c_l, Sr v] G [] (fun u G' L' => u = I (idxF (fun x => decide (v = x)) l)) := by
 refine con_of Tryz.func74 19 [(0, Sl a_l l.length c_l), (1, Sr v)] rfl (fun w0 G0 => ?_)
 refine tc_rb [0] [(0, Sl a_l l.length c_l), (1, Sr v)] (tc_seq ?_)
 refine tc_rb [0,0,0] [(0, Sl a_l l.length c_l), (1, Sr v), (7, I (l.length : Int)), (8, I 0)] (tc_block ?_)
 have hlm_h_l : l.length ≤ 9223372036854775807 := Nat.le_trans (h_l).le (h_l).max
 refine tc_loop (σ := Nat) (fun q_ => (q_ ≤ l.length) ∧ ((l.take q_).any (fun x => decide (v = x)) = false)) (fun q_ => [(0, Sl a_l l.length c_l), (1, Sr v), (7, I (l.length : Int)), (8, I (q_ : Int))]) (fun q_ => G) (fun q_ => []) (fun q_ => l.length - q_) 0 ⟨(by (try dsimp only); first | exact Nat.zero_le _ | omega | simp), (by (try dsimp only); simp)⟩ (fun q_ hs => ?_)
 revert hs; revert q_; intro i hs
 obtain ⟨hi, hn⟩ := hs
 refine tc_eq (fr' := [(0, Sl a_l l.length c_l), (1, Sr v), (7, I (l.length : Int)), (8, I (i : Int))]) (L' := []) rfl rfl ?_
 refine tc_rb [0] [(0, Sl a_l l.length c_l), (1, Sr v), (7, I (l.length : Int)), (8, I (i : Int)), (9, Bo (decide ((i : Int) < (l.length : Int))))] (tc_seq ?_)
 refine tc_cond (decide ((i : Int) < (l.length : Int))) (fun h1 => ?_) (fun h1 => ?_)
 ·
  try simp only [BB] at h1
  refine tc_skip (tq_then (tc_seq (tc_block ?_)))
  refine tc_rb [0,0] [(0, Sl a_l l.length c_l), (1, Sr v), (5, I (i : Int)), (7, I (l.length : Int)), (8, I (i : Int))] (tc_seq (tc_region ?_))
  refine runL_b [0,0,0] [(0, Sl a_l l.length c_l), (1, Sr v), (5, I (i : Int)), (7, I (l.length : Int)), (8, I (i : Int)), (11, Sr v), (12, Sl a_l l.length c_l), (13, I (i : Int))] ?_
  obtain ⟨b1, o1, rfl⟩ := RS.addr h_l (k := i) (by omega)
  obtain ⟨x1, hx1⟩ := getX (l := l) (k := i) (by omega)
  obtain ⟨_, ⟨rfl, w1⟩, hc1⟩ := RS.get h_l hx1
  refine runL_idx (b := b1) (off := o1) (len := l.length) (cap := c_l) (ik := .i64) 14 9 1 i (by omega) ?_
  refine runL_ldG 15 9 (cs := [Sr x1]) 0 (Sr x1) hc1 ?_
  refine runL_b [0] [(0, Sl (At b1 o1) l.length c_l), (1, Sr v), (5, I (i : Int)), (7, I (l.length : Int)), (8, I (i : Int)), (16, Bo ((B v).toList == (B x1).toList))] ?_
  refine runL_eq (fr' := [(0, Sl (At b1 o1) l.length c_l), (1, Sr v), (5, I (i : Int)), (7, I (l.length : Int)), (8, I (i : Int)), (16, Bo (v == x1))]) (L' := []) (by simp only [B_toList]) (by rfl) ?_
  refine runL_nil (tq_then ?_)
  refine tc_cond (v == x1) (fun h2 => ?_) (fun h2 => ?_)
  ·
   try simp only [BB] at h2
   refine tc_rb [0,0] [(4, I (i : Int))] (tc_ret (tq_block_ret (tq_then_ret (tq_rnd_ret (tq_block_ret (tq_then_ret ?_))))))
   refine tq_ret [0] [I (i : Int)] (bp_ret (Mem.le_refl _) ?_)
   have hf_ : (idxF (fun x => decide (v = x)) l) = (i : Int) := by
    first | exact idxF_some hx1 (decide_eq_true (by simpa using h2)) hn | exact idxF_none (by rw [List.take_of_length_le (by omega)] at hn; exact hn)
   (try rw [hf_]); first | with_reducible rfl | (simp only [packR]; done) | rfl
  ·
   try simp only [BB] at h2
   refine tc_skip (tq_block (tq_then (tc_region ?_)))
   refine runL_b [0,0] [(0, Sl (At b1 o1) l.length c_l), (1, Sr v), (7, I (l.length : Int)), (8, I (IntKind.i64.wrap ((i : Int) + 1)))] ?_
   have e1 : IntKind.i64.wrap ((i : Int) + 1) = (i : Int) + 1 := IntWalk.i64_in _ (by omega)
   refine runL_eq (fr' := [(0, Sl (At b1 o1) l.length c_l), (1, Sr v), (7, I (l.length : Int)), (8, I ((i : Int) + 1))]) (L' := []) (by simp only [e1]) (by rfl) ?_
   clear e1
   refine runL_nil ?_
   exact tq_rnd (i + 1) ⟨(by omega), (any_take hx1 (decide_eq_false (by simpa using h2)) hn)⟩ (by (try dsimp only); omega)
 ·
  try simp only [BB] at h1
  refine tc_exit (tq_then_exit (tq_rnd_exit (tq_block_here (tq_then ?_))))
  refine tc_rb [0] [(4, I (-1))] (tc_ret ?_)
  refine tq_ret [0] [I (-1)] (bp_ret (Mem.le_refl _) ?_)
  have hf_ : (idxF (fun x => decide (v = x)) l) = (-1) := by
   first | exact idxF_some hx1 (decide_eq_true (by simpa using h2)) hn | exact idxF_none (by rw [List.take_of_length_le (by omega)] at hn; exact hn)
  (try rw [hf_]); first | with_reducible rfl | (simp only [packR]; done) | rfl
theorem shas_ES (G : Mem) (a_l : Option Addr) (c_l : Nat) (l : List (List UInt8)) (h_l : RS ES G a_l c_l l) (v : List UInt8)  : Con Tryz.prog 34 #[Sl a_l l.length c_l, Sr v] G [] (fun u G' L' => u = Bo (l.any (fun x => decide (v = x)))) := by
 refine con_of Tryz.func34 9 [(0, Sl a_l l.length c_l), (1, Sr v)] rfl (fun w0 G0 => ?_)
 refine tc_rb [0] [(0, Sl a_l l.length c_l), (1, Sr v)] (tc_seq (tc_region ?_))
 refine runL_b [0,0] [(5, Sl a_l l.length c_l), (6, Sr v)] ?_
 refine runL_callV 7 (I (idxF (fun x => decide (v = x)) l)) (sidx_ES G a_l c_l l h_l v) ?_
 refine runL_b [0,0] [(4, Bo (decide (idxF (fun x => decide (v = x)) l ≥ 0)))] (runL_nil (tq_then (tc_ret ?_)))
 refine tq_ret [0] [Bo (decide (idxF (fun x => decide (v = x)) l ≥ 0))] (bp_ret (Mem.le_refl _) ?_)
 have hf_ : (l.any (fun x => decide (v = x))) = (decide (idxF (fun x => decide (v = x)) l ≥ 0)) := by
  rw [idxF_any]
 (try rw [hf_]); first | with_reducible rfl | (simp only [packR]; done) | rfl
theorem sidxF_EErr (G : Mem) (a_l : Option Addr) (c_l : Nat) (l : List Int) (h_l : RS EErr G a_l c_l l) (k_f : FuncId) (caps_f : Array Value) (p_f : Int → Bool) (hk_f : isFn Tryz.prog k_f) (h_f : ∀ (x0 : Int), Con Tryz.prog k_f (#[I x0] ++ caps_f) G [] (fun u _ _ => u = Bo (p_f x0)))  : Con Tryz.prog 95 #[Sl a_l l.length c_l, .func (.func k_f) #[] caps_f] G [] (fun u G' L' => u = I (idxF p_f l)) := by
 refine con_of Tryz.func95 19 [(0, Sl a_l l.length c_l), (1, .func (.func k_f) #[] caps_f)] rfl (fun w0 G0 => ?_)
 refine tc_rb [0] [(0, Sl a_l l.length c_l), (1, .func (.func k_f) #[] caps_f)] (tc_seq ?_)
 refine tc_rb [0,0,0] [(0, Sl a_l l.length c_l), (1, .func (.func k_f) #[] caps_f), (7, I (l.length : Int)), (8, I 0)] (tc_block ?_)
 have hlm_h_l : l.length ≤ 9223372036854775807 := Nat.le_trans (h_l).le (h_l).max
 refine tc_loop (σ := Nat) (fun q_ => (q_ ≤ l.length) ∧ ((l.take q_).any p_f = false)) (fun q_ => [(0, Sl a_l l.length c_l), (1, .func (.func k_f) #[] caps_f), (7, I (l.length : Int)), (8, I (q_ : Int))]) (fun q_ => G) (fun q_ => []) (fun q_ => l.length - q_) 0 ⟨(by (try dsimp only); first | exact Nat.zero_le _ | omega | simp), (by (try dsimp only); simp)⟩ (fun q_ hs => ?_)
 revert hs; revert q_; intro i hs
 obtain ⟨hi, hn⟩ := hs
 refine tc_eq (fr' := [(0, Sl a_l l.length c_l), (1, .func (.func k_f) #[] caps_f), (7, I (l.length : Int)), (8, I (i : Int))]) (L' := []) rfl rfl ?_
 refine tc_rb [0] [(0, Sl a_l l.length c_l), (1, .func (.func k_f) #[] caps_f), (7, I (l.length : Int)), (8, I (i : Int)), (9, Bo (decide ((i : Int) < (l.length : Int))))] (tc_seq ?_)
 refine tc_cond (decide ((i : Int) < (l.length : Int))) (fun h1 => ?_) (fun h1 => ?_)
 ·
  try simp only [BB] at h1
  refine tc_skip (tq_then (tc_seq (tc_block ?_)))
  refine tc_rb [0,0] [(0, Sl a_l l.length c_l), (1, .func (.func k_f) #[] caps_f), (5, I (i : Int)), (7, I (l.length : Int)), (8, I (i : Int))] (tc_seq (tc_region ?_))
  refine runL_b [0,0,0] [(0, Sl a_l l.length c_l), (1, .func (.func k_f) #[] caps_f), (5, I (i : Int)), (7, I (l.length : Int)), (8, I (i : Int)), (11, .func (.func k_f) #[] caps_f), (12, Sl a_l l.length c_l), (13, I (i : Int))] ?_
  obtain ⟨b1, o1, rfl⟩ := RS.addr h_l (k := i) (by omega)
  obtain ⟨x1, hx1⟩ := getX (l := l) (k := i) (by omega)
  obtain ⟨_, rfl, hc1⟩ := RS.get h_l hx1
  refine runL_idx (b := b1) (off := o1) (len := l.length) (cap := c_l) (ik := .i64) 14 39 1 i (by omega) ?_
  refine runL_ldG 15 39 (cs := [I x1]) 0 (I x1) hc1 ?_
  refine runL_callF (k := k_f) (caps := caps_f) (args := #[I x1]) 16 (Bo (p_f x1)) hk_f (h_f x1) ?_
  refine runL_nil (tq_then ?_)
  refine tc_cond (p_f x1) (fun h2 => ?_) (fun h2 => ?_)
  ·
   try simp only [BB] at h2
   refine tc_rb [0,0] [(4, I (i : Int))] (tc_ret (tq_block_ret (tq_then_ret (tq_rnd_ret (tq_block_ret (tq_then_ret ?_))))))
   refine tq_ret [0] [I (i : Int)] (bp_ret (Mem.le_refl _) ?_)
   have hf_ : (idxF p_f l) = (i : Int) := by
    first | exact idxF_some hx1 (by simpa using h2) hn | exact idxF_none (by rw [List.take_of_length_le (by omega)] at hn; exact hn)
   (try rw [hf_]); first | with_reducible rfl | (simp only [packR]; done) | rfl
  ·
   try simp only [BB] at h2
   refine tc_skip (tq_block (tq_then (tc_region ?_)))
   refine runL_b [0,0] [(0, Sl (At b1 o1) l.length c_l), (1, .func (.func k_f) #[] caps_f), (7, I (l.length : Int)), (8, I (IntKind.i64.wrap ((i : Int) + 1)))] ?_
   have e1 : IntKind.i64.wrap ((i : Int) + 1) = (i : Int) + 1 := IntWalk.i64_in _ (by omega)
   refine runL_eq (fr' := [(0, Sl (At b1 o1) l.length c_l), (1, .func (.func k_f) #[] caps_f), (7, I (l.length : Int)), (8, I ((i : Int) + 1))]) (L' := []) (by simp only [e1]) (by rfl) ?_
   clear e1
   refine runL_nil ?_
   exact tq_rnd (i + 1) ⟨(by omega), (any_take hx1 (by simpa using h2) hn)⟩ (by (try dsimp only); omega)
 ·
  try simp only [BB] at h1
  refine tc_exit (tq_then_exit (tq_rnd_exit (tq_block_here (tq_then ?_))))
  refine tc_rb [0] [(4, I (-1))] (tc_ret ?_)
  refine tq_ret [0] [I (-1)] (bp_ret (Mem.le_refl _) ?_)
  have hf_ : (idxF p_f l) = (-1) := by
   first | exact idxF_some hx1 (by simpa using h2) hn | exact idxF_none (by rw [List.take_of_length_le (by omega)] at hn; exact hn)
  (try rw [hf_]); first | with_reducible rfl | (simp only [packR]; done) | rfl
theorem sany_EErr (G : Mem) (a_l : Option Addr) (c_l : Nat) (l : List Int) (h_l : RS EErr G a_l c_l l) (k_f : FuncId) (caps_f : Array Value) (p_f : Int → Bool) (hk_f : isFn Tryz.prog k_f) (h_f : ∀ (x0 : Int), Con Tryz.prog k_f (#[I x0] ++ caps_f) G [] (fun u _ _ => u = Bo (p_f x0)))  : Con Tryz.prog 52 #[Sl a_l l.length c_l, .func (.func k_f) #[] caps_f] G [] (fun u G' L' => u = Bo (l.any p_f)) := by
 refine con_of Tryz.func52 9 [(0, Sl a_l l.length c_l), (1, .func (.func k_f) #[] caps_f)] rfl (fun w0 G0 => ?_)
 refine tc_rb [0] [(0, Sl a_l l.length c_l), (1, .func (.func k_f) #[] caps_f)] (tc_seq (tc_region ?_))
 refine runL_b [0,0] [(5, Sl a_l l.length c_l), (6, .func (.func k_f) #[] caps_f)] ?_
 refine runL_callV 7 (I (idxF p_f l)) (sidxF_EErr G a_l c_l l h_l k_f caps_f p_f hk_f h_f) ?_
 refine runL_b [0,0] [(4, Bo (decide (idxF p_f l ≥ 0)))] (runL_nil (tq_then (tc_ret ?_)))
 refine tq_ret [0] [Bo (decide (idxF p_f l ≥ 0))] (bp_ret (Mem.le_refl _) ?_)
 have hf_ : (l.any p_f) = (decide (idxF p_f l ≥ 0)) := by
  rw [idxF_any]
 (try rw [hf_]); first | with_reducible rfl | (simp only [packR]; done) | rfl
theorem sidxF_EU (G : Mem) (a_l : Option Addr) (c_l : Nat) (l : List Int) (h_l : RS EU G a_l c_l l) (k_f : FuncId) (caps_f : Array Value) (p_f : Int → Bool) (hk_f : isFn Tryz.prog k_f) (h_f : ∀ (x0 : Int) (hx0 : 0 ≤ x0 ∧ x0 < 18446744073709551616), Con Tryz.prog k_f (#[U x0] ++ caps_f) G [] (fun u _ _ => u = Bo (p_f x0)))  : Con Tryz.prog 185 #[Sl a_l l.length c_l, .func (.func k_f) #[] caps_f] G [] (fun u G' L' => u = I (idxF p_f l)) := by
 refine con_of Tryz.func185 19 [(0, Sl a_l l.length c_l), (1, .func (.func k_f) #[] caps_f)] rfl (fun w0 G0 => ?_)
 refine tc_rb [0] [(0, Sl a_l l.length c_l), (1, .func (.func k_f) #[] caps_f)] (tc_seq ?_)
 refine tc_rb [0,0,0] [(0, Sl a_l l.length c_l), (1, .func (.func k_f) #[] caps_f), (7, I (l.length : Int)), (8, I 0)] (tc_block ?_)
 have hlm_h_l : l.length ≤ 9223372036854775807 := Nat.le_trans (h_l).le (h_l).max
 refine tc_loop (σ := Nat) (fun q_ => (q_ ≤ l.length) ∧ ((l.take q_).any p_f = false)) (fun q_ => [(0, Sl a_l l.length c_l), (1, .func (.func k_f) #[] caps_f), (7, I (l.length : Int)), (8, I (q_ : Int))]) (fun q_ => G) (fun q_ => []) (fun q_ => l.length - q_) 0 ⟨(by (try dsimp only); first | exact Nat.zero_le _ | omega | simp), (by (try dsimp only); simp)⟩ (fun q_ hs => ?_)
 revert hs; revert q_; intro i hs
 obtain ⟨hi, hn⟩ := hs
 refine tc_eq (fr' := [(0, Sl a_l l.length c_l), (1, .func (.func k_f) #[] caps_f), (7, I (l.length : Int)), (8, I (i : Int))]) (L' := []) rfl rfl ?_
 refine tc_rb [0] [(0, Sl a_l l.length c_l), (1, .func (.func k_f) #[] caps_f), (7, I (l.length : Int)), (8, I (i : Int)), (9, Bo (decide ((i : Int) < (l.length : Int))))] (tc_seq ?_)
 refine tc_cond (decide ((i : Int) < (l.length : Int))) (fun h1 => ?_) (fun h1 => ?_)
 ·
  try simp only [BB] at h1
  refine tc_skip (tq_then (tc_seq (tc_block ?_)))
  refine tc_rb [0,0] [(0, Sl a_l l.length c_l), (1, .func (.func k_f) #[] caps_f), (5, I (i : Int)), (7, I (l.length : Int)), (8, I (i : Int))] (tc_seq (tc_region ?_))
  refine runL_b [0,0,0] [(0, Sl a_l l.length c_l), (1, .func (.func k_f) #[] caps_f), (5, I (i : Int)), (7, I (l.length : Int)), (8, I (i : Int)), (11, .func (.func k_f) #[] caps_f), (12, Sl a_l l.length c_l), (13, I (i : Int))] ?_
  obtain ⟨b1, o1, rfl⟩ := RS.addr h_l (k := i) (by omega)
  obtain ⟨x1, hx1⟩ := getX (l := l) (k := i) (by omega)
  obtain ⟨_, ⟨rfl, w1⟩, hc1⟩ := RS.get h_l hx1
  refine runL_idx (b := b1) (off := o1) (len := l.length) (cap := c_l) (ik := .i64) 14 30 1 i (by omega) ?_
  refine runL_ldG 15 30 (cs := [U x1]) 0 (U x1) hc1 ?_
  refine runL_callF (k := k_f) (caps := caps_f) (args := #[U x1]) 16 (Bo (p_f x1)) hk_f (h_f x1 w1) ?_
  refine runL_nil (tq_then ?_)
  refine tc_cond (p_f x1) (fun h2 => ?_) (fun h2 => ?_)
  ·
   try simp only [BB] at h2
   refine tc_rb [0,0] [(4, I (i : Int))] (tc_ret (tq_block_ret (tq_then_ret (tq_rnd_ret (tq_block_ret (tq_then_ret ?_))))))
   refine tq_ret [0] [I (i : Int)] (bp_ret (Mem.le_refl _) ?_)
   have hf_ : (idxF p_f l) = (i : Int) := by
    first | exact idxF_some hx1 (by simpa using h2) hn | exact idxF_none (by rw [List.take_of_length_le (by omega)] at hn; exact hn)
   (try rw [hf_]); first | with_reducible rfl | (simp only [packR]; done) | rfl
  ·
   try simp only [BB] at h2
   refine tc_skip (tq_block (tq_then (tc_region ?_)))
   refine runL_b [0,0] [(0, Sl (At b1 o1) l.length c_l), (1, .func (.func k_f) #[] caps_f), (7, I (l.length : Int)), (8, I (IntKind.i64.wrap ((i : Int) + 1)))] ?_
   have e1 : IntKind.i64.wrap ((i : Int) + 1) = (i : Int) + 1 := IntWalk.i64_in _ (by omega)
   refine runL_eq (fr' := [(0, Sl (At b1 o1) l.length c_l), (1, .func (.func k_f) #[] caps_f), (7, I (l.length : Int)), (8, I ((i : Int) + 1))]) (L' := []) (by simp only [e1]) (by rfl) ?_
   clear e1
   refine runL_nil ?_
   exact tq_rnd (i + 1) ⟨(by omega), (any_take hx1 (by simpa using h2) hn)⟩ (by (try dsimp only); omega)
 ·
  try simp only [BB] at h1
  refine tc_exit (tq_then_exit (tq_rnd_exit (tq_block_here (tq_then ?_))))
  refine tc_rb [0] [(4, I (-1))] (tc_ret ?_)
  refine tq_ret [0] [I (-1)] (bp_ret (Mem.le_refl _) ?_)
  have hf_ : (idxF p_f l) = (-1) := by
   first | exact idxF_some hx1 (by simpa using h2) hn | exact idxF_none (by rw [List.take_of_length_le (by omega)] at hn; exact hn)
  (try rw [hf_]); first | with_reducible rfl | (simp only [packR]; done) | rfl
theorem sany_EU (G : Mem) (a_l : Option Addr) (c_l : Nat) (l : List Int) (h_l : RS EU G a_l c_l l) (k_f : FuncId) (caps_f : Array Value) (p_f : Int → Bool) (hk_f : isFn Tryz.prog k_f) (h_f : ∀ (x0 : Int) (hx0 : 0 ≤ x0 ∧ x0 < 18446744073709551616), Con Tryz.prog k_f (#[U x0] ++ caps_f) G [] (fun u _ _ => u = Bo (p_f x0)))  : Con Tryz.prog 162 #[Sl a_l l.length c_l, .func (.func k_f) #[] caps_f] G [] (fun u G' L' => u = Bo (l.any p_f)) := by
 refine con_of Tryz.func162 9 [(0, Sl a_l l.length c_l), (1, .func (.func k_f) #[] caps_f)] rfl (fun w0 G0 => ?_)
 refine tc_rb [0] [(0, Sl a_l l.length c_l), (1, .func (.func k_f) #[] caps_f)] (tc_seq (tc_region ?_))
 refine runL_b [0,0] [(5, Sl a_l l.length c_l), (6, .func (.func k_f) #[] caps_f)] ?_
 refine runL_callV 7 (I (idxF p_f l)) (sidxF_EU G a_l c_l l h_l k_f caps_f p_f hk_f h_f) ?_
 refine runL_b [0,0] [(4, Bo (decide (idxF p_f l ≥ 0)))] (runL_nil (tq_then (tc_ret ?_)))
 refine tq_ret [0] [Bo (decide (idxF p_f l ≥ 0))] (bp_ret (Mem.le_refl _) ?_)
 have hf_ : (l.any p_f) = (decide (idxF p_f l ≥ 0)) := by
  rw [idxF_any]
 (try rw [hf_]); first | with_reducible rfl | (simp only [packR]; done) | rfl
theorem good1_con (G : Mem) (e : Int)  : Con Tryz.prog 53 #[I e] G [] (fun u G' L' => u = Bo (!decide (e = 0))) := by
 refine con_of Tryz.func53 5 [(0, I e)] rfl (fun w0 G0 => ?_)
 refine tc_rb [0] [(0, I e)] ?_
 refine tc_rb [0,0,0] [(2, Bo (!decide (e = 0)))] (tc_ret ?_)
 refine tq_ret [0] [Bo (!decide (e = 0))] (bp_ret (Mem.le_refl _) ?_)
 have hf_ : (!decide (e = 0)) = (!decide (e = 0)) := by
  rfl
 (try rw [hf_]); first | with_reducible rfl | (simp only [packR]; done) | rfl
theorem good_con (G : Mem) (a_l : Option Addr) (c_l : Nat) (l : List Int) (h_l : RS EErr G a_l c_l l)  : Con Tryz.prog 17 #[Sl a_l l.length c_l] G [] (fun u G' L' => u = Bo (!(l.any fun x0 => !decide (x0 = 0)))) := by
 refine con_of Tryz.func17 6 [(0, Sl a_l l.length c_l)] rfl (fun w0 G0 => ?_)
 refine tc_rb [0] [(0, Sl a_l l.length c_l)] (tc_seq (tc_region ?_))
 refine runL_b [0] [(3, Sl a_l l.length c_l)] ?_
 refine runL_callV 4 (Bo (l.any (fun x0 => !decide (x0 = 0)))) (sany_EErr G a_l c_l l h_l 53 #[] (fun x0 => !decide (x0 = 0)) (fun _ _ => by kernel_rfl) (fun x0 => good1_con G x0)) ?_
 refine runL_b [0,0] [(2, Bo (!(l.any (fun x0 => !decide (x0 = 0)))))] (runL_nil (tq_then (tc_ret ?_)))
 refine tq_ret [0] [Bo (!(l.any (fun x0 => !decide (x0 = 0))))] (bp_ret (Mem.le_refl _) ?_)
 have hf_ : (!(l.any fun x0 => !decide (x0 = 0))) = (!(l.any (fun x0 => !decide (x0 = 0)))) := by
  rfl
 (try rw [hf_]); first | with_reducible rfl | (simp only [packR]; done) | rfl
end Go.Proofs.YtmpakffajpnffaaGreatDoor
