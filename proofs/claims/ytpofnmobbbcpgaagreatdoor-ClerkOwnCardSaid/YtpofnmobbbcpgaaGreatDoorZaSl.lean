import Derived.Test.YtpofnmobbbcpgaaGreatDoorZaTy
namespace Go.Proofs.YtpofnmobbbcpgaaGreatDoor
open Go.Tx
set_option linter.unusedVariables false
set_option linter.unusedSimpArgs false
theorem takeEq_step {α : Type} {a b : List α} {i : Nat} {x y : α} (h : a.take i = b.take i) (hx : a[i]? = some x) (hy : b[i]? = some y) (e : x = y) : a.take (i + 1) = b.take (i + 1) := by
  rw [List.take_add_one, List.take_add_one, h, hx, hy, e]
theorem ne_at {α : Type} {a b : List α} {i : Nat} {x y : α} (hx : a[i]? = some x) (hy : b[i]? = some y) (e : ¬ x = y) : ¬ a = b := by
  intro h; rw [h, hy] at hx; exact e (Option.some.inj hx).symm
theorem takeEq_all {α : Type} {a b : List α} {i : Nat} (hl : a.length = b.length) (hi : a.length ≤ i) (h : a.take i = b.take i) : a = b := by
  rwa [List.take_of_length_le hi, List.take_of_length_le (by omega)] at h
theorem EntD_ne {x y : EntD} : x = y ↔ x.name = y.name ∧ x.value = y.value := by cases x; cases y; simp
theorem AskD_ne {x y : AskD} : x = y ↔ x.name = y.name ∧ x.value = y.value ∧ x.n = y.n ∧ x.tag = y.tag := by cases x; cases y; simp
theorem HeadD_ne {x y : HeadD} : x = y ↔ x.epoch = y.epoch ∧ x.root = y.root ∧ x.prev = y.prev ∧ x.at_ = y.at_ := by cases x; cases y; simp
theorem idxF_ge {α : Type} {p : α → Bool} {l : List α} {i : Nat} (h : idxF p l = (i : Int)) : ∃ x, l[i]? = some x ∧ p x = true := by
  unfold idxF at h
  cases hh : l.findIdx? p with
  | none => rw [hh] at h; simp at h
  | some k =>
    rw [hh] at h
    have : k = i := by simp at h; omega
    subst this
    rw [List.findIdx?_eq_some_iff_getElem] at hh
    obtain ⟨h1, h2, _⟩ := hh
    exact ⟨l[k], List.getElem?_eq_getElem h1, h2⟩
theorem sclone_EEnt (G : Mem) (a_l : Option Addr) (c_l : Nat) (l : List EntD) (h_l : RS EEnt G a_l c_l l)  : ConP 28 #[Sl a_l l.length c_l] G [] (fun u G' L' => ∃ (a1 : Option Addr) (c2 : Nat) (r3 : List Seg), u = Sl a1 l.length c2 ∧ (TRow EEnt G' a1 c2 l r3) ∧ L' = [r3]) := by
 refine con_of Tryz.func28 8 [(0, Sl a_l l.length c_l)] rfl (fun w0 G0 => ?_)
 refine tc_rbn [0] [] (tc_seq (tc_seq (tc_region ?_)))
 refine runL_bn [0] [(3, Sl a_l l.length c_l)] ?_
 refine runL_one 4 (Bo ((a_l).isNone)) (by intro w; cases a_l <;> kernel_rfl) ?_
 refine runL_nil (tq_then ?_)
 refine tc_condP ((a_l).isNone) (fun h1 => ?_) (fun h1 => ?_)
 ·
  refine tc_rbn [0] [(2, Sl none 0 0)] (tc_ret (tq_then_ret ?_))
  refine tq_empty ?_
  refine tq_front 0 ?_
  have hf1 : l = [] := by
   first | rfl | exact RS.isNil h_l h1
  refine tq_ret [0] [Sl none 0 0] (bp_rowsA [[]] (Mem.le_refl _) ?_)
  rw [hf1]
  try dsimp only
  exact ⟨none, 0, ([]), rfl, (TRow.none EEnt _), rfl⟩
 ·
  refine tc_skip (tq_then (tc_seq (tc_region ?_)))
  refine runL_bsl 5 0 #[] 58 (fun b1 => ?_)
  refine runL_bn [0] [(6, Sl a_l l.length c_l)] ?_
  refine runL_app0 7 58 0 (TRow.of_lit (E := EEnt) (b := b1) [] [] trivial (by simp)) h_l (fun a1 c1 r1 hr1 => ?_)
  refine runL_bn [0] [(2, Sl a1 l.length c1)] (runL_nil (tq_then (tc_ret ?_)))
  refine tq_front 0 ?_
  have hf2 : l = l := by
   first | rfl | exact RS.isNil h_l h1
  refine tq_ret [0] [Sl a1 l.length c1] (bp_rowsA [r1] (Mem.le_refl _) ?_)
  rw [hf2]
  try dsimp only
  exact ⟨a1, c1, r1, rfl, hr1, rfl⟩
theorem sidxF_EEnt (G : Mem) (a_l : Option Addr) (c_l : Nat) (l : List EntD) (h_l : RS EEnt G a_l c_l l) (k_f : FuncId) (caps_f : Array Value) (p_f : EntD → Bool) (hk_f : isFn Tryz.prog k_f) (h_f : ∀ (vs0 : List Value) (x0 : EntD) (hx0 : EEnt.R G vs0 x0), Con Tryz.prog k_f (#[.agg vs0.toArray] ++ caps_f) G [] (fun u _ _ => u = Bo (p_f x0)))  : ConV 122 #[Sl a_l l.length c_l, Fv k_f caps_f] G (I (idxF p_f l)) := by
 refine con_of Tryz.func122 19 [(0, Sl a_l l.length c_l), (1, Fv k_f caps_f)] rfl (fun w0 G0 => ?_)
 refine tc_rbn [0] [] (tc_seq ?_)
 refine tc_rbn [0,0,0] [(7, I (l.length : Int)), (8, I 0)] (tc_block ?_)
 have hlm_h_l : l.length ≤ 9223372036854775807 := Nat.le_trans (h_l).le (h_l).max
 refine tc_loop (σ := Nat) (fun q_ => (q_ ≤ l.length) ∧ ((l.take q_).any p_f = false)) (fun q_ => [(0, Sl a_l l.length c_l), (1, Fv k_f caps_f), (7, I (l.length : Int)), (8, I (q_ : Int))]) (fun q_ => G) (fun q_ => []) (fun q_ => l.length - q_) 0 ⟨(by (try dsimp only); first | exact Nat.zero_le _ | omega | simp), (by (try dsimp only); simp)⟩ (fun q_ hs => ?_)
 revert hs; revert q_; intro i hs
 obtain ⟨hi, hn⟩ := hs
 refine tc_eq (fr' := [(0, Sl a_l l.length c_l), (1, Fv k_f caps_f), (7, I (l.length : Int)), (8, I (i : Int))]) (L' := []) rfl rfl ?_
 refine tc_rbn [0] [(9, Bo (decide ((i : Int) < (l.length : Int))))] (tc_seq ?_)
 refine tc_condP (decide ((i : Int) < (l.length : Int))) (fun h1 => ?_) (fun h1 => ?_)
 ·
  refine tc_skip (tq_then (tc_seq (tc_block ?_)))
  refine tc_rbn [0,0] [(5, I (i : Int))] (tc_seq (tc_region ?_))
  refine runL_bn [0,0,0] [(11, Fv k_f caps_f), (12, Sl a_l l.length c_l), (13, I (i : Int))] ?_
  obtain ⟨b1, o1, rfl⟩ := RS.addr h_l (k := i) (by omega)
  obtain ⟨x1, hx1⟩ := getX (l := l) (k := i) (by omega)
  obtain ⟨_, ⟨rfl, w1, w2⟩, hc1⟩ := RS.get h_l hx1
  refine runL_idx (b := b1) (off := o1) (len := l.length) (cap := c_l) (ik := .i64) 14 58 2 i (by omega) ?_
  refine runL_ldG 15 58 (cs := [Sr x1.name, Sr x1.value]) 0 (.agg #[Sr x1.name, Sr x1.value]) hc1 ?_
  refine runL_callF (k := k_f) (caps := caps_f) (args := #[.agg #[Sr x1.name, Sr x1.value]]) 16 (Bo (p_f x1)) hk_f (h_f [Sr x1.name, Sr x1.value] x1 (⟨rfl, w1, w2⟩)) ?_
  refine runL_nil (tq_then ?_)
  refine tc_condP (p_f x1) (fun h2 => ?_) (fun h2 => ?_)
  ·
   refine tc_rbn [0,0] [(4, I (i : Int))] (tc_ret (tq_block_ret (tq_then_ret (tq_rnd_ret (tq_block_ret (tq_then_ret ?_))))))
   refine tq_ret [0] [I (i : Int)] (bp_ret (Mem.le_refl _) (congrArg I (?_ : (idxF p_f l) = (i : Int)).symm))
   first | exact idxF_some hx1 (by simpa using h2) hn | exact idxF_none (by rw [List.take_of_length_le (by omega)] at hn; exact hn)
  ·
   refine tc_skip (tq_block (tq_then (tc_region ?_)))
   refine runL_bn [0,0] [(8, I (IntKind.i64.wrap ((i : Int) + 1)))] ?_
   refine runL_wi64 8 ((i : Int) + 1) (by omega) ?_
   refine runL_nil ?_
   exact tq_rnd (i + 1) ⟨(by omega), (any_take hx1 (by simpa using h2) hn)⟩ (by (try dsimp only); omega)
 ·
  refine tc_exit (tq_then_exit (tq_rnd_exit (tq_block_here (tq_then ?_))))
  refine tc_rbn [0] [(4, I (-1))] (tc_ret ?_)
  refine tq_ret [0] [I (-1)] (bp_ret (Mem.le_refl _) (congrArg I (?_ : (idxF p_f l) = (-1)).symm))
  first | exact idxF_some hx1 (by simpa using h2) hn | exact idxF_none (by rw [List.take_of_length_le (by omega)] at hn; exact hn)
theorem sclone_EAsk (G : Mem) (a_l : Option Addr) (c_l : Nat) (l : List AskD) (h_l : RS EAsk G a_l c_l l)  : ConP 53 #[Sl a_l l.length c_l] G [] (fun u G' L' => ∃ (a1 : Option Addr) (c2 : Nat) (r3 : List Seg), u = Sl a1 l.length c2 ∧ (TRow EAsk G' a1 c2 l r3) ∧ L' = [r3]) := by
 refine con_of Tryz.func53 8 [(0, Sl a_l l.length c_l)] rfl (fun w0 G0 => ?_)
 refine tc_rbn [0] [] (tc_seq (tc_seq (tc_region ?_)))
 refine runL_bn [0] [(3, Sl a_l l.length c_l)] ?_
 refine runL_one 4 (Bo ((a_l).isNone)) (by intro w; cases a_l <;> kernel_rfl) ?_
 refine runL_nil (tq_then ?_)
 refine tc_condP ((a_l).isNone) (fun h1 => ?_) (fun h1 => ?_)
 ·
  refine tc_rbn [0] [(2, Sl none 0 0)] (tc_ret (tq_then_ret ?_))
  refine tq_empty ?_
  refine tq_front 0 ?_
  have hf1 : l = [] := by
   first | rfl | exact RS.isNil h_l h1
  refine tq_ret [0] [Sl none 0 0] (bp_rowsA [[]] (Mem.le_refl _) ?_)
  rw [hf1]
  try dsimp only
  exact ⟨none, 0, ([]), rfl, (TRow.none EAsk _), rfl⟩
 ·
  refine tc_skip (tq_then (tc_seq (tc_region ?_)))
  refine runL_bsl 5 0 #[] 47 (fun b1 => ?_)
  refine runL_bn [0] [(6, Sl a_l l.length c_l)] ?_
  refine runL_app0 7 47 0 (TRow.of_lit (E := EAsk) (b := b1) [] [] trivial (by simp)) h_l (fun a1 c1 r1 hr1 => ?_)
  refine runL_bn [0] [(2, Sl a1 l.length c1)] (runL_nil (tq_then (tc_ret ?_)))
  refine tq_front 0 ?_
  have hf2 : l = l := by
   first | rfl | exact RS.isNil h_l h1
  refine tq_ret [0] [Sl a1 l.length c1] (bp_rowsA [r1] (Mem.le_refl _) ?_)
  rw [hf2]
  try dsimp only
  exact ⟨a1, c1, r1, rfl, hr1, rfl⟩
theorem sclone_EHead (G : Mem) (a_l : Option Addr) (c_l : Nat) (l : List HeadD) (h_l : RS EHead G a_l c_l l)  : ConP 56 #[Sl a_l l.length c_l] G [] (fun u G' L' => ∃ (a1 : Option Addr) (c2 : Nat) (r3 : List Seg), u = Sl a1 l.length c2 ∧ (TRow EHead G' a1 c2 l r3) ∧ L' = [r3]) := by
 refine con_of Tryz.func56 8 [(0, Sl a_l l.length c_l)] rfl (fun w0 G0 => ?_)
 refine tc_rbn [0] [] (tc_seq (tc_seq (tc_region ?_)))
 refine runL_bn [0] [(3, Sl a_l l.length c_l)] ?_
 refine runL_one 4 (Bo ((a_l).isNone)) (by intro w; cases a_l <;> kernel_rfl) ?_
 refine runL_nil (tq_then ?_)
 refine tc_condP ((a_l).isNone) (fun h1 => ?_) (fun h1 => ?_)
 ·
  refine tc_rbn [0] [(2, Sl none 0 0)] (tc_ret (tq_then_ret ?_))
  refine tq_empty ?_
  refine tq_front 0 ?_
  have hf1 : l = [] := by
   first | rfl | exact RS.isNil h_l h1
  refine tq_ret [0] [Sl none 0 0] (bp_rowsA [[]] (Mem.le_refl _) ?_)
  rw [hf1]
  try dsimp only
  exact ⟨none, 0, ([]), rfl, (TRow.none EHead _), rfl⟩
 ·
  refine tc_skip (tq_then (tc_seq (tc_region ?_)))
  refine runL_bsl 5 0 #[] 24 (fun b1 => ?_)
  refine runL_bn [0] [(6, Sl a_l l.length c_l)] ?_
  refine runL_app0 7 24 0 (TRow.of_lit (E := EHead) (b := b1) [] [] trivial (by simp)) h_l (fun a1 c1 r1 hr1 => ?_)
  refine runL_bn [0] [(2, Sl a1 l.length c1)] (runL_nil (tq_then (tc_ret ?_)))
  refine tq_front 0 ?_
  have hf2 : l = l := by
   first | rfl | exact RS.isNil h_l h1
  refine tq_ret [0] [Sl a1 l.length c1] (bp_rowsA [r1] (Mem.le_refl _) ?_)
  rw [hf2]
  try dsimp only
  exact ⟨a1, c1, r1, rfl, hr1, rfl⟩
end Go.Proofs.YtpofnmobbbcpgaaGreatDoor
