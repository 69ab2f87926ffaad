import Derived.Test.YtngoijkcbmchdaaGreatDoorTy
namespace Go.Proofs.YtngoijkcbmchdaaGreatDoor
open Go.Tx
set_option linter.unusedVariables false
set_option linter.unusedSimpArgs false

theorem takeEq_step {α : Type} {a b : List α} {i : Nat} {x y : α} (h : a.take i = b.take i) (hx : a[i]? = some x) (hy : b[i]? = some y) (e : x = y) : a.take (i + 1) = b.take (i + 1) := by
  rw [List.take_add_one, List.take_add_one, h, hx, hy, e]
theorem ne_at {α : Type} {a b : List α} {i : Nat} {x y : α} (hx : a[i]? = some x) (hy : b[i]? = some y) (e : ¬ x = y) : ¬ a = b := by
  intro h; rw [h, hy] at hx; exact e (Option.some.inj hx).symm
theorem takeEq_all {α : Type} {a b : List α} {i : Nat} (hl : a.length = b.length) (hi : a.length ≤ i) (h : a.take i = b.take i) : a = b := by
  rwa [List.take_of_length_le hi, List.take_of_length_le (by omega)] at h
theorem EntD_ne {x y : EntD} : x = y ↔ x.name = y.name ∧ x.value = y.value := by cases x; cases y; simp
theorem AskD_ne {x y : AskD} : x = y ↔ x.name = y.name ∧ x.value = y.value ∧ x.n = y.n ∧ x.tag = y.tag := by cases x; cases y; simp
theorem HeadD_ne {x y : HeadD} : x = y ↔ x.epoch = y.epoch ∧ x.root = y.root ∧ x.prev = y.prev ∧ x.at_ = y.at_ := by cases x; cases y; simp
theorem EventD_ne {x y : EventD} : x = y ↔ x.kind = y.kind ∧ x.who = y.who ∧ x.n = y.n ∧ x.at_ = y.at_ := by cases x; cases y; simp
theorem idxF_ge {α : Type} {p : α → Bool} {l : List α} {i : Nat} (h : idxF p l = (i : Int)) : ∃ x, l[i]? = some x ∧ p x = true := by
  unfold idxF at h
  cases hh : l.findIdx? p with
  | none => rw [hh] at h; simp at h
  | some k =>
    rw [hh] at h
    have : k = i := by simp at h; omega
    subst this
    rw [List.findIdx?_eq_some_iff_getElem] at hh
    obtain ⟨h1, h2, _⟩ := hh
    exact ⟨l[k], List.getElem?_eq_getElem h1, h2⟩
theorem flat_take {α : Type} {l : List (List α)} {i : Nat} {x : List α} (h : l[i]? = some x) : (l.take i).flatten ++ x = (l.take (i + 1)).flatten := by
  rw [List.take_add_one, h]; simp
theorem sum_take_le {α : Type} {l : List (List α)} {i : Nat} {x : List α} (h : l[i]? = some x) : ((l.take i).map List.length).sum + x.length ≤ (l.map List.length).sum := by
  have e : ((l.take (i + 1)).map List.length).sum = ((l.take i).map List.length).sum + x.length := by rw [List.take_add_one, h]; simp
  have := List.take_append_drop (i + 1) l
  have e2 : (l.map List.length).sum = ((l.take (i + 1)).map List.length).sum + ((l.drop (i + 1)).map List.length).sum := by
    conv => lhs; rw [← this]
    rw [List.map_append, List.sum_append]
  omega
theorem sum_take_all {α : Type} {l : List (List α)} {i : Nat} (h : l.length ≤ i) : ((l.take i).map List.length).sum = (l.map List.length).sum := by rw [List.take_of_length_le h]
theorem flat_len {α : Type} {l : List (List α)} : l.flatten.length = (l.map List.length).sum := by simp [List.length_flatten]
def lconcat {α : Type} (l : List (List α)) : List α := l.flatten

theorem seq_EU (G : Mem) (a_a : Option Addr) (c_a : Nat) (a : List Int) (h_a : RS EU G a_a c_a a) (a_b : Option Addr) (c_b : Nat) (b : List Int) (h_b : RS EU G a_b c_b b)  : ConV 7 #[Sl a_a a.length c_a, Sl a_b b.length c_b] G (Bo (decide (a = b))) := by
  refine con_of Tryz.func7 26 [(0, Sl a_a a.length c_a), (1, Sl a_b b.length c_b)] rfl (fun w0 G0 => ?_)
  refine tc_rbn [0] [] ?_
  refine tc_seq ?_
  refine tc_rbn [0,0,0,0,0] [(10, Bo (!decide (((a.length : Nat) : Int) = ((b.length : Nat) : Int))))] ?_
  refine tc_condP (!decide (((a.length : Nat) : Int) = ((b.length : Nat) : Int))) (fun h1 => ?_) (fun h1 => ?_)
  ·
    refine tc_rbn [0] [(4, Bo false)] ?_
    refine tc_ret ?_
    refine tq_then_ret ?_
    refine tq_ret [0] [Bo false] (bp_ret (Mem.le_refl _) (congrArg Bo (?_ : (decide (a = b)) = false).symm))
    first | (rw [decide_eq_false]; intro hh; subst hh; exact absurd rfl h1) | (rw [decide_eq_false]; exact ne_at hx1 hx2 (by first | assumption | omega | simp_all)) | (rw [decide_eq_true]; exact takeEq_all (by omega) (by omega) he)
  ·
    refine tc_skip ?_
    refine tq_then ?_
    refine tc_seq ?_
    refine tc_rbn [0,0,0] [(12, I (((a.length : Nat) : Int))), (13, I 0)] ?_
    refine tc_block ?_
    have hlm_h_a : a.length ≤ 9223372036854775807 := Nat.le_trans (h_a).le (h_a).max
    have hlm_h_b : b.length ≤ 9223372036854775807 := Nat.le_trans (h_b).le (h_b).max
    refine tc_loop (σ := Nat) (fun q_ => (q_ ≤ a.length) ∧ (a.take q_ = b.take q_)) (fun q_ => [(0, Sl a_a a.length c_a), (1, Sl a_b b.length c_b), (12, I (((a.length : Nat) : Int))), (13, I ((q_ : Int)))]) (fun q_ => G) (fun q_ => []) (fun q_ => a.length - q_) 0 ⟨(by (try dsimp only); first | exact Nat.zero_le _ | omega | simp), rfl⟩ (fun q_ hs => ?_)
    revert hs; revert q_; intro i hs
    obtain ⟨hi, he⟩ := hs
    refine tc_eq (fr' := [(0, Sl a_a a.length c_a), (1, Sl a_b b.length c_b), (12, I (((a.length : Nat) : Int))), (13, I ((i : Int)))]) (L' := []) rfl rfl ?_
    refine tc_rbn [0] [(14, Bo (decide ((i : Int) < ((a.length : Nat) : Int))))] ?_
    refine tc_seq ?_
    refine tc_condP (decide ((i : Int) < ((a.length : Nat) : Int))) (fun h2 => ?_) (fun h2 => ?_)
    ·
      refine tc_skip ?_
      refine tq_then ?_
      refine tc_seq ?_
      refine tc_block ?_
      refine tc_rbn [0,0] [(5, I ((i : Int)))] ?_
      refine tc_seq ?_
      obtain ⟨b1, o1, rfl⟩ := RS.addr h_a (k := i) (by omega)
      obtain ⟨x1, hx1⟩ := getX (l := a) (k := i) (by omega)
      obtain ⟨_, ⟨rfl, w1⟩, hc1⟩ := RS.get h_a hx1
      obtain ⟨b2, o2, rfl⟩ := RS.addr h_b (k := i) (by omega)
      obtain ⟨x2, hx2⟩ := getX (l := b) (k := i) (by omega)
      obtain ⟨_, ⟨rfl, w2⟩, hc2⟩ := RS.get h_b hx2
      refine tc_draw [] ?_
      refine dr_V [(0, Sl (At b1 o1) a.length c_a), (1, I ((i : Int))), (2, Pt b1 (o1 + i * 1)), (3, U x1), (4, Sl (At b2 o2) b.length c_b), (5, I ((i : Int))), (6, Pt b2 (o2 + i * 1)), (7, U x2), (8, Bo (!decide (x1 = x2)))] ?_
      refine dr_end [] [(0,0), (1,0), (4,0), (5,0), (8,0)] [2, 3, 6, 7] [(0, Sl (At b1 o1) a.length c_a), (1, Sl (At b2 o2) b.length c_b), (12, I (((a.length : Nat) : Int))), (13, I ((i : Int))), (24, Bo (!decide (x1 = x2)))] (fmc ?_ (fmc ?_ (fmc ?_ (fmc ?_ fm0)))) ?_
      · refine stab_of 2 18 (Pt b1 (o1 + i * 1)) [(16, Sl (At b1 o1) a.length c_a), (17, I ((i : Int)))] (fun X => ?_)
        exact runL_idx (b := b1) (off := o1) (len := a.length) (cap := c_a) (ik := .i64) 18 34 1 i (by omega) stab_end
      · refine stab_of 3 19 (U x1) [(18, Pt b1 (o1 + i * 1))] (fun X => ?_)
        exact runL_ldG 19 34 (cs := [U x1]) 0 (U x1) hc1 stab_end
      · refine stab_of 6 22 (Pt b2 (o2 + i * 1)) [(20, Sl (At b2 o2) b.length c_b), (21, I ((i : Int)))] (fun X => ?_)
        exact runL_idx (b := b2) (off := o2) (len := b.length) (cap := c_b) (ik := .i64) 22 34 1 i (by omega) stab_end
      · refine stab_of 7 23 (U x2) [(22, Pt b2 (o2 + i * 1))] (fun X => ?_)
        exact runL_ldG 23 34 (cs := [U x2]) 0 (U x2) hc2 stab_end
      refine tq_then ?_
      refine tc_condP (!decide (x1 = x2)) (fun h3 => ?_) (fun h3 => ?_)
      ·
        refine tc_rbn [0] [(4, Bo false)] ?_
        refine tc_ret ?_
        refine tq_block_ret ?_
        refine tq_then_ret ?_
        refine tq_rnd_ret ?_
        refine tq_block_ret ?_
        refine tq_then_ret ?_
        refine tq_ret [0] [Bo false] (bp_ret (Mem.le_refl _) (congrArg Bo (?_ : (decide (a = b)) = false).symm))
        first | (rw [decide_eq_false]; intro hh; subst hh; exact absurd rfl h1) | (rw [decide_eq_false]; exact ne_at hx1 hx2 (by first | assumption | omega | simp_all)) | (rw [decide_eq_true]; exact takeEq_all (by omega) (by omega) he)
      ·
        refine tc_skip ?_
        refine tq_block ?_
        refine tq_then ?_
        refine tc_region ?_
        refine runL_bn [0,0] [(13, I (IntKind.i64.wrap (((i : Int)) + 1)))] ?_
        refine runL_wi64 13 (((i : Int)) + 1) (by omega) ?_
        refine runL_nil ?_
        exact tq_rnd (i + 1) ⟨(by omega), (takeEq_step he hx1 hx2 (by first | assumption | omega | simp_all))⟩ (by (try dsimp only); omega)
    ·
      refine tc_exit ?_
      refine tq_then_exit ?_
      refine tq_rnd_exit ?_
      refine tq_block_here ?_
      refine tq_then ?_
      refine tc_rbn [0] [(4, Bo true)] ?_
      refine tc_ret ?_
      refine tq_ret [0] [Bo true] (bp_ret (Mem.le_refl _) (congrArg Bo (?_ : (decide (a = b)) = true).symm))
      first | (rw [decide_eq_false]; intro hh; subst hh; exact absurd rfl h1) | (rw [decide_eq_false]; exact ne_at hx1 hx2 (by first | assumption | omega | simp_all)) | (rw [decide_eq_true]; exact takeEq_all (by omega) (by omega) he)

theorem sidxF_EU (G : Mem) (a_l : Option Addr) (c_l : Nat) (l : List Int) (h_l : RS EU G a_l c_l l) (k_f : FuncId) (caps_f : Array Value) (p_f : Int → Bool) (hk_f : isFn Tryz.prog k_f) (h_f : ∀ (x0 : Int) (hx0 : 0 ≤ x0 ∧ x0 < 18446744073709551616), Con Tryz.prog k_f (#[U x0] ++ caps_f) G [] (fun u _ _ => u = Bo (p_f x0)))  : ConV 122 #[Sl a_l l.length c_l, Fv k_f caps_f] G (I (idxF p_f l)) := by
  refine con_of Tryz.func122 19 [(0, Sl a_l l.length c_l), (1, Fv k_f caps_f)] rfl (fun w0 G0 => ?_)
  refine tc_rbn [0] [] ?_
  refine tc_seq ?_
  refine tc_rbn [0,0,0] [(7, I (((l.length : Nat) : Int))), (8, I 0)] ?_
  refine tc_block ?_
  have hlm_h_l : l.length ≤ 9223372036854775807 := Nat.le_trans (h_l).le (h_l).max
  refine tc_loop (σ := Nat) (fun q_ => (q_ ≤ l.length) ∧ ((l.take q_).any p_f = false)) (fun q_ => [(0, Sl a_l l.length c_l), (1, Fv k_f caps_f), (7, I (((l.length : Nat) : Int))), (8, I ((q_ : Int)))]) (fun q_ => G) (fun q_ => []) (fun q_ => l.length - q_) 0 ⟨(by (try dsimp only); first | exact Nat.zero_le _ | omega | simp), (by (try dsimp only); simp)⟩ (fun q_ hs => ?_)
  revert hs; revert q_; intro i hs
  obtain ⟨hi, hn⟩ := hs
  refine tc_eq (fr' := [(0, Sl a_l l.length c_l), (1, Fv k_f caps_f), (7, I (((l.length : Nat) : Int))), (8, I ((i : Int)))]) (L' := []) rfl rfl ?_
  refine tc_rbn [0] [(9, Bo (decide ((i : Int) < ((l.length : Nat) : Int))))] ?_
  refine tc_seq ?_
  refine tc_condP (decide ((i : Int) < ((l.length : Nat) : Int))) (fun h1 => ?_) (fun h1 => ?_)
  ·
    refine tc_skip ?_
    refine tq_then ?_
    refine tc_seq ?_
    refine tc_block ?_
    refine tc_rbn [0,0] [(5, I ((i : Int)))] ?_
    refine tc_seq ?_
    refine tc_region ?_
    refine runL_bn [0,0,0] [(11, Fv k_f caps_f), (12, Sl a_l l.length c_l), (13, I ((i : Int)))] ?_
    obtain ⟨b1, o1, rfl⟩ := RS.addr h_l (k := i) (by omega)
    obtain ⟨x1, hx1⟩ := getX (l := l) (k := i) (by omega)
    obtain ⟨_, ⟨rfl, w1⟩, hc1⟩ := RS.get h_l hx1
    refine runL_idx (b := b1) (off := o1) (len := l.length) (cap := c_l) (ik := .i64) 14 34 1 i (by omega) ?_
    refine runL_ldG 15 34 (cs := [U x1]) 0 (U x1) hc1 ?_
    refine runL_callF (k := k_f) (caps := caps_f) (args := #[U x1]) 16 (Bo (p_f x1)) hk_f (h_f x1 w1) ?_
    refine runL_nil ?_
    refine tq_then ?_
    refine tc_condP (p_f x1) (fun h2 => ?_) (fun h2 => ?_)
    ·
      refine tc_rbn [0,0] [(4, I ((i : Int)))] ?_
      refine tc_ret ?_
      refine tq_block_ret ?_
      refine tq_then_ret ?_
      refine tq_rnd_ret ?_
      refine tq_block_ret ?_
      refine tq_then_ret ?_
      refine tq_ret [0] [I ((i : Int))] (bp_ret (Mem.le_refl _) (congrArg I (?_ : (idxF p_f l) = ((i : Int))).symm))
      first | exact idxF_some hx1 (by simpa using h2) hn | exact idxF_none (by rw [List.take_of_length_le (by omega)] at hn; exact hn)
    ·
      refine tc_skip ?_
      refine tq_block ?_
      refine tq_then ?_
      refine tc_region ?_
      refine runL_bn [0,0] [(8, I (IntKind.i64.wrap (((i : Int)) + 1)))] ?_
      refine runL_wi64 8 (((i : Int)) + 1) (by omega) ?_
      refine runL_nil ?_
      exact tq_rnd (i + 1) ⟨(by omega), (any_take hx1 (by simpa using h2) hn)⟩ (by (try dsimp only); omega)
  ·
    refine tc_exit ?_
    refine tq_then_exit ?_
    refine tq_rnd_exit ?_
    refine tq_block_here ?_
    refine tq_then ?_
    refine tc_rbn [0] [(4, I ((-1)))] ?_
    refine tc_ret ?_
    refine tq_ret [0] [I ((-1))] (bp_ret (Mem.le_refl _) (congrArg I (?_ : (idxF p_f l) = ((-1))).symm))
    first | exact idxF_some hx1 (by simpa using h2) hn | exact idxF_none (by rw [List.take_of_length_le (by omega)] at hn; exact hn)

theorem sany_EU (G : Mem) (a_l : Option Addr) (c_l : Nat) (l : List Int) (h_l : RS EU G a_l c_l l) (k_f : FuncId) (caps_f : Array Value) (p_f : Int → Bool) (hk_f : isFn Tryz.prog k_f) (h_f : ∀ (x0 : Int) (hx0 : 0 ≤ x0 ∧ x0 < 18446744073709551616), Con Tryz.prog k_f (#[U x0] ++ caps_f) G [] (fun u _ _ => u = Bo (p_f x0)))  : ConV 116 #[Sl a_l l.length c_l, Fv k_f caps_f] G (Bo (l.any p_f)) := by
  refine con_of Tryz.func116 9 [(0, Sl a_l l.length c_l), (1, Fv k_f caps_f)] rfl (fun w0 G0 => ?_)
  refine tc_rbn [0] [] ?_
  refine tc_seq ?_
  refine tc_region ?_
  refine runL_bn [0,0] [(5, Sl a_l l.length c_l), (6, Fv k_f caps_f)] ?_
  refine runL_callV 7 (I (idxF p_f l)) (sidxF_EU G a_l c_l l h_l k_f caps_f p_f hk_f h_f) ?_
  refine runL_bn [0,0] [(4, Bo (decide (idxF p_f l ≥ 0)))] ?_
  refine runL_nil ?_
  refine tq_then ?_
  refine tc_ret ?_
  refine tq_ret [0] [Bo (decide (idxF p_f l ≥ 0))] (bp_ret (Mem.le_refl _) (congrArg Bo (?_ : (l.any p_f) = (decide (idxF p_f l ≥ 0))).symm))
  rw [idxF_any]

theorem sclone_EEnt (G : Mem) (a_l : Option Addr) (c_l : Nat) (l : List EntD) (h_l : RS EEnt G a_l c_l l)  : ConP 67 #[Sl a_l l.length c_l] G [] (fun u G' L' => ∃ (a1 : Option Addr) (c2 : Nat) (r3 : List Seg), u = Sl a1 l.length c2 ∧ (TRow EEnt G' a1 c2 l r3) ∧ L' = [r3]) := by
  refine con_of Tryz.func67 8 [(0, Sl a_l l.length c_l)] rfl (fun w0 G0 => ?_)
  refine tc_rbn [0] [] ?_
  refine tc_seq ?_
  refine tc_seq ?_
  refine tc_region ?_
  refine runL_bn [0] [(3, Sl a_l l.length c_l)] ?_
  refine runL_one 4 (Bo ((a_l).isNone)) (by intro w; cases a_l <;> kernel_rfl) ?_ (hsy := by intro _ _; cases a_l <;> kernel_rfl)
  refine runL_nil ?_
  refine tq_then ?_
  refine tc_condP ((a_l).isNone) (fun h1 => ?_) (fun h1 => ?_)
  ·
    refine tc_rbn [0] [(2, Sl none 0 0)] ?_
    refine tc_ret ?_
    refine tq_then_ret ?_
    refine tq_empty ?_
    refine tq_front 0 ?_
    have hf1 : l = [] := by
      first | rfl | exact RS.isNil h_l h1
    refine tq_ret [0] [Sl none 0 0] (bp_rowsA [[]] (Mem.le_refl _) ?_)
    rw [hf1]
    try dsimp only
    exact ⟨none, 0, ([]), rfl, (TRow.none EEnt _), rfl⟩
  ·
    refine tc_skip ?_
    refine tq_then ?_
    refine tc_seq ?_
    refine tc_region ?_
    refine runL_bsl 5 0 #[] 106 (fun b1 => ?_)
    refine runL_bn [0] [(6, Sl a_l l.length c_l)] ?_
    refine runL_app0 7 106 0 (TRow.of_lit (E := EEnt) (b := b1) [] [] trivial (by simp)) h_l (fun a1 c1 r1 hr1 => ?_)
    refine runL_bn [0] [(2, Sl a1 l.length c1)] ?_
    refine runL_nil ?_
    refine tq_then ?_
    refine tc_ret ?_
    refine tq_front 0 ?_
    have hf2 : l = l := by
      first | rfl | exact RS.isNil h_l h1
    refine tq_ret [0] [Sl a1 l.length c1] (bp_rowsA [r1] (Mem.le_refl _) ?_)
    rw [hf2]
    try dsimp only
    exact ⟨a1, c1, r1, rfl, hr1, rfl⟩

theorem sidxF_EEnt (G : Mem) (a_l : Option Addr) (c_l : Nat) (l : List EntD) (h_l : RS EEnt G a_l c_l l) (k_f : FuncId) (caps_f : Array Value) (p_f : EntD → Bool) (hk_f : isFn Tryz.prog k_f) (h_f : ∀ (vs0 : List Value) (x0 : EntD) (hx0 : EEnt.R G vs0 x0), Con Tryz.prog k_f (#[.agg vs0.toArray] ++ caps_f) G [] (fun u _ _ => u = Bo (p_f x0)))  : ConV 83 #[Sl a_l l.length c_l, Fv k_f caps_f] G (I (idxF p_f l)) := by
  refine con_of Tryz.func83 19 [(0, Sl a_l l.length c_l), (1, Fv k_f caps_f)] rfl (fun w0 G0 => ?_)
  refine tc_rbn [0] [] ?_
  refine tc_seq ?_
  refine tc_rbn [0,0,0] [(7, I (((l.length : Nat) : Int))), (8, I 0)] ?_
  refine tc_block ?_
  have hlm_h_l : l.length ≤ 9223372036854775807 := Nat.le_trans (h_l).le (h_l).max
  refine tc_loop (σ := Nat) (fun q_ => (q_ ≤ l.length) ∧ ((l.take q_).any p_f = false)) (fun q_ => [(0, Sl a_l l.length c_l), (1, Fv k_f caps_f), (7, I (((l.length : Nat) : Int))), (8, I ((q_ : Int)))]) (fun q_ => G) (fun q_ => []) (fun q_ => l.length - q_) 0 ⟨(by (try dsimp only); first | exact Nat.zero_le _ | omega | simp), (by (try dsimp only); simp)⟩ (fun q_ hs => ?_)
  revert hs; revert q_; intro i hs
  obtain ⟨hi, hn⟩ := hs
  refine tc_eq (fr' := [(0, Sl a_l l.length c_l), (1, Fv k_f caps_f), (7, I (((l.length : Nat) : Int))), (8, I ((i : Int)))]) (L' := []) rfl rfl ?_
  refine tc_rbn [0] [(9, Bo (decide ((i : Int) < ((l.length : Nat) : Int))))] ?_
  refine tc_seq ?_
  refine tc_condP (decide ((i : Int) < ((l.length : Nat) : Int))) (fun h1 => ?_) (fun h1 => ?_)
  ·
    refine tc_skip ?_
    refine tq_then ?_
    refine tc_seq ?_
    refine tc_block ?_
    refine tc_rbn [0,0] [(5, I ((i : Int)))] ?_
    refine tc_seq ?_
    refine tc_region ?_
    refine runL_bn [0,0,0] [(11, Fv k_f caps_f), (12, Sl a_l l.length c_l), (13, I ((i : Int)))] ?_
    obtain ⟨b1, o1, rfl⟩ := RS.addr h_l (k := i) (by omega)
    obtain ⟨x1, hx1⟩ := getX (l := l) (k := i) (by omega)
    obtain ⟨_, ⟨rfl, w1, w2⟩, hc1⟩ := RS.get h_l hx1
    refine runL_idx (b := b1) (off := o1) (len := l.length) (cap := c_l) (ik := .i64) 14 106 2 i (by omega) ?_
    refine runL_ldG 15 106 (cs := [Sr x1.name, Sr x1.value]) 0 (.agg #[Sr x1.name, Sr x1.value]) hc1 ?_
    refine runL_callF (k := k_f) (caps := caps_f) (args := #[.agg #[Sr x1.name, Sr x1.value]]) 16 (Bo (p_f x1)) hk_f (h_f [Sr x1.name, Sr x1.value] x1 (⟨rfl, w1, w2⟩)) ?_
    refine runL_nil ?_
    refine tq_then ?_
    refine tc_condP (p_f x1) (fun h2 => ?_) (fun h2 => ?_)
    ·
      refine tc_rbn [0,0] [(4, I ((i : Int)))] ?_
      refine tc_ret ?_
      refine tq_block_ret ?_
      refine tq_then_ret ?_
      refine tq_rnd_ret ?_
      refine tq_block_ret ?_
      refine tq_then_ret ?_
      refine tq_ret [0] [I ((i : Int))] (bp_ret (Mem.le_refl _) (congrArg I (?_ : (idxF p_f l) = ((i : Int))).symm))
      first | exact idxF_some hx1 (by simpa using h2) hn | exact idxF_none (by rw [List.take_of_length_le (by omega)] at hn; exact hn)
    ·
      refine tc_skip ?_
      refine tq_block ?_
      refine tq_then ?_
      refine tc_region ?_
      refine runL_bn [0,0] [(8, I (IntKind.i64.wrap (((i : Int)) + 1)))] ?_
      refine runL_wi64 8 (((i : Int)) + 1) (by omega) ?_
      refine runL_nil ?_
      exact tq_rnd (i + 1) ⟨(by omega), (any_take hx1 (by simpa using h2) hn)⟩ (by (try dsimp only); omega)
  ·
    refine tc_exit ?_
    refine tq_then_exit ?_
    refine tq_rnd_exit ?_
    refine tq_block_here ?_
    refine tq_then ?_
    refine tc_rbn [0] [(4, I ((-1)))] ?_
    refine tc_ret ?_
    refine tq_ret [0] [I ((-1))] (bp_ret (Mem.le_refl _) (congrArg I (?_ : (idxF p_f l) = ((-1))).symm))
    first | exact idxF_some hx1 (by simpa using h2) hn | exact idxF_none (by rw [List.take_of_length_le (by omega)] at hn; exact hn)

theorem sany_EEnt (G : Mem) (a_l : Option Addr) (c_l : Nat) (l : List EntD) (h_l : RS EEnt G a_l c_l l) (k_f : FuncId) (caps_f : Array Value) (p_f : EntD → Bool) (hk_f : isFn Tryz.prog k_f) (h_f : ∀ (vs0 : List Value) (x0 : EntD) (hx0 : EEnt.R G vs0 x0), Con Tryz.prog k_f (#[.agg vs0.toArray] ++ caps_f) G [] (fun u _ _ => u = Bo (p_f x0)))  : ConV 114 #[Sl a_l l.length c_l, Fv k_f caps_f] G (Bo (l.any p_f)) := by
  refine con_of Tryz.func114 9 [(0, Sl a_l l.length c_l), (1, Fv k_f caps_f)] rfl (fun w0 G0 => ?_)
  refine tc_rbn [0] [] ?_
  refine tc_seq ?_
  refine tc_region ?_
  refine runL_bn [0,0] [(5, Sl a_l l.length c_l), (6, Fv k_f caps_f)] ?_
  refine runL_callV 7 (I (idxF p_f l)) (sidxF_EEnt G a_l c_l l h_l k_f caps_f p_f hk_f h_f) ?_
  refine runL_bn [0,0] [(4, Bo (decide (idxF p_f l ≥ 0)))] ?_
  refine runL_nil ?_
  refine tq_then ?_
  refine tc_ret ?_
  refine tq_ret [0] [Bo (decide (idxF p_f l ≥ 0))] (bp_ret (Mem.le_refl _) (congrArg Bo (?_ : (l.any p_f) = (decide (idxF p_f l ≥ 0))).symm))
  rw [idxF_any]
end Go.Proofs.YtngoijkcbmchdaaGreatDoor
