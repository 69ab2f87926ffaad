import Derived.Test.YtggljibhfbgmpaaMark
import Derived.Test.YtggljibhfbgmpaaSl
namespace Go.Proofs.Ytggljibhfbgmpaa
open Go.Tx
set_option linter.unusedVariables false
set_option linter.unusedSimpArgs false

theorem le48r {n : Nat} (h : n ≤ 140737488351232) : n ≤ 140737488355328 := by omega
def halfF : Nat → Nat → Nat → Nat
  | 0, _, k => k
  | f + 1, n, k => if 2 * k < n then halfF f n (2 * k) else k
def half (n : Nat) : Nat := halfF n n 1
theorem halfF_fuel : ∀ (f g n k : Nat), 1 ≤ k → n ≤ k + f → n ≤ k + g → halfF f n k = halfF g n k
  | 0, 0, _, _, _, _, _ => rfl
  | 0, g + 1, n, k, _, h, _ => by unfold halfF; rw [if_neg (by omega)]
  | f + 1, 0, n, k, _, _, h => by unfold halfF; rw [if_neg (by omega)]
  | f + 1, g + 1, n, k, hk, h1, h2 => by
    unfold halfF
    split
    · exact halfF_fuel f g n (2 * k) (by omega) (by omega) (by omega)
    · rfl
theorem halfF_next {n k : Nat} (hk : 1 ≤ k) (h : 2 * k < n) : halfF n n k = halfF n n (2 * k) := by
  rw [halfF_fuel n (n + 1) n k hk (by omega) (by omega)]
  conv => lhs; unfold halfF
  rw [if_pos h]
theorem halfF_stop {f n k : Nat} (h : ¬ 2 * k < n) : halfF f n k = k := by
  cases f with
  | zero => rfl
  | succ f => unfold halfF; rw [if_neg h]
theorem halfF_bd : ∀ (f n k : Nat), 1 ≤ k → k < n → 1 ≤ halfF f n k ∧ halfF f n k < n
  | 0, _, _, h1, h2 => ⟨h1, h2⟩
  | f + 1, n, k, h1, h2 => by
    unfold halfF; split
    · exact halfF_bd f n (2 * k) (by omega) (by omega)
    · exact ⟨h1, h2⟩
theorem half_bd {n : Nat} (h : 2 ≤ n) : 1 ≤ half n ∧ half n < n := halfF_bd n n 1 (by omega) (by omega)
theorem halfF_ge : ∀ (f n k : Nat), k ≤ halfF f n k
  | 0, _, _ => Nat.le_refl _
  | f + 1, n, k => by
    unfold halfF; split
    · have := halfF_ge f n (2 * k); omega
    · exact Nat.le_refl _
theorem halfF_mid : ∀ (f n m k : Nat), n ≤ k + f → 1 ≤ k → halfF f n k < m → m ≤ n → halfF f m k = halfF f n k
  | 0, _, _, _, _, _, _, _ => rfl
  | f + 1, n, m, k, hf, hk, h, hm => by
    unfold halfF at h ⊢
    split at h
    · rename_i h1
      rw [if_pos h1]
      have := halfF_ge f n (2 * k)
      rw [if_pos (by omega)]
      exact halfF_mid f n m (2 * k) (by omega) (by omega) h hm
    · rename_i h1
      rw [if_neg h1, if_neg (by omega)]
theorem half_mid {n m : Nat} (h : half n < m) (hm : m ≤ n) : half m = half n := by
  unfold half at h ⊢
  rw [halfF_fuel m n m 1 (by omega) (by omega) (by omega)]
  exact halfF_mid n n m 1 (by omega) (by omega) h hm
def two5 (a b : Int) : Int := markOf (markSaid 5 a b)
def rOne (s : List UInt8) : Int := markOf (([4] : List UInt8) ++ s)
theorem rOne_bd (s : List UInt8) : 0 ≤ rOne s ∧ rOne s < 2305843009213693951 := markOf_bd _
theorem two5_bd (a b : Int) : 0 ≤ two5 a b ∧ two5 a b < 2305843009213693951 := markOf_bd _
def rRoot (l : List (List UInt8)) : Int := if h : l.length ≤ 1 then rOne (l[0]?.getD []) else two5 (rRoot (l.take (half l.length))) (rRoot (l.drop (half l.length)))
  termination_by l.length
  decreasing_by
    all_goals simp only [List.length_take, List.length_drop]; have := half_bd (n := l.length) (by omega); omega
theorem rRoot_one {l : List (List UInt8)} {x : List UInt8} (h : l.length ≤ 1) (hx : l[0]? = some x) : rRoot l = rOne x := by rw [rRoot, dif_pos h, hx]; rfl
theorem rRoot_two {l : List (List UInt8)} (h : ¬ l.length ≤ 1) : rRoot l = two5 (rRoot (l.take (half l.length))) (rRoot (l.drop (half l.length))) := by rw [rRoot, dif_neg h]
theorem rRoot_bd (l : List (List UInt8)) : 0 ≤ rRoot l ∧ rRoot l < 2305843009213693951 := by
  rw [rRoot]; split
  · exact rOne_bd _
  · exact two5_bd _ _
def rIn (l : List (List UInt8)) (i : Int) : List Int := if h : l.length ≤ 1 then [] else if i < (half l.length : Nat) then rIn (l.take (half l.length)) i ++ [rRoot (l.drop (half l.length))] else rIn (l.drop (half l.length)) (i - (half l.length : Nat)) ++ [rRoot (l.take (half l.length))]
  termination_by l.length
  decreasing_by
    all_goals simp only [List.length_take, List.length_drop]; have := half_bd (n := l.length) (by omega); omega
def rGrew (l : List (List UInt8)) (m : Int) (whole : Bool) : List Int := if m = l.length then (if whole then [] else [rRoot l]) else if h : l.length ≤ 1 then [] else if m ≤ (half l.length : Nat) then rGrew (l.take (half l.length)) m whole ++ [rRoot (l.drop (half l.length))] else rGrew (l.drop (half l.length)) (m - (half l.length : Nat)) false ++ [rRoot (l.take (half l.length))]
  termination_by l.length
  decreasing_by
    all_goals simp only [List.length_take, List.length_drop]; have := half_bd (n := l.length) (by omega); omega
def lastI (p : List Int) : Int := p[p.length - 1]?.getD 0
def rMade (n i m : Int) (p : List Int) : Int × Bool := if h : n ≤ 1 then (m, decide (p.length = 0)) else if p.length = 0 then (0, false) else if i < (half n.toNat : Nat) then (two5 (rMade (half n.toNat : Nat) i m (p.take (p.length - 1))).1 (lastI p), (rMade (half n.toNat : Nat) i m (p.take (p.length - 1))).2) else (two5 (lastI p) (rMade (n - (half n.toNat : Nat)) (i - (half n.toNat : Nat)) m (p.take (p.length - 1))).1, (rMade (n - (half n.toNat : Nat)) (i - (half n.toNat : Nat)) m (p.take (p.length - 1))).2)
  termination_by n.toNat
  decreasing_by
    all_goals have := half_bd (n := n.toNat) (by omega); omega
def rBoth (a m n : Int) (whole : Bool) (p : List Int) : Int × Int × Bool :=
  if m = n then (if whole then (a, a, decide (p.length = 0)) else if p.length = 1 then (lastI p, lastI p, true) else (0, 0, false)) else if p.length = 0 then (0, 0, false) else if h : n ≤ 1 then (0, 0, false) else
  if m ≤ (half n.toNat : Nat) then ((rBoth a m (half n.toNat : Nat) whole (p.take (p.length - 1))).1, two5 (rBoth a m (half n.toNat : Nat) whole (p.take (p.length - 1))).2.1 (lastI p), (rBoth a m (half n.toNat : Nat) whole (p.take (p.length - 1))).2.2)
  else (two5 (lastI p) (rBoth a (m - (half n.toNat : Nat)) (n - (half n.toNat : Nat)) false (p.take (p.length - 1))).1, two5 (lastI p) (rBoth a (m - (half n.toNat : Nat)) (n - (half n.toNat : Nat)) false (p.take (p.length - 1))).2.1, (rBoth a (m - (half n.toNat : Nat)) (n - (half n.toNat : Nat)) false (p.take (p.length - 1))).2.2)
  termination_by n.toNat
  decreasing_by
    all_goals have := half_bd (n := n.toNat) (by omega); omega
def rollLong (s : List UInt8) : Bool := decide (s.length > 40)
def rollCheck (l : List (List UInt8)) : Int := if l.length = 0 then 5 else if 40 < l.length ∨ (l.any fun x0 => rollLong x0) = true then 2 else 0
def rollRoot (l : List (List UInt8)) : Int × Int := if rollCheck l ≠ 0 then (0, rollCheck l) else (rRoot l, 0)
def rollIn (l : List (List UInt8)) (i : Int) : List Int × Int := if rollCheck l ≠ 0 then ([], rollCheck l) else if i < 0 ∨ (l.length : Int) ≤ i then ([], 4) else (rIn l i, 0)
def rollGrew (l : List (List UInt8)) (m : Int) : List Int × Int := if rollCheck l ≠ 0 then ([], rollCheck l) else if m < 1 ∨ (l.length : Int) < m then ([], 4) else (rGrew l m true, 0)
def rollIsIn (r n i : Int) (text : List UInt8) (p : List Int) : Bool × Int := if n < 1 ∨ 40 < n ∨ i < 0 ∨ n ≤ i then (false, 4) else if 40 < text.length then (false, 2) else ((rMade n i (rOne text) p).2 && decide ((rMade n i (rOne text) p).1 = r), 0)
def rollIsGrown (a m b n : Int) (p : List Int) : Bool × Int := if n < 1 ∨ 40 < n ∨ m < 1 ∨ n < m then (false, 4) else ((rBoth a m n true p).2.2 && decide ((rBoth a m n true p).1 = a) && decide ((rBoth a m n true p).2.1 = b), 0)
theorem rollCheck_ok {l : List (List UInt8)} (h : rollCheck l = 0) : 1 ≤ l.length ∧ l.length ≤ 40 ∧ ∀ s ∈ l, s.length ≤ 40 := by
  unfold rollCheck at h
  split at h
  · cases h
  split at h
  · cases h
  · rename_i h1 h2
    refine ⟨by omega, by omega, fun s hs => ?_⟩
    have : ¬ (l.any fun x0 => rollLong x0) = true := fun hc => h2 (.inr hc)
    have := fun hc => this (List.any_eq_true.2 ⟨s, hs, hc⟩)
    unfold rollLong at this
    simp at this; omega
theorem rollCheck_of {l : List (List UInt8)} (h : 1 ≤ l.length ∧ l.length ≤ 40 ∧ ∀ s ∈ l, s.length ≤ 40) : rollCheck l = 0 := by
  unfold rollCheck
  rw [if_neg (by omega), if_neg]
  intro hc
  rcases hc with hc | hc
  · omega
  · obtain ⟨s, hs, hd⟩ := List.any_eq_true.1 hc
    have := h.2.2 s hs
    unfold rollLong at hd; simp at hd; omega
theorem lastI_get {p : List Int} {k : Nat} {x : Int} (hk : k = p.length - 1) (h : p[k]? = some x) : x = lastI p := by unfold lastI; rw [← hk, h]; rfl
theorem lastI_snoc (p : List Int) (x : Int) : lastI (p ++ [x]) = x ∧ (p ++ [x]).take ((p ++ [x]).length - 1) = p := by simp [lastI]
theorem rIn_one {l : List (List UInt8)} {i : Int} (h : l.length ≤ 1) : rIn l i = [] := by rw [rIn, dif_pos h]
theorem rIn_left {l : List (List UInt8)} {i : Int} (h : ¬ l.length ≤ 1) (hi : i < (half l.length : Nat)) : rIn l i = rIn (l.take (half l.length)) i ++ [rRoot (l.drop (half l.length))] := by rw [rIn, dif_neg h, if_pos hi]
theorem rIn_right {l : List (List UInt8)} {i : Int} (h : ¬ l.length ≤ 1) (hi : ¬ i < (half l.length : Nat)) : rIn l i = rIn (l.drop (half l.length)) (i - (half l.length : Nat)) ++ [rRoot (l.take (half l.length))] := by rw [rIn, dif_neg h, if_neg hi]
theorem rIn_len : ∀ (N : Nat) (l : List (List UInt8)) (i : Int), l.length ≤ N → (rIn l i).length ≤ l.length
  | 0, l, i, h => by rw [rIn_one (by omega)]; simp
  | N + 1, l, i, h => by
    by_cases h1 : l.length ≤ 1
    · rw [rIn_one h1]; simp
    · have hb := half_bd (n := l.length) (by omega)
      by_cases h2 : i < (half l.length : Nat)
      · rw [rIn_left h1 h2]
        have := rIn_len N (l.take (half l.length)) i (by simp; omega)
        simp at this ⊢; omega
      · rw [rIn_right h1 h2]
        have := rIn_len N (l.drop (half l.length)) (i - (half l.length : Nat)) (by simp; omega)
        simp at this ⊢; omega
theorem rGrew_len : ∀ (N : Nat) (l : List (List UInt8)) (m : Int) (w : Bool), l.length ≤ N → (rGrew l m w).length ≤ l.length + 1
  | 0, l, m, w, h => by rw [rGrew]; (repeat' split) <;> simp <;> omega
  | N + 1, l, m, w, h => by
    rw [rGrew]
    split
    · split <;> simp
    split
    · simp
    · rename_i h1 h2
      have hb := half_bd (n := l.length) (by omega)
      split
      · have := rGrew_len N (l.take (half l.length)) m w (by simp; omega)
        simp at this ⊢; omega
      · have := rGrew_len N (l.drop (half l.length)) (m - (half l.length : Nat)) false (by simp; omega)
        simp at this ⊢; omega

theorem rOne_con (G : Mem) (s : List UInt8) (hw_s : (s).length ≤ 140737488351232) (hs : s.length ≤ 1000000) : Con Try.prog 76 #[Sr s] G [] (fun u G' L' => u = U (rOne s)) := by
  refine con_of Try.func76 8 [(0, Sr s)] rfl (fun w0 G0 => ?_)
  refine tc_rb [0] [(0, Sr s), (2, U 0)] ?_
  refine tc_seq ?_
  refine tc_region ?_
  refine runL_bsl 3 1 #[Y 4] 5 (fun b1 => ?_)
  refine runL_b2s (b := b1) (off := 0) (len := 1) (cap := 1) (cs := List.map (Value.int .u8) [4]) 4 0 [4] rfl (lit_bytes (ns := [4]) rfl) ?_
  refine runL_b [0] [(2, U 0), (4, Sr (([4] : List Int).map fun n => UInt8.ofNat n.toNat)), (5, Sr s)] ?_
  refine runL_cat 6 (([4] : List Int).map fun n => UInt8.ofNat n.toNat) s (by simp; omega) ?_
  refine runL_callV 7 (U (markOf ((([4] : List Int).map fun n => UInt8.ofNat n.toNat) ++ s))) (markOf_con ((([4] : List Int).map fun n => UInt8.ofNat n.toNat) ++ s) (le48r (by simp; omega)) G) ?_
  refine runL_b [0] [(2, U (markOf ((([4] : List Int).map fun n => UInt8.ofNat n.toNat) ++ s)))] ?_
  refine runL_nil ?_
  refine tq_then ?_
  refine tc_ret ?_
  refine tq_ret [0] [U (markOf ((([4] : List Int).map fun n => UInt8.ofNat n.toNat) ++ s))] (bp_ret (Mem.le_refl _) ?_)
  have hf_ : (rOne s) = (markOf ((([4] : List Int).map fun n => UInt8.ofNat n.toNat) ++ s)) := by
    rfl
  (try rw [hf_]); first | with_reducible rfl | (simp only [packR]; done) | rfl

theorem half_con (G : Mem) (n : Int) (hn : n ≤ 1000) : Con Try.prog 110 #[I n] G [] (fun u G' L' => u = I (((half n.toNat : Nat) : Int))) := by
  refine con_of Try.func110 11 [(0, I n)] rfl (fun w0 G0 => ?_)
  refine tc_rb [0] [(0, I n), (2, I 0)] ?_
  refine tc_rb [0] [(0, I n), (2, I 0), (3, I 1)] ?_
  refine tc_seq ?_
  refine tc_block ?_
  refine tc_loop (σ := Int) (fun q_ => (1 ≤ q_ ∧ q_ ≤ 1000 ∧ halfF n.toNat n.toNat q_.toNat = half n.toNat)) (fun q_ => [(0, I n), (2, I 0), (3, I q_)]) (fun q_ => G) (fun q_ => []) (fun q_ => (n - q_).toNat) 1 ⟨by omega, by omega, rfl⟩ (fun q_ hs => ?_)
  revert hs; revert q_; intro k hs
  have hk := hs
  refine tc_eq (fr' := [(0, I n), (2, I 0), (3, I k)]) (L' := []) rfl rfl ?_
  refine tc_seq ?_
  refine tc_rb [0,0,0,0] [(0, I n), (2, I 0), (3, I k), (7, Bo (decide (IntKind.i64.wrap (2 * k) < n)))] ?_
  have e1 : IntKind.i64.wrap (2 * k) = 2 * k := IntWalk.i64_in _ (by omega)
  refine tc_eq (fr' := [(0, I n), (2, I 0), (3, I k), (7, Bo (decide (2 * k < n)))]) (L' := []) (by simp only [e1]) (by rfl) ?_
  clear e1
  refine tc_cond (decide (2 * k < n)) (fun h1 => ?_) (fun h1 => ?_)
  ·
    try simp only [decide_eq_true_eq, decide_eq_false_iff_not, Bool.and_eq_true, Bool.or_eq_true, Bool.and_eq_false_imp, Bool.or_eq_false_iff, Bool.not_eq_true', Bool.not_eq_false', Bool.not_eq_true, Bool.not_eq_false, beq_iff_eq, beq_eq_false_iff_ne, bne_iff_ne, ne_eq, Decidable.not_not, Int.not_lt, Int.not_le] at h1
    refine tc_skip ?_
    refine tq_then ?_
    refine tc_block ?_
    refine tc_region ?_
    refine runL_b [0,0,0] [(0, I n), (2, I 0), (3, I (IntKind.i64.wrap (k * 2))), (7, Bo (decide (2 * k < n)))] ?_
    have e2 : IntKind.i64.wrap (k * 2) = k * 2 := IntWalk.i64_in _ (by omega)
    refine runL_eq (fr' := [(0, I n), (2, I 0), (3, I (k * 2)), (7, Bo (decide (2 * k < n)))]) (L' := []) (by simp only [e2]) (by rfl) ?_
    clear e2
    refine runL_nil ?_
    refine tq_block ?_
    exact tq_rnd (k * 2) (by refine ⟨by omega, by omega, ?_⟩; exact (congrArg (halfF n.toNat n.toNat) (by omega)).trans ((halfF_next (k := k.toNat) (by omega) (by omega)).symm.trans hk.2.2)) (by (try dsimp only); omega)
  ·
    try simp only [decide_eq_true_eq, decide_eq_false_iff_not, Bool.and_eq_true, Bool.or_eq_true, Bool.and_eq_false_imp, Bool.or_eq_false_iff, Bool.not_eq_true', Bool.not_eq_false', Bool.not_eq_true, Bool.not_eq_false, beq_iff_eq, beq_eq_false_iff_ne, bne_iff_ne, ne_eq, Decidable.not_not, Int.not_lt, Int.not_le] at h1
    refine tc_exit ?_
    refine tq_then_exit ?_
    refine tq_rnd_exit ?_
    refine tq_block_here ?_
    refine tq_then ?_
    refine tc_rb [0,0] [(0, I n), (2, I k), (3, I k), (7, Bo (decide (2 * k < n)))] ?_
    refine tc_ret ?_
    refine tq_ret [0] [I k] (bp_ret (Mem.le_refl _) ?_)
    have hf_ : (((half n.toNat : Nat) : Int)) = k := by
      rw [← hk.2.2, halfF_stop (by omega)]; omega
    (try rw [hf_]); first | with_reducible rfl | (simp only [packR]; done) | rfl

theorem rRoot_con_aux (N : Nat) : ∀ (G : Mem) (a_l : Option Addr) (c_l : Nat) (l : List ((List UInt8))) (h_l : RS ES G a_l c_l l) (h1l : 1 ≤ l.length) (h40 : l.length ≤ 40) (hs : ∀ s ∈ l, s.length ≤ 40), l.length < N → Con Try.prog 71 #[Sl a_l l.length c_l] G [] (fun u G' L' => u = U (rRoot l)) := by
  induction N with
  | zero => intros; omega
  | succ N ih =>
    intro G a_l c_l l h_l h1l h40 hs hN
    refine con_of Try.func71 23 [(0, Sl a_l l.length c_l)] rfl (fun w0 G0 => ?_)
    refine tc_rb [0] [(0, Sl a_l l.length c_l), (2, U 0)] ?_
    refine tc_seq ?_
    refine tc_rb [0,0,0] [(0, Sl a_l l.length c_l), (2, U 0), (6, Bo (decide (((l.length : Nat) : Int) = 1)))] ?_
    refine tc_cond (decide (((l.length : Nat) : Int) = 1)) (fun h1 => ?_) (fun h1 => ?_)
    ·
      try simp only [decide_eq_true_eq, decide_eq_false_iff_not, Bool.and_eq_true, Bool.or_eq_true, Bool.and_eq_false_imp, Bool.or_eq_false_iff, Bool.not_eq_true', Bool.not_eq_false', Bool.not_eq_true, Bool.not_eq_false, beq_iff_eq, beq_eq_false_iff_ne, bne_iff_ne, ne_eq, Decidable.not_not, Int.not_lt, Int.not_le] at h1
      refine tc_seq ?_
      refine tc_region ?_
      refine runL_b [0] [(0, Sl a_l l.length c_l), (2, U 0), (6, Bo (decide (((l.length : Nat) : Int) = 1))), (7, Sl a_l l.length c_l)] ?_
      obtain ⟨b1, o1, rfl⟩ := RS.addr h_l (k := 0) (by first | omega | (have hb_ := half_bd (n := l.length) (by omega); omega))
      obtain ⟨x1, hx1⟩ := getX (l := l) (k := 0) (by first | omega | (have hb_ := half_bd (n := l.length) (by omega); omega))
      obtain ⟨_, ⟨rfl, w1⟩, hc1⟩ := RS.get h_l hx1
      refine runL_idx (b := b1) (off := o1) (len := l.length) (cap := c_l) (ik := .i64) 8 9 1 0 (by first | omega | (have hb_ := half_bd (n := l.length) (by omega); omega)) ?_
      refine runL_ldG 9 9 (cs := [Sr x1]) 0 (Sr x1) hc1 ?_
      refine runL_callV 10 (U (rOne x1)) (rOne_con G x1 w1 (by have := hs _ (List.mem_of_getElem? hx1); omega)) ?_
      refine runL_b [0] [(0, Sl (At b1 o1) l.length c_l), (2, U (rOne x1)), (6, Bo (decide (((l.length : Nat) : Int) = 1)))] ?_
      refine runL_nil ?_
      refine tq_then ?_
      refine tc_ret ?_
      refine tq_then_ret ?_
      refine tq_ret [0] [U (rOne x1)] (bp_ret (Mem.le_refl _) ?_)
      have hf_ : (rRoot l) = (rOne x1) := by
        exact rRoot_one (by omega) hx1
      (try rw [hf_]); first | with_reducible rfl | (simp only [packR]; done) | rfl
    ·
      try simp only [decide_eq_true_eq, decide_eq_false_iff_not, Bool.and_eq_true, Bool.or_eq_true, Bool.and_eq_false_imp, Bool.or_eq_false_iff, Bool.not_eq_true', Bool.not_eq_false', Bool.not_eq_true, Bool.not_eq_false, beq_iff_eq, beq_eq_false_iff_ne, bne_iff_ne, ne_eq, Decidable.not_not, Int.not_lt, Int.not_le] at h1
      refine tc_skip ?_
      refine tq_then ?_
      refine tc_seq ?_
      refine tc_region ?_
      refine runL_b [0,0] [(0, Sl a_l l.length c_l), (2, U 0), (6, Bo (decide (((l.length : Nat) : Int) = 1))), (12, I (((l.length : Nat) : Int)))] ?_
      refine runL_callV 13 (I (((half l.length : Nat) : Int))) (half_con G (((l.length : Nat) : Int)) (by first | assumption | omega | (have hb_ := half_bd (n := l.length) (by omega); simp only [List.length_take, List.length_drop]; omega) | exact fun s h => hs s (List.mem_of_mem_take h) | exact fun s h => hs s (List.mem_of_mem_drop h))) ?_
      refine runL_b [0] [(0, Sl a_l l.length c_l), (2, U 0), (3, I (((half l.length : Nat) : Int))), (6, Bo (decide (((l.length : Nat) : Int) = 1)))] ?_
      refine runL_nil ?_
      refine tq_then ?_
      refine tc_seq ?_
      obtain ⟨a1, c1, ea1, ec1, en1, eh1, hs1⟩ := RS.reslXT h_l (half l.length) (by first | omega | (have hb_ := half_bd (n := l.length) (by omega); omega))
      obtain ⟨a2, c2, ea2, ec2, en2, eh2, hs2⟩ := RS.reslXD h_l (half l.length) (by first | omega | (have hb_ := half_bd (n := l.length) (by omega); omega))
      refine tc_draw [] ?_
      refine dr_V [(0, Sl a_l l.length c_l), (1, I (((half l.length : Nat) : Int))), (2, Sl a1 ((l.take (half l.length)).length) c1), (3, U (rRoot (l.take (half l.length)))), (4, Sl a_l l.length c_l), (5, I (((half l.length : Nat) : Int))), (6, Sl a2 ((l.drop (half l.length)).length) c2), (7, U (rRoot (l.drop (half l.length)))), (8, U (two5 (rRoot (l.take (half l.length))) (rRoot (l.drop (half l.length))))), (9, U (two5 (rRoot (l.take (half l.length))) (rRoot (l.drop (half l.length)))))] ?_
      refine dr_end [] [(0,0), (1,0), (4,0), (5,0), (9,0)] [2, 3, 6, 7, 8] [(0, Sl a_l l.length c_l), (2, U (two5 (rRoot (l.take (half l.length))) (rRoot (l.drop (half l.length))))), (6, Bo (decide (((l.length : Nat) : Int) = 1)))] (List.forall_mem_cons.2 ⟨?_, (List.forall_mem_cons.2 ⟨?_, (List.forall_mem_cons.2 ⟨?_, (List.forall_mem_cons.2 ⟨?_, (List.forall_mem_cons.2 ⟨?_, List.forall_mem_nil _⟩)⟩)⟩)⟩)⟩) ?_
      · refine stab_of 2 16 (Sl a1 ((l.take (half l.length)).length) c1) [(14, Sl a_l l.length c_l), (15, I (((half l.length : Nat) : Int)))] (fun X => ?_)
        exact runL_reslE (a := a_l) (len := l.length) (cap := c_l) 16 1 none (some (I (((half l.length : Nat) : Int)))) 0 (half l.length) (.inl ⟨rfl, rfl⟩) (.inr ⟨_, rfl⟩) (by exact Nat.zero_le _) ea1 ec1 en1 eh1 stab_end
      · refine stab_of 3 17 (U (rRoot (l.take (half l.length)))) [(16, Sl a1 ((l.take (half l.length)).length) c1)] (fun X => ?_)
        exact runL_callV 17 (U (rRoot (l.take (half l.length)))) (ih G a1 c1 (l.take (half l.length)) hs1 (by first | assumption | omega | (have hb_ := half_bd (n := l.length) (by omega); simp only [List.length_take, List.length_drop]; omega) | exact fun s h => hs s (List.mem_of_mem_take h) | exact fun s h => hs s (List.mem_of_mem_drop h)) (by first | assumption | omega | (have hb_ := half_bd (n := l.length) (by omega); simp only [List.length_take, List.length_drop]; omega) | exact fun s h => hs s (List.mem_of_mem_take h) | exact fun s h => hs s (List.mem_of_mem_drop h)) (by first | assumption | omega | (have hb_ := half_bd (n := l.length) (by omega); simp only [List.length_take, List.length_drop]; omega) | exact fun s h => hs s (List.mem_of_mem_take h) | exact fun s h => hs s (List.mem_of_mem_drop h)) (by have hb_ := half_bd (n := l.length) (by omega); simp only [List.length_take, List.length_drop]; omega)) stab_end
      · refine stab_of 6 20 (Sl a2 ((l.drop (half l.length)).length) c2) [(18, Sl a_l l.length c_l), (19, I (((half l.length : Nat) : Int)))] (fun X => ?_)
        exact runL_reslE (a := a_l) (len := l.length) (cap := c_l) 20 1 (some (I (((half l.length : Nat) : Int)))) none (half l.length) l.length (.inr ⟨_, rfl⟩) (.inl ⟨rfl, rfl⟩) (by first | omega | (have hb_ := half_bd (n := l.length) (by omega); omega)) ea2 ec2 en2 eh2 stab_end
      · refine stab_of 7 21 (U (rRoot (l.drop (half l.length)))) [(20, Sl a2 ((l.drop (half l.length)).length) c2)] (fun X => ?_)
        exact runL_callV 21 (U (rRoot (l.drop (half l.length)))) (ih G a2 c2 (l.drop (half l.length)) hs2 (by first | assumption | omega | (have hb_ := half_bd (n := l.length) (by omega); simp only [List.length_take, List.length_drop]; omega) | exact fun s h => hs s (List.mem_of_mem_take h) | exact fun s h => hs s (List.mem_of_mem_drop h)) (by first | assumption | omega | (have hb_ := half_bd (n := l.length) (by omega); simp only [List.length_take, List.length_drop]; omega) | exact fun s h => hs s (List.mem_of_mem_take h) | exact fun s h => hs s (List.mem_of_mem_drop h)) (by first | assumption | omega | (have hb_ := half_bd (n := l.length) (by omega); simp only [List.length_take, List.length_drop]; omega) | exact fun s h => hs s (List.mem_of_mem_take h) | exact fun s h => hs s (List.mem_of_mem_drop h)) (by have hb_ := half_bd (n := l.length) (by omega); simp only [List.length_take, List.length_drop]; omega)) stab_end
      · refine stab_of 8 22 (U (two5 (rRoot (l.take (half l.length))) (rRoot (l.drop (half l.length))))) [(17, U (rRoot (l.take (half l.length)))), (21, U (rRoot (l.drop (half l.length))))] (fun X => ?_)
        exact runL_callV 22 (U (two5 (rRoot (l.take (half l.length))) (rRoot (l.drop (half l.length))))) (markTwo_con 5 (rRoot (l.take (half l.length))) (rRoot (l.drop (half l.length))) G) stab_end
      refine tq_then ?_
      refine tc_ret ?_
      refine tq_ret [0] [U (two5 (rRoot (l.take (half l.length))) (rRoot (l.drop (half l.length))))] (bp_ret (Mem.le_refl _) ?_)
      have hf_ : (rRoot l) = (two5 (rRoot (l.take (half l.length))) (rRoot (l.drop (half l.length)))) := by
        exact rRoot_two (by omega)
      (try rw [hf_]); first | with_reducible rfl | (simp only [packR]; done) | rfl

theorem rRoot_con (G : Mem) (a_l : Option Addr) (c_l : Nat) (l : List ((List UInt8))) (h_l : RS ES G a_l c_l l) (h1l : 1 ≤ l.length) (h40 : l.length ≤ 40) (hs : ∀ s ∈ l, s.length ≤ 40) : Con Try.prog 71 #[Sl a_l l.length c_l] G [] (fun u G' L' => u = U (rRoot l)) := rRoot_con_aux (l.length + 1) G a_l c_l l h_l h1l h40 hs (Nat.lt_succ_self _)

theorem rIn_con_aux (N : Nat) : ∀ (G : Mem) (a_l : Option Addr) (c_l : Nat) (l : List ((List UInt8))) (h_l : RS ES G a_l c_l l) (i : Int) (h1l : 1 ≤ l.length) (h40 : l.length ≤ 40) (hs : ∀ s ∈ l, s.length ≤ 40) (hi : 0 ≤ i ∧ i < l.length), l.length < N → Con Try.prog 72 #[Sl a_l l.length c_l, I i] G [] (fun u G' L' => ∃ (a1 : Option Addr) (c2 : Nat) (r3 : List Seg), u = Sl a1 ((rIn l i).length) c2 ∧ (TRow EU G' a1 c2 (rIn l i) r3) ∧ L' = [r3]) := by
  induction N with
  | zero => intros; omega
  | succ N ih =>
    intro G a_l c_l l h_l i h1l h40 hs hi hN
    refine con_of Try.func72 39 [(0, Sl a_l l.length c_l), (1, I i)] rfl (fun w0 G0 => ?_)
    refine tc_rb [0] [(0, Sl a_l l.length c_l), (1, I i), (4, Sl none 0 0)] ?_
    refine tc_seq ?_
    refine tc_rb [0,0,0] [(0, Sl a_l l.length c_l), (1, I i), (4, Sl none 0 0), (8, Bo (decide (((l.length : Nat) : Int) = 1)))] ?_
    refine tc_cond (decide (((l.length : Nat) : Int) = 1)) (fun h1 => ?_) (fun h1 => ?_)
    ·
      try simp only [decide_eq_true_eq, decide_eq_false_iff_not, Bool.and_eq_true, Bool.or_eq_true, Bool.and_eq_false_imp, Bool.or_eq_false_iff, Bool.not_eq_true', Bool.not_eq_false', Bool.not_eq_true, Bool.not_eq_false, beq_iff_eq, beq_eq_false_iff_ne, bne_iff_ne, ne_eq, Decidable.not_not, Int.not_lt, Int.not_le] at h1
      refine tc_rb [0] [(0, Sl a_l l.length c_l), (1, I i), (4, Sl none 0 0), (8, Bo (decide (((l.length : Nat) : Int) = 1)))] ?_
      refine tc_ret ?_
      refine tq_then_ret ?_
      refine tq_empty ?_
      refine tq_front 0 ?_
      have hf1 : rIn l i = [] := by
        first | exact rIn_one (by omega) | exact rIn_left (by omega) (by omega) | exact rIn_right (by omega) (by omega)
      refine tq_ret [0] [Sl none 0 0] (bp_rows [[]] (.cons_cons _ .slnil) (Mem.le_refl _) ?_)
      rw [hf1]
      try dsimp only
      exact ⟨none, 0, ([]), rfl, (TRow.none EU _), rfl⟩
    ·
      try simp only [decide_eq_true_eq, decide_eq_false_iff_not, Bool.and_eq_true, Bool.or_eq_true, Bool.and_eq_false_imp, Bool.or_eq_false_iff, Bool.not_eq_true', Bool.not_eq_false', Bool.not_eq_true, Bool.not_eq_false, beq_iff_eq, beq_eq_false_iff_ne, bne_iff_ne, ne_eq, Decidable.not_not, Int.not_lt, Int.not_le] at h1
      refine tc_skip ?_
      refine tq_then ?_
      refine tc_seq ?_
      refine tc_region ?_
      refine runL_b [0,0] [(0, Sl a_l l.length c_l), (1, I i), (4, Sl none 0 0), (8, Bo (decide (((l.length : Nat) : Int) = 1))), (10, I (((l.length : Nat) : Int)))] ?_
      refine runL_callV 11 (I (((half l.length : Nat) : Int))) (half_con G (((l.length : Nat) : Int)) (by first | assumption | omega | (have hb_ := half_bd (n := l.length) (by omega); simp only [List.length_take, List.length_drop]; omega) | exact fun s h => hs s (List.mem_of_mem_take h) | exact fun s h => hs s (List.mem_of_mem_drop h) | (have hb_ := half_bd (n := l.length) (by omega); simp only [List.length_take, List.length_drop]; omega))) ?_
      refine runL_b [0] [(0, Sl a_l l.length c_l), (1, I i), (4, Sl none 0 0), (5, I (((half l.length : Nat) : Int))), (8, Bo (decide (((l.length : Nat) : Int) = 1)))] ?_
      refine runL_nil ?_
      refine tq_then ?_
      refine tc_seq ?_
      refine tc_rb [0,0,0] [(0, Sl a_l l.length c_l), (1, I i), (4, Sl none 0 0), (5, I (((half l.length : Nat) : Int))), (8, Bo (decide (((l.length : Nat) : Int) = 1))), (14, Bo (decide (i < ((half l.length : Nat) : Int))))] ?_
      refine tc_cond (decide (i < ((half l.length : Nat) : Int))) (fun h2 => ?_) (fun h2 => ?_)
      ·
        try simp only [decide_eq_true_eq, decide_eq_false_iff_not, Bool.and_eq_true, Bool.or_eq_true, Bool.and_eq_false_imp, Bool.or_eq_false_iff, Bool.not_eq_true', Bool.not_eq_false', Bool.not_eq_true, Bool.not_eq_false, beq_iff_eq, beq_eq_false_iff_ne, bne_iff_ne, ne_eq, Decidable.not_not, Int.not_lt, Int.not_le] at h2
        refine tc_seq ?_
        obtain ⟨a1, c1, ea1, ec1, en1, eh1, hs1⟩ := RS.reslXT h_l (half l.length) (by first | omega | (have hb_ := half_bd (n := l.length) (by omega); omega))
        obtain ⟨a2, c2, ea2, ec2, en2, eh2, hs2⟩ := RS.reslXD h_l (half l.length) (by first | omega | (have hb_ := half_bd (n := l.length) (by omega); omega))
        refine tc_draw [4, 9, 10] ?_
        refine dr_V [(0, Sl a_l l.length c_l), (1, I (((half l.length : Nat) : Int))), (2, Sl a1 ((l.take (half l.length)).length) c1), (3, I i), (5, Sl a_l l.length c_l), (6, I (((half l.length : Nat) : Int))), (7, Sl a2 ((l.drop (half l.length)).length) c2)] ?_
        refine dr_mid [] [(0,0), (1,0), (3,0), (5,0), (6,0)] [2, 7] [4] (List.forall_mem_cons.2 ⟨?_, (List.forall_mem_cons.2 ⟨?_, List.forall_mem_nil _⟩)⟩) (List.forall_mem_cons.2 ⟨?_, List.forall_mem_nil _⟩)
        · refine stab_of 2 17 (Sl a1 ((l.take (half l.length)).length) c1) [(15, Sl a_l l.length c_l), (16, I (((half l.length : Nat) : Int)))] (fun X => ?_)
          exact runL_reslE (a := a_l) (len := l.length) (cap := c_l) 17 1 none (some (I (((half l.length : Nat) : Int)))) 0 (half l.length) (.inl ⟨rfl, rfl⟩) (.inr ⟨_, rfl⟩) (by exact Nat.zero_le _) ea1 ec1 en1 eh1 stab_end
        · refine stab_of 7 22 (Sl a2 ((l.drop (half l.length)).length) c2) [(20, Sl a_l l.length c_l), (21, I (((half l.length : Nat) : Int)))] (fun X => ?_)
          exact runL_reslE (a := a_l) (len := l.length) (cap := c_l) 22 1 (some (I (((half l.length : Nat) : Int)))) none (half l.length) l.length (.inr ⟨_, rfl⟩) (.inl ⟨rfl, rfl⟩) (by first | omega | (have hb_ := half_bd (n := l.length) (by omega); omega)) ea2 ec2 en2 eh2 stab_end
        refine act_of 4 [(17, Sl a1 ((l.take (half l.length)).length) c1), (18, I i)] (fun X => ?_)
        refine runL_callR 19 (ih G a1 c1 (l.take (half l.length)) hs1 i (by first | assumption | omega | (have hb_ := half_bd (n := l.length) (by omega); simp only [List.length_take, List.length_drop]; omega) | exact fun s h => hs s (List.mem_of_mem_take h) | exact fun s h => hs s (List.mem_of_mem_drop h) | (have hb_ := half_bd (n := l.length) (by omega); simp only [List.length_take, List.length_drop]; omega)) (by first | assumption | omega | (have hb_ := half_bd (n := l.length) (by omega); simp only [List.length_take, List.length_drop]; omega) | exact fun s h => hs s (List.mem_of_mem_take h) | exact fun s h => hs s (List.mem_of_mem_drop h) | (have hb_ := half_bd (n := l.length) (by omega); simp only [List.length_take, List.length_drop]; omega)) (by first | assumption | omega | (have hb_ := half_bd (n := l.length) (by omega); simp only [List.length_take, List.length_drop]; omega) | exact fun s h => hs s (List.mem_of_mem_take h) | exact fun s h => hs s (List.mem_of_mem_drop h) | (have hb_ := half_bd (n := l.length) (by omega); simp only [List.length_take, List.length_drop]; omega)) (by first | assumption | omega | (have hb_ := half_bd (n := l.length) (by omega); simp only [List.length_take, List.length_drop]; omega) | exact fun s h => hs s (List.mem_of_mem_take h) | exact fun s h => hs s (List.mem_of_mem_drop h) | (have hb_ := half_bd (n := l.length) (by omega); simp only [List.length_take, List.length_drop]; omega)) (by have hb_ := half_bd (n := l.length) (by omega); simp only [List.length_take, List.length_drop]; omega)) (fun v G1 L1 hl1 hp => ?_)
        obtain ⟨a3, c3, r1, rfl, hr1, rfl⟩ := hp
        refine act_end (V' := [(0, Sl a_l l.length c_l), (1, I (((half l.length : Nat) : Int))), (2, Sl a1 ((l.take (half l.length)).length) c1), (3, I i), (4, Sl a3 ((rIn (l.take (half l.length)) i).length) c3), (5, Sl a_l l.length c_l), (6, I (((half l.length : Nat) : Int))), (7, Sl a2 ((l.drop (half l.length)).length) c2), (8, U (rRoot (l.drop (half l.length))))]) ?_
        refine dr_mid [0, 1, 2, 3] [(5,0), (6,0)] [7, 8] [9] (List.forall_mem_cons.2 ⟨?_, (List.forall_mem_cons.2 ⟨?_, List.forall_mem_nil _⟩)⟩) (List.forall_mem_cons.2 ⟨?_, List.forall_mem_nil _⟩)
        · refine stab_of 7 22 (Sl a2 ((l.drop (half l.length)).length) c2) [(20, Sl a_l l.length c_l), (21, I (((half l.length : Nat) : Int)))] (fun X => ?_)
          exact runL_reslE (a := a_l) (len := l.length) (cap := c_l) 22 1 (some (I (((half l.length : Nat) : Int)))) none (half l.length) l.length (.inr ⟨_, rfl⟩) (.inl ⟨rfl, rfl⟩) (by first | omega | (have hb_ := half_bd (n := l.length) (by omega); omega)) ea2 ec2 en2 eh2 stab_end
        · refine stab_of 8 23 (U (rRoot (l.drop (half l.length)))) [(22, Sl a2 ((l.drop (half l.length)).length) c2)] (fun X => ?_)
          exact runL_callV 23 (U (rRoot (l.drop (half l.length)))) (rRoot_con G1 a2 c2 (l.drop (half l.length)) (hs2.mono hl1) (by first | assumption | omega | (have hb_ := half_bd (n := l.length) (by omega); simp only [List.length_take, List.length_drop]; omega) | exact fun s h => hs s (List.mem_of_mem_take h) | exact fun s h => hs s (List.mem_of_mem_drop h) | (have hb_ := half_bd (n := l.length) (by omega); simp only [List.length_take, List.length_drop]; omega)) (by first | assumption | omega | (have hb_ := half_bd (n := l.length) (by omega); simp only [List.length_take, List.length_drop]; omega) | exact fun s h => hs s (List.mem_of_mem_take h) | exact fun s h => hs s (List.mem_of_mem_drop h) | (have hb_ := half_bd (n := l.length) (by omega); simp only [List.length_take, List.length_drop]; omega)) (by first | assumption | omega | (have hb_ := half_bd (n := l.length) (by omega); simp only [List.length_take, List.length_drop]; omega) | exact fun s h => hs s (List.mem_of_mem_take h) | exact fun s h => hs s (List.mem_of_mem_drop h) | (have hb_ := half_bd (n := l.length) (by omega); simp only [List.length_take, List.length_drop]; omega))) stab_end
        refine act_of 9 [(23, U (rRoot (l.drop (half l.length))))] (fun X => ?_)
        refine runL_bsl 24 1 #[U (rRoot (l.drop (half l.length)))] 26 (fun b1 => ?_)
        refine act_end (V' := [(0, Sl a_l l.length c_l), (1, I (((half l.length : Nat) : Int))), (2, Sl a1 ((l.take (half l.length)).length) c1), (3, I i), (4, Sl a3 ((rIn (l.take (half l.length)) i).length) c3), (5, Sl a_l l.length c_l), (6, I (((half l.length : Nat) : Int))), (7, Sl a2 ((l.drop (half l.length)).length) c2), (8, U (rRoot (l.drop (half l.length)))), (9, Sl (At b1 0) 1 1)]) ?_
        refine dr_mid [0, 1, 2, 3, 5, 6, 7, 8] [] [] [10] (List.forall_mem_nil _) (List.forall_mem_cons.2 ⟨?_, List.forall_mem_nil _⟩)
        refine act_of 10 [(19, Sl a3 ((rIn (l.take (half l.length)) i).length) c3), (24, Sl (At b1 0) 1 1)] (fun X => ?_)
        refine runL_app1' (b := b1) (cs := [U (rRoot (l.drop (half l.length)))]) 25 26 1 0 (E := EU) (rRoot (l.drop (half l.length))) hr1 ⟨rfl, (by have := rRoot_bd (l.drop (half l.length)); omega)⟩ (by have hb_ := half_bd (n := l.length) (by omega); have q_ := rIn_len l.length; have q1_ := q_ (l.take (half l.length)) i (by rw [List.length_take]; omega); have q2_ := q_ (l.drop (half l.length)) (i - (half l.length : Nat)) (by rw [List.length_drop]; omega); (try simp only [EU, List.length_append, List.length_cons, List.length_nil, List.length_take, List.length_drop] at *); omega) (by have hb_ := half_bd (n := l.length) (by omega); have q_ := rIn_len l.length; have q1_ := q_ (l.take (half l.length)) i (by rw [List.length_take]; omega); have q2_ := q_ (l.drop (half l.length)) (i - (half l.length : Nat)) (by rw [List.length_drop]; omega); (try simp only [EU, List.length_append, List.length_cons, List.length_nil, List.length_take, List.length_drop] at *); omega) (fun a5 c5 r2 hr2 => ?_)
        refine act_end (V' := [(0, Sl a_l l.length c_l), (1, I (((half l.length : Nat) : Int))), (2, Sl a1 ((l.take (half l.length)).length) c1), (3, I i), (4, Sl a3 ((rIn (l.take (half l.length)) i).length) c3), (5, Sl a_l l.length c_l), (6, I (((half l.length : Nat) : Int))), (7, Sl a2 ((l.drop (half l.length)).length) c2), (8, U (rRoot (l.drop (half l.length)))), (9, Sl (At b1 0) 1 1), (10, Sl a5 (((rIn (l.take (half l.length)) i) ++ [rRoot (l.drop (half l.length))]).length) c5), (11, Sl a5 (((rIn (l.take (half l.length)) i) ++ [rRoot (l.drop (half l.length))]).length) c5)]) ?_
        refine dr_end [0, 1, 2, 3, 5, 6, 7, 8] [(11,0)] [] [(0, Sl a_l l.length c_l), (1, I i), (4, Sl a5 (((rIn (l.take (half l.length)) i) ++ [rRoot (l.drop (half l.length))]).length) c5), (5, I (((half l.length : Nat) : Int))), (8, Bo (decide (((l.length : Nat) : Int) = 1))), (14, Bo (decide (i < ((half l.length : Nat) : Int))))] (List.forall_mem_nil _) ?_
        refine tq_then ?_
        refine tc_ret ?_
        refine tq_then_ret ?_
        refine tq_front 1 ?_
        have hf2 : rIn l i = (rIn (l.take (half l.length)) i) ++ [rRoot (l.drop (half l.length))] := by
          first | exact rIn_one (by omega) | exact rIn_left (by omega) (by omega) | exact rIn_right (by omega) (by omega)
        refine tq_ret [0] [Sl a5 (((rIn (l.take (half l.length)) i) ++ [rRoot (l.drop (half l.length))]).length) c5] (bp_rows [r2] (.cons_cons _ (.cons _ .slnil)) hl1 ?_)
        rw [hf2]
        try dsimp only
        exact ⟨a5, c5, r2, rfl, hr2, rfl⟩
      ·
        try simp only [decide_eq_true_eq, decide_eq_false_iff_not, Bool.and_eq_true, Bool.or_eq_true, Bool.and_eq_false_imp, Bool.or_eq_false_iff, Bool.not_eq_true', Bool.not_eq_false', Bool.not_eq_true, Bool.not_eq_false, beq_iff_eq, beq_eq_false_iff_ne, bne_iff_ne, ne_eq, Decidable.not_not, Int.not_lt, Int.not_le] at h2
        refine tc_skip ?_
        refine tq_then ?_
        refine tc_seq ?_
        obtain ⟨a6, c6, ea4, ec4, en4, eh4, hs4⟩ := RS.reslXD h_l (half l.length) (by first | omega | (have hb_ := half_bd (n := l.length) (by omega); omega))
        have e1 : IntKind.i64.wrap (i - (((half l.length : Nat) : Int))) = i - (((half l.length : Nat) : Int)) := IntWalk.i64_in _ (by first | omega | (have hb_ := half_bd (n := l.length) (by omega); omega))
        obtain ⟨a7, c7, ea5, ec5, en5, eh5, hs5⟩ := RS.reslXT h_l (half l.length) (by first | omega | (have hb_ := half_bd (n := l.length) (by omega); omega))
        refine tc_draw [6, 11, 12] ?_
        refine dr_V [(0, Sl a_l l.length c_l), (1, I (((half l.length : Nat) : Int))), (2, Sl a6 ((l.drop (half l.length)).length) c6), (3, I i), (4, I (((half l.length : Nat) : Int))), (5, I (i - (((half l.length : Nat) : Int)))), (7, Sl a_l l.length c_l), (8, I (((half l.length : Nat) : Int))), (9, Sl a7 ((l.take (half l.length)).length) c7)] ?_
        refine dr_mid [] [(0,0), (1,0), (3,0), (4,0), (7,0), (8,0)] [2, 5, 9] [6] (List.forall_mem_cons.2 ⟨?_, (List.forall_mem_cons.2 ⟨?_, (List.forall_mem_cons.2 ⟨?_, List.forall_mem_nil _⟩)⟩)⟩) (List.forall_mem_cons.2 ⟨?_, List.forall_mem_nil _⟩)
        · refine stab_of 2 28 (Sl a6 ((l.drop (half l.length)).length) c6) [(26, Sl a_l l.length c_l), (27, I (((half l.length : Nat) : Int)))] (fun X => ?_)
          exact runL_reslE (a := a_l) (len := l.length) (cap := c_l) 28 1 (some (I (((half l.length : Nat) : Int)))) none (half l.length) l.length (.inr ⟨_, rfl⟩) (.inl ⟨rfl, rfl⟩) (by first | omega | (have hb_ := half_bd (n := l.length) (by omega); omega)) ea4 ec4 en4 eh4 stab_end
        · refine stab_of 5 31 (I (i - (((half l.length : Nat) : Int)))) [(29, I i), (30, I (((half l.length : Nat) : Int)))] (fun X => ?_)
          exact runL_p1 31 (I (IntKind.i64.wrap (i - (((half l.length : Nat) : Int))))) (I (i - (((half l.length : Nat) : Int)))) (by simp only [e1]) stab_end
        · refine stab_of 9 35 (Sl a7 ((l.take (half l.length)).length) c7) [(33, Sl a_l l.length c_l), (34, I (((half l.length : Nat) : Int)))] (fun X => ?_)
          exact runL_reslE (a := a_l) (len := l.length) (cap := c_l) 35 1 none (some (I (((half l.length : Nat) : Int)))) 0 (half l.length) (.inl ⟨rfl, rfl⟩) (.inr ⟨_, rfl⟩) (by exact Nat.zero_le _) ea5 ec5 en5 eh5 stab_end
        refine act_of 6 [(28, Sl a6 ((l.drop (half l.length)).length) c6), (31, I (i - (((half l.length : Nat) : Int))))] (fun X => ?_)
        refine runL_callR 32 (ih G a6 c6 (l.drop (half l.length)) hs4 (i - (((half l.length : Nat) : Int))) (by first | assumption | omega | (have hb_ := half_bd (n := l.length) (by omega); simp only [List.length_take, List.length_drop]; omega) | exact fun s h => hs s (List.mem_of_mem_take h) | exact fun s h => hs s (List.mem_of_mem_drop h) | (have hb_ := half_bd (n := l.length) (by omega); simp only [List.length_take, List.length_drop]; omega)) (by first | assumption | omega | (have hb_ := half_bd (n := l.length) (by omega); simp only [List.length_take, List.length_drop]; omega) | exact fun s h => hs s (List.mem_of_mem_take h) | exact fun s h => hs s (List.mem_of_mem_drop h) | (have hb_ := half_bd (n := l.length) (by omega); simp only [List.length_take, List.length_drop]; omega)) (by first | assumption | omega | (have hb_ := half_bd (n := l.length) (by omega); simp only [List.length_take, List.length_drop]; omega) | exact fun s h => hs s (List.mem_of_mem_take h) | exact fun s h => hs s (List.mem_of_mem_drop h) | (have hb_ := half_bd (n := l.length) (by omega); simp only [List.length_take, List.length_drop]; omega)) (by first | assumption | omega | (have hb_ := half_bd (n := l.length) (by omega); simp only [List.length_take, List.length_drop]; omega) | exact fun s h => hs s (List.mem_of_mem_take h) | exact fun s h => hs s (List.mem_of_mem_drop h) | (have hb_ := half_bd (n := l.length) (by omega); simp only [List.length_take, List.length_drop]; omega)) (by have hb_ := half_bd (n := l.length) (by omega); simp only [List.length_take, List.length_drop]; omega)) (fun v G2 L1 hl2 hp => ?_)
        obtain ⟨a8, c8, r3, rfl, hr3, rfl⟩ := hp
        refine act_end (V' := [(0, Sl a_l l.length c_l), (1, I (((half l.length : Nat) : Int))), (2, Sl a6 ((l.drop (half l.length)).length) c6), (3, I i), (4, I (((half l.length : Nat) : Int))), (5, I (i - (((half l.length : Nat) : Int)))), (6, Sl a8 ((rIn (l.drop (half l.length)) (i - (((half l.length : Nat) : Int)))).length) c8), (7, Sl a_l l.length c_l), (8, I (((half l.length : Nat) : Int))), (9, Sl a7 ((l.take (half l.length)).length) c7), (10, U (rRoot (l.take (half l.length))))]) ?_
        refine dr_mid [0, 1, 2, 3, 4, 5] [(7,0), (8,0)] [9, 10] [11] (List.forall_mem_cons.2 ⟨?_, (List.forall_mem_cons.2 ⟨?_, List.forall_mem_nil _⟩)⟩) (List.forall_mem_cons.2 ⟨?_, List.forall_mem_nil _⟩)
        · refine stab_of 9 35 (Sl a7 ((l.take (half l.length)).length) c7) [(33, Sl a_l l.length c_l), (34, I (((half l.length : Nat) : Int)))] (fun X => ?_)
          exact runL_reslE (a := a_l) (len := l.length) (cap := c_l) 35 1 none (some (I (((half l.length : Nat) : Int)))) 0 (half l.length) (.inl ⟨rfl, rfl⟩) (.inr ⟨_, rfl⟩) (by exact Nat.zero_le _) ea5 ec5 en5 eh5 stab_end
        · refine stab_of 10 36 (U (rRoot (l.take (half l.length)))) [(35, Sl a7 ((l.take (half l.length)).length) c7)] (fun X => ?_)
          exact runL_callV 36 (U (rRoot (l.take (half l.length)))) (rRoot_con G2 a7 c7 (l.take (half l.length)) (hs5.mono hl2) (by first | assumption | omega | (have hb_ := half_bd (n := l.length) (by omega); simp only [List.length_take, List.length_drop]; omega) | exact fun s h => hs s (List.mem_of_mem_take h) | exact fun s h => hs s (List.mem_of_mem_drop h) | (have hb_ := half_bd (n := l.length) (by omega); simp only [List.length_take, List.length_drop]; omega)) (by first | assumption | omega | (have hb_ := half_bd (n := l.length) (by omega); simp only [List.length_take, List.length_drop]; omega) | exact fun s h => hs s (List.mem_of_mem_take h) | exact fun s h => hs s (List.mem_of_mem_drop h) | (have hb_ := half_bd (n := l.length) (by omega); simp only [List.length_take, List.length_drop]; omega)) (by first | assumption | omega | (have hb_ := half_bd (n := l.length) (by omega); simp only [List.length_take, List.length_drop]; omega) | exact fun s h => hs s (List.mem_of_mem_take h) | exact fun s h => hs s (List.mem_of_mem_drop h) | (have hb_ := half_bd (n := l.length) (by omega); simp only [List.length_take, List.length_drop]; omega))) stab_end
        refine act_of 11 [(36, U (rRoot (l.take (half l.length))))] (fun X => ?_)
        refine runL_bsl 37 1 #[U (rRoot (l.take (half l.length)))] 26 (fun b2 => ?_)
        refine act_end (V' := [(0, Sl a_l l.length c_l), (1, I (((half l.length : Nat) : Int))), (2, Sl a6 ((l.drop (half l.length)).length) c6), (3, I i), (4, I (((half l.length : Nat) : Int))), (5, I (i - (((half l.length : Nat) : Int)))), (6, Sl a8 ((rIn (l.drop (half l.length)) (i - (((half l.length : Nat) : Int)))).length) c8), (7, Sl a_l l.length c_l), (8, I (((half l.length : Nat) : Int))), (9, Sl a7 ((l.take (half l.length)).length) c7), (10, U (rRoot (l.take (half l.length)))), (11, Sl (At b2 0) 1 1)]) ?_
        refine dr_mid [0, 1, 2, 3, 4, 5, 7, 8, 9, 10] [] [] [12] (List.forall_mem_nil _) (List.forall_mem_cons.2 ⟨?_, List.forall_mem_nil _⟩)
        refine act_of 12 [(32, Sl a8 ((rIn (l.drop (half l.length)) (i - (((half l.length : Nat) : Int)))).length) c8), (37, Sl (At b2 0) 1 1)] (fun X => ?_)
        refine runL_app1' (b := b2) (cs := [U (rRoot (l.take (half l.length)))]) 38 26 1 0 (E := EU) (rRoot (l.take (half l.length))) hr3 ⟨rfl, (by have := rRoot_bd (l.take (half l.length)); omega)⟩ (by have hb_ := half_bd (n := l.length) (by omega); have q_ := rIn_len l.length; have q1_ := q_ (l.take (half l.length)) i (by rw [List.length_take]; omega); have q2_ := q_ (l.drop (half l.length)) (i - (half l.length : Nat)) (by rw [List.length_drop]; omega); (try simp only [EU, List.length_append, List.length_cons, List.length_nil, List.length_take, List.length_drop] at *); omega) (by have hb_ := half_bd (n := l.length) (by omega); have q_ := rIn_len l.length; have q1_ := q_ (l.take (half l.length)) i (by rw [List.length_take]; omega); have q2_ := q_ (l.drop (half l.length)) (i - (half l.length : Nat)) (by rw [List.length_drop]; omega); (try simp only [EU, List.length_append, List.length_cons, List.length_nil, List.length_take, List.length_drop] at *); omega) (fun a10 c10 r4 hr4 => ?_)
        refine act_end (V' := [(0, Sl a_l l.length c_l), (1, I (((half l.length : Nat) : Int))), (2, Sl a6 ((l.drop (half l.length)).length) c6), (3, I i), (4, I (((half l.length : Nat) : Int))), (5, I (i - (((half l.length : Nat) : Int)))), (6, Sl a8 ((rIn (l.drop (half l.length)) (i - (((half l.length : Nat) : Int)))).length) c8), (7, Sl a_l l.length c_l), (8, I (((half l.length : Nat) : Int))), (9, Sl a7 ((l.take (half l.length)).length) c7), (10, U (rRoot (l.take (half l.length)))), (11, Sl (At b2 0) 1 1), (12, Sl a10 (((rIn (l.drop (half l.length)) (i - (((half l.length : Nat) : Int)))) ++ [rRoot (l.take (half l.length))]).length) c10), (13, Sl a10 (((rIn (l.drop (half l.length)) (i - (((half l.length : Nat) : Int)))) ++ [rRoot (l.take (half l.length))]).length) c10)]) ?_
        refine dr_end [0, 1, 2, 3, 4, 5, 7, 8, 9, 10] [(13,0)] [] [(0, Sl a_l l.length c_l), (1, I i), (4, Sl a10 (((rIn (l.drop (half l.length)) (i - (((half l.length : Nat) : Int)))) ++ [rRoot (l.take (half l.length))]).length) c10), (5, I (((half l.length : Nat) : Int))), (8, Bo (decide (((l.length : Nat) : Int) = 1))), (14, Bo (decide (i < ((half l.length : Nat) : Int))))] (List.forall_mem_nil _) ?_
        refine tq_then ?_
        refine tc_ret ?_
        refine tq_front 1 ?_
        have hf3 : rIn l i = (rIn (l.drop (half l.length)) (i - (((half l.length : Nat) : Int)))) ++ [rRoot (l.take (half l.length))] := by
          first | exact rIn_one (by omega) | exact rIn_left (by omega) (by omega) | exact rIn_right (by omega) (by omega)
        refine tq_ret [0] [Sl a10 (((rIn (l.drop (half l.length)) (i - (((half l.length : Nat) : Int)))) ++ [rRoot (l.take (half l.length))]).length) c10] (bp_rows [r4] (.cons_cons _ (.cons _ .slnil)) hl2 ?_)
        rw [hf3]
        try dsimp only
        exact ⟨a10, c10, r4, rfl, hr4, rfl⟩

theorem rIn_con (G : Mem) (a_l : Option Addr) (c_l : Nat) (l : List ((List UInt8))) (h_l : RS ES G a_l c_l l) (i : Int) (h1l : 1 ≤ l.length) (h40 : l.length ≤ 40) (hs : ∀ s ∈ l, s.length ≤ 40) (hi : 0 ≤ i ∧ i < l.length) : Con Try.prog 72 #[Sl a_l l.length c_l, I i] G [] (fun u G' L' => ∃ (a1 : Option Addr) (c2 : Nat) (r3 : List Seg), u = Sl a1 ((rIn l i).length) c2 ∧ (TRow EU G' a1 c2 (rIn l i) r3) ∧ L' = [r3]) := rIn_con_aux (l.length + 1) G a_l c_l l h_l i h1l h40 hs hi (Nat.lt_succ_self _)

theorem rGrew_con_aux (N : Nat) : ∀ (G : Mem) (a_l : Option Addr) (c_l : Nat) (l : List ((List UInt8))) (h_l : RS ES G a_l c_l l) (m : Int) (whole : Bool) (h1l : 1 ≤ l.length) (h40 : l.length ≤ 40) (hs : ∀ s ∈ l, s.length ≤ 40) (hi : 1 ≤ m ∧ m ≤ l.length), l.length < N → Con Try.prog 78 #[Sl a_l l.length c_l, I m, Bo whole] G [] (fun u G' L' => ∃ (a1 : Option Addr) (c2 : Nat) (r3 : List Seg), u = Sl a1 ((rGrew l m whole).length) c2 ∧ (TRow EU G' a1 c2 (rGrew l m whole) r3) ∧ L' = [r3]) := by
  induction N with
  | zero => intros; omega
  | succ N ih =>
    intro G a_l c_l l h_l m whole h1l h40 hs hi hN
    refine con_of Try.func78 48 [(0, Sl a_l l.length c_l), (1, I m), (2, Bo whole)] rfl (fun w0 G0 => ?_)
    refine tc_rb [0] [(0, Sl a_l l.length c_l), (1, I m), (2, Bo whole), (6, Sl none 0 0)] ?_
    refine tc_rb [0,0,0] [(0, Sl a_l l.length c_l), (1, I m), (2, Bo whole), (6, Sl none 0 0), (7, I (((l.length : Nat) : Int)))] ?_
    refine tc_seq ?_
    refine tc_rb [0,0,0] [(0, Sl a_l l.length c_l), (1, I m), (2, Bo whole), (6, Sl none 0 0), (7, I (((l.length : Nat) : Int))), (13, Bo (decide (m = ((l.length : Nat) : Int))))] ?_
    refine tc_cond (decide (m = ((l.length : Nat) : Int))) (fun h1 => ?_) (fun h1 => ?_)
    ·
      try simp only [decide_eq_true_eq, decide_eq_false_iff_not, Bool.and_eq_true, Bool.or_eq_true, Bool.and_eq_false_imp, Bool.or_eq_false_iff, Bool.not_eq_true', Bool.not_eq_false', Bool.not_eq_true, Bool.not_eq_false, beq_iff_eq, beq_eq_false_iff_ne, bne_iff_ne, ne_eq, Decidable.not_not, Int.not_lt, Int.not_le] at h1
      refine tc_seq ?_
      refine tc_rb [0] [(0, Sl a_l l.length c_l), (1, I m), (2, Bo whole), (6, Sl none 0 0), (7, I (((l.length : Nat) : Int))), (13, Bo (decide (m = ((l.length : Nat) : Int)))), (14, Bo whole)] ?_
      refine tc_cond (whole) (fun h2 => ?_) (fun h2 => ?_)
      ·
        try simp only [decide_eq_true_eq, decide_eq_false_iff_not, Bool.and_eq_true, Bool.or_eq_true, Bool.and_eq_false_imp, Bool.or_eq_false_iff, Bool.not_eq_true', Bool.not_eq_false', Bool.not_eq_true, Bool.not_eq_false, beq_iff_eq, beq_eq_false_iff_ne, bne_iff_ne, ne_eq, Decidable.not_not, Int.not_lt, Int.not_le] at h2
        refine tc_rb [0] [(0, Sl a_l l.length c_l), (1, I m), (2, Bo whole), (6, Sl none 0 0), (7, I (((l.length : Nat) : Int))), (13, Bo (decide (m = ((l.length : Nat) : Int)))), (14, Bo whole)] ?_
        refine tc_ret ?_
        refine tq_then_ret ?_
        refine tq_then_ret ?_
        refine tq_empty ?_
        refine tq_front 0 ?_
        have hf1 : rGrew l m whole = [] := by
          rw [rGrew]; first | (rw [if_pos (by omega)]; simp_all; done) | (rw [if_neg (by omega), dif_neg (by omega), if_pos (by omega)]; done) | (rw [if_neg (by omega), dif_neg (by omega), if_neg (by omega)]; done)
        refine tq_ret [0] [Sl none 0 0] (bp_rows [[]] (.cons_cons _ .slnil) (Mem.le_refl _) ?_)
        rw [hf1]
        try dsimp only
        exact ⟨none, 0, ([]), rfl, (TRow.none EU _), rfl⟩
      ·
        try simp only [decide_eq_true_eq, decide_eq_false_iff_not, Bool.and_eq_true, Bool.or_eq_true, Bool.and_eq_false_imp, Bool.or_eq_false_iff, Bool.not_eq_true', Bool.not_eq_false', Bool.not_eq_true, Bool.not_eq_false, beq_iff_eq, beq_eq_false_iff_ne, bne_iff_ne, ne_eq, Decidable.not_not, Int.not_lt, Int.not_le] at h2
        refine tc_skip ?_
        refine tq_then ?_
        refine tc_seq ?_
        refine tc_region ?_
        refine runL_b [0] [(0, Sl a_l l.length c_l), (1, I m), (2, Bo whole), (6, Sl none 0 0), (7, I (((l.length : Nat) : Int))), (13, Bo (decide (m = ((l.length : Nat) : Int)))), (14, Bo whole), (15, Sl a_l l.length c_l)] ?_
        refine runL_callV 16 (U (rRoot l)) (rRoot_con G a_l c_l l h_l (by first | assumption | omega | (have hb_ := half_bd (n := l.length) (by omega); simp only [List.length_take, List.length_drop]; omega) | exact fun s h => hs s (List.mem_of_mem_take h) | exact fun s h => hs s (List.mem_of_mem_drop h) | (have hb_ := half_bd (n := l.length) (by omega); simp only [List.length_take, List.length_drop]; omega)) (by first | assumption | omega | (have hb_ := half_bd (n := l.length) (by omega); simp only [List.length_take, List.length_drop]; omega) | exact fun s h => hs s (List.mem_of_mem_take h) | exact fun s h => hs s (List.mem_of_mem_drop h) | (have hb_ := half_bd (n := l.length) (by omega); simp only [List.length_take, List.length_drop]; omega)) (by first | assumption | omega | (have hb_ := half_bd (n := l.length) (by omega); simp only [List.length_take, List.length_drop]; omega) | exact fun s h => hs s (List.mem_of_mem_take h) | exact fun s h => hs s (List.mem_of_mem_drop h) | (have hb_ := half_bd (n := l.length) (by omega); simp only [List.length_take, List.length_drop]; omega))) ?_
        refine runL_bsl 17 1 #[U (rRoot l)] 26 (fun b1 => ?_)
        refine runL_b [0] [(0, Sl a_l l.length c_l), (1, I m), (2, Bo whole), (6, Sl (At b1 0) 1 1), (7, I (((l.length : Nat) : Int))), (13, Bo (decide (m = ((l.length : Nat) : Int)))), (14, Bo whole)] ?_
        refine runL_nil ?_
        refine tq_then ?_
        refine tc_ret ?_
        refine tq_then_ret ?_
        refine tq_front 0 ?_
        have hf2 : rGrew l m whole = [rRoot l] := by
          rw [rGrew]; first | (rw [if_pos (by omega)]; simp_all; done) | (rw [if_neg (by omega), dif_neg (by omega), if_pos (by omega)]; done) | (rw [if_neg (by omega), dif_neg (by omega), if_neg (by omega)]; done)
        refine tq_ret [0] [Sl (At b1 0) 1 1] (bp_rows [[Sg b1 0 [U (rRoot l)]]] (.cons_cons _ .slnil) (Mem.le_refl _) ?_)
        rw [hf2]
        try dsimp only
        exact ⟨(At b1 0), 1, ([Sg b1 0 [U (rRoot l)]]), rfl, (TRow.of_lit [[U (rRoot l)]] [rRoot l] ⟨⟨rfl, (by have := rRoot_bd l; omega)⟩, trivial⟩ (by simp)), rfl⟩
    ·
      try simp only [decide_eq_true_eq, decide_eq_false_iff_not, Bool.and_eq_true, Bool.or_eq_true, Bool.and_eq_false_imp, Bool.or_eq_false_iff, Bool.not_eq_true', Bool.not_eq_false', Bool.not_eq_true, Bool.not_eq_false, beq_iff_eq, beq_eq_false_iff_ne, bne_iff_ne, ne_eq, Decidable.not_not, Int.not_lt, Int.not_le] at h1
      refine tc_skip ?_
      refine tq_then ?_
      refine tc_seq ?_
      refine tc_region ?_
      refine runL_b [0] [(0, Sl a_l l.length c_l), (1, I m), (2, Bo whole), (6, Sl none 0 0), (7, I (((l.length : Nat) : Int))), (13, Bo (decide (m = ((l.length : Nat) : Int)))), (18, I (((l.length : Nat) : Int)))] ?_
      refine runL_callV 19 (I (((half l.length : Nat) : Int))) (half_con G (((l.length : Nat) : Int)) (by first | assumption | omega | (have hb_ := half_bd (n := l.length) (by omega); simp only [List.length_take, List.length_drop]; omega) | exact fun s h => hs s (List.mem_of_mem_take h) | exact fun s h => hs s (List.mem_of_mem_drop h) | (have hb_ := half_bd (n := l.length) (by omega); simp only [List.length_take, List.length_drop]; omega))) ?_
      refine runL_b [0] [(0, Sl a_l l.length c_l), (1, I m), (2, Bo whole), (6, Sl none 0 0), (7, I (((l.length : Nat) : Int))), (8, I (((half l.length : Nat) : Int))), (13, Bo (decide (m = ((l.length : Nat) : Int))))] ?_
      refine runL_nil ?_
      refine tq_then ?_
      refine tc_seq ?_
      refine tc_rb [0,0,0] [(0, Sl a_l l.length c_l), (1, I m), (2, Bo whole), (6, Sl none 0 0), (7, I (((l.length : Nat) : Int))), (8, I (((half l.length : Nat) : Int))), (13, Bo (decide (m = ((l.length : Nat) : Int)))), (22, Bo (decide (m ≤ ((half l.length : Nat) : Int))))] ?_
      refine tc_cond (decide (m ≤ ((half l.length : Nat) : Int))) (fun h3 => ?_) (fun h3 => ?_)
      ·
        try simp only [decide_eq_true_eq, decide_eq_false_iff_not, Bool.and_eq_true, Bool.or_eq_true, Bool.and_eq_false_imp, Bool.or_eq_false_iff, Bool.not_eq_true', Bool.not_eq_false', Bool.not_eq_true, Bool.not_eq_false, beq_iff_eq, beq_eq_false_iff_ne, bne_iff_ne, ne_eq, Decidable.not_not, Int.not_lt, Int.not_le] at h3
        refine tc_seq ?_
        obtain ⟨a1, c1, ea1, ec1, en1, eh1, hs1⟩ := RS.reslXT h_l (half l.length) (by first | omega | (have hb_ := half_bd (n := l.length) (by omega); omega))
        obtain ⟨a2, c2, ea2, ec2, en2, eh2, hs2⟩ := RS.reslXD h_l (half l.length) (by first | omega | (have hb_ := half_bd (n := l.length) (by omega); omega))
        refine tc_draw [5, 10, 11] ?_
        refine dr_V [(0, Sl a_l l.length c_l), (1, I (((half l.length : Nat) : Int))), (2, Sl a1 ((l.take (half l.length)).length) c1), (3, I m), (4, Bo whole), (6, Sl a_l l.length c_l), (7, I (((half l.length : Nat) : Int))), (8, Sl a2 ((l.drop (half l.length)).length) c2)] ?_
        refine dr_mid [] [(0,0), (1,0), (3,0), (4,0), (6,0), (7,0)] [2, 8] [5] (List.forall_mem_cons.2 ⟨?_, (List.forall_mem_cons.2 ⟨?_, List.forall_mem_nil _⟩)⟩) (List.forall_mem_cons.2 ⟨?_, List.forall_mem_nil _⟩)
        · refine stab_of 2 25 (Sl a1 ((l.take (half l.length)).length) c1) [(23, Sl a_l l.length c_l), (24, I (((half l.length : Nat) : Int)))] (fun X => ?_)
          exact runL_reslE (a := a_l) (len := l.length) (cap := c_l) 25 1 none (some (I (((half l.length : Nat) : Int)))) 0 (half l.length) (.inl ⟨rfl, rfl⟩) (.inr ⟨_, rfl⟩) (by exact Nat.zero_le _) ea1 ec1 en1 eh1 stab_end
        · refine stab_of 8 31 (Sl a2 ((l.drop (half l.length)).length) c2) [(29, Sl a_l l.length c_l), (30, I (((half l.length : Nat) : Int)))] (fun X => ?_)
          exact runL_reslE (a := a_l) (len := l.length) (cap := c_l) 31 1 (some (I (((half l.length : Nat) : Int)))) none (half l.length) l.length (.inr ⟨_, rfl⟩) (.inl ⟨rfl, rfl⟩) (by first | omega | (have hb_ := half_bd (n := l.length) (by omega); omega)) ea2 ec2 en2 eh2 stab_end
        refine act_of 5 [(25, Sl a1 ((l.take (half l.length)).length) c1), (26, I m), (27, Bo whole)] (fun X => ?_)
        refine runL_callR 28 (ih G a1 c1 (l.take (half l.length)) hs1 m whole (by first | assumption | omega | (have hb_ := half_bd (n := l.length) (by omega); simp only [List.length_take, List.length_drop]; omega) | exact fun s h => hs s (List.mem_of_mem_take h) | exact fun s h => hs s (List.mem_of_mem_drop h) | (have hb_ := half_bd (n := l.length) (by omega); simp only [List.length_take, List.length_drop]; omega)) (by first | assumption | omega | (have hb_ := half_bd (n := l.length) (by omega); simp only [List.length_take, List.length_drop]; omega) | exact fun s h => hs s (List.mem_of_mem_take h) | exact fun s h => hs s (List.mem_of_mem_drop h) | (have hb_ := half_bd (n := l.length) (by omega); simp only [List.length_take, List.length_drop]; omega)) (by first | assumption | omega | (have hb_ := half_bd (n := l.length) (by omega); simp only [List.length_take, List.length_drop]; omega) | exact fun s h => hs s (List.mem_of_mem_take h) | exact fun s h => hs s (List.mem_of_mem_drop h) | (have hb_ := half_bd (n := l.length) (by omega); simp only [List.length_take, List.length_drop]; omega)) (by first | assumption | omega | (have hb_ := half_bd (n := l.length) (by omega); simp only [List.length_take, List.length_drop]; omega) | exact fun s h => hs s (List.mem_of_mem_take h) | exact fun s h => hs s (List.mem_of_mem_drop h) | (have hb_ := half_bd (n := l.length) (by omega); simp only [List.length_take, List.length_drop]; omega)) (by have hb_ := half_bd (n := l.length) (by omega); simp only [List.length_take, List.length_drop]; omega)) (fun v G1 L1 hl1 hp => ?_)
        obtain ⟨a3, c3, r1, rfl, hr1, rfl⟩ := hp
        refine act_end (V' := [(0, Sl a_l l.length c_l), (1, I (((half l.length : Nat) : Int))), (2, Sl a1 ((l.take (half l.length)).length) c1), (3, I m), (4, Bo whole), (5, Sl a3 ((rGrew (l.take (half l.length)) m whole).length) c3), (6, Sl a_l l.length c_l), (7, I (((half l.length : Nat) : Int))), (8, Sl a2 ((l.drop (half l.length)).length) c2), (9, U (rRoot (l.drop (half l.length))))]) ?_
        refine dr_mid [0, 1, 2, 3, 4] [(6,0), (7,0)] [8, 9] [10] (List.forall_mem_cons.2 ⟨?_, (List.forall_mem_cons.2 ⟨?_, List.forall_mem_nil _⟩)⟩) (List.forall_mem_cons.2 ⟨?_, List.forall_mem_nil _⟩)
        · refine stab_of 8 31 (Sl a2 ((l.drop (half l.length)).length) c2) [(29, Sl a_l l.length c_l), (30, I (((half l.length : Nat) : Int)))] (fun X => ?_)
          exact runL_reslE (a := a_l) (len := l.length) (cap := c_l) 31 1 (some (I (((half l.length : Nat) : Int)))) none (half l.length) l.length (.inr ⟨_, rfl⟩) (.inl ⟨rfl, rfl⟩) (by first | omega | (have hb_ := half_bd (n := l.length) (by omega); omega)) ea2 ec2 en2 eh2 stab_end
        · refine stab_of 9 32 (U (rRoot (l.drop (half l.length)))) [(31, Sl a2 ((l.drop (half l.length)).length) c2)] (fun X => ?_)
          exact runL_callV 32 (U (rRoot (l.drop (half l.length)))) (rRoot_con G1 a2 c2 (l.drop (half l.length)) (hs2.mono hl1) (by first | assumption | omega | (have hb_ := half_bd (n := l.length) (by omega); simp only [List.length_take, List.length_drop]; omega) | exact fun s h => hs s (List.mem_of_mem_take h) | exact fun s h => hs s (List.mem_of_mem_drop h) | (have hb_ := half_bd (n := l.length) (by omega); simp only [List.length_take, List.length_drop]; omega)) (by first | assumption | omega | (have hb_ := half_bd (n := l.length) (by omega); simp only [List.length_take, List.length_drop]; omega) | exact fun s h => hs s (List.mem_of_mem_take h) | exact fun s h => hs s (List.mem_of_mem_drop h) | (have hb_ := half_bd (n := l.length) (by omega); simp only [List.length_take, List.length_drop]; omega)) (by first | assumption | omega | (have hb_ := half_bd (n := l.length) (by omega); simp only [List.length_take, List.length_drop]; omega) | exact fun s h => hs s (List.mem_of_mem_take h) | exact fun s h => hs s (List.mem_of_mem_drop h) | (have hb_ := half_bd (n := l.length) (by omega); simp only [List.length_take, List.length_drop]; omega))) stab_end
        refine act_of 10 [(32, U (rRoot (l.drop (half l.length))))] (fun X => ?_)
        refine runL_bsl 33 1 #[U (rRoot (l.drop (half l.length)))] 26 (fun b2 => ?_)
        refine act_end (V' := [(0, Sl a_l l.length c_l), (1, I (((half l.length : Nat) : Int))), (2, Sl a1 ((l.take (half l.length)).length) c1), (3, I m), (4, Bo whole), (5, Sl a3 ((rGrew (l.take (half l.length)) m whole).length) c3), (6, Sl a_l l.length c_l), (7, I (((half l.length : Nat) : Int))), (8, Sl a2 ((l.drop (half l.length)).length) c2), (9, U (rRoot (l.drop (half l.length)))), (10, Sl (At b2 0) 1 1)]) ?_
        refine dr_mid [0, 1, 2, 3, 4, 6, 7, 8, 9] [] [] [11] (List.forall_mem_nil _) (List.forall_mem_cons.2 ⟨?_, List.forall_mem_nil _⟩)
        refine act_of 11 [(28, Sl a3 ((rGrew (l.take (half l.length)) m whole).length) c3), (33, Sl (At b2 0) 1 1)] (fun X => ?_)
        refine runL_app1' (b := b2) (cs := [U (rRoot (l.drop (half l.length)))]) 34 26 1 0 (E := EU) (rRoot (l.drop (half l.length))) hr1 ⟨rfl, (by have := rRoot_bd (l.drop (half l.length)); omega)⟩ (by have hb_ := half_bd (n := l.length) (by omega); have q_ := rGrew_len l.length; have q1_ := q_ (l.take (half l.length)) m whole (by rw [List.length_take]; omega); have q2_ := q_ (l.drop (half l.length)) (m - (half l.length : Nat)) false (by rw [List.length_drop]; omega); (try simp only [EU, List.length_append, List.length_cons, List.length_nil, List.length_take, List.length_drop] at *); omega) (by have hb_ := half_bd (n := l.length) (by omega); have q_ := rGrew_len l.length; have q1_ := q_ (l.take (half l.length)) m whole (by rw [List.length_take]; omega); have q2_ := q_ (l.drop (half l.length)) (m - (half l.length : Nat)) false (by rw [List.length_drop]; omega); (try simp only [EU, List.length_append, List.length_cons, List.length_nil, List.length_take, List.length_drop] at *); omega) (fun a5 c5 r2 hr2 => ?_)
        refine act_end (V' := [(0, Sl a_l l.length c_l), (1, I (((half l.length : Nat) : Int))), (2, Sl a1 ((l.take (half l.length)).length) c1), (3, I m), (4, Bo whole), (5, Sl a3 ((rGrew (l.take (half l.length)) m whole).length) c3), (6, Sl a_l l.length c_l), (7, I (((half l.length : Nat) : Int))), (8, Sl a2 ((l.drop (half l.length)).length) c2), (9, U (rRoot (l.drop (half l.length)))), (10, Sl (At b2 0) 1 1), (11, Sl a5 (((rGrew (l.take (half l.length)) m whole) ++ [rRoot (l.drop (half l.length))]).length) c5), (12, Sl a5 (((rGrew (l.take (half l.length)) m whole) ++ [rRoot (l.drop (half l.length))]).length) c5)]) ?_
        refine dr_end [0, 1, 2, 3, 4, 6, 7, 8, 9] [(12,0)] [] [(0, Sl a_l l.length c_l), (1, I m), (2, Bo whole), (6, Sl a5 (((rGrew (l.take (half l.length)) m whole) ++ [rRoot (l.drop (half l.length))]).length) c5), (7, I (((l.length : Nat) : Int))), (8, I (((half l.length : Nat) : Int))), (13, Bo (decide (m = ((l.length : Nat) : Int)))), (22, Bo (decide (m ≤ ((half l.length : Nat) : Int))))] (List.forall_mem_nil _) ?_
        refine tq_then ?_
        refine tc_ret ?_
        refine tq_then_ret ?_
        refine tq_front 1 ?_
        have hf3 : rGrew l m whole = (rGrew (l.take (half l.length)) m whole) ++ [rRoot (l.drop (half l.length))] := by
          rw [rGrew]; first | (rw [if_pos (by omega)]; simp_all; done) | (rw [if_neg (by omega), dif_neg (by omega), if_pos (by omega)]; done) | (rw [if_neg (by omega), dif_neg (by omega), if_neg (by omega)]; done)
        refine tq_ret [0] [Sl a5 (((rGrew (l.take (half l.length)) m whole) ++ [rRoot (l.drop (half l.length))]).length) c5] (bp_rows [r2] (.cons_cons _ (.cons _ .slnil)) hl1 ?_)
        rw [hf3]
        try dsimp only
        exact ⟨a5, c5, r2, rfl, hr2, rfl⟩
      ·
        try simp only [decide_eq_true_eq, decide_eq_false_iff_not, Bool.and_eq_true, Bool.or_eq_true, Bool.and_eq_false_imp, Bool.or_eq_false_iff, Bool.not_eq_true', Bool.not_eq_false', Bool.not_eq_true, Bool.not_eq_false, beq_iff_eq, beq_eq_false_iff_ne, bne_iff_ne, ne_eq, Decidable.not_not, Int.not_lt, Int.not_le] at h3
        refine tc_skip ?_
        refine tq_then ?_
        refine tc_seq ?_
        obtain ⟨a6, c6, ea4, ec4, en4, eh4, hs4⟩ := RS.reslXD h_l (half l.length) (by first | omega | (have hb_ := half_bd (n := l.length) (by omega); omega))
        have e1 : IntKind.i64.wrap (m - (((half l.length : Nat) : Int))) = m - (((half l.length : Nat) : Int)) := IntWalk.i64_in _ (by first | omega | (have hb_ := half_bd (n := l.length) (by omega); omega))
        obtain ⟨a7, c7, ea5, ec5, en5, eh5, hs5⟩ := RS.reslXT h_l (half l.length) (by first | omega | (have hb_ := half_bd (n := l.length) (by omega); omega))
        refine tc_draw [6, 11, 12] ?_
        refine dr_V [(0, Sl a_l l.length c_l), (1, I (((half l.length : Nat) : Int))), (2, Sl a6 ((l.drop (half l.length)).length) c6), (3, I m), (4, I (((half l.length : Nat) : Int))), (5, I (m - (((half l.length : Nat) : Int)))), (7, Sl a_l l.length c_l), (8, I (((half l.length : Nat) : Int))), (9, Sl a7 ((l.take (half l.length)).length) c7)] ?_
        refine dr_mid [] [(0,0), (1,0), (3,0), (4,0), (7,0), (8,0)] [2, 5, 9] [6] (List.forall_mem_cons.2 ⟨?_, (List.forall_mem_cons.2 ⟨?_, (List.forall_mem_cons.2 ⟨?_, List.forall_mem_nil _⟩)⟩)⟩) (List.forall_mem_cons.2 ⟨?_, List.forall_mem_nil _⟩)
        · refine stab_of 2 37 (Sl a6 ((l.drop (half l.length)).length) c6) [(35, Sl a_l l.length c_l), (36, I (((half l.length : Nat) : Int)))] (fun X => ?_)
          exact runL_reslE (a := a_l) (len := l.length) (cap := c_l) 37 1 (some (I (((half l.length : Nat) : Int)))) none (half l.length) l.length (.inr ⟨_, rfl⟩) (.inl ⟨rfl, rfl⟩) (by first | omega | (have hb_ := half_bd (n := l.length) (by omega); omega)) ea4 ec4 en4 eh4 stab_end
        · refine stab_of 5 40 (I (m - (((half l.length : Nat) : Int)))) [(38, I m), (39, I (((half l.length : Nat) : Int)))] (fun X => ?_)
          exact runL_p1 40 (I (IntKind.i64.wrap (m - (((half l.length : Nat) : Int))))) (I (m - (((half l.length : Nat) : Int)))) (by simp only [e1]) stab_end
        · refine stab_of 9 44 (Sl a7 ((l.take (half l.length)).length) c7) [(42, Sl a_l l.length c_l), (43, I (((half l.length : Nat) : Int)))] (fun X => ?_)
          exact runL_reslE (a := a_l) (len := l.length) (cap := c_l) 44 1 none (some (I (((half l.length : Nat) : Int)))) 0 (half l.length) (.inl ⟨rfl, rfl⟩) (.inr ⟨_, rfl⟩) (by exact Nat.zero_le _) ea5 ec5 en5 eh5 stab_end
        refine act_of 6 [(37, Sl a6 ((l.drop (half l.length)).length) c6), (40, I (m - (((half l.length : Nat) : Int))))] (fun X => ?_)
        refine runL_callR 41 (ih G a6 c6 (l.drop (half l.length)) hs4 (m - (((half l.length : Nat) : Int))) false (by first | assumption | omega | (have hb_ := half_bd (n := l.length) (by omega); simp only [List.length_take, List.length_drop]; omega) | exact fun s h => hs s (List.mem_of_mem_take h) | exact fun s h => hs s (List.mem_of_mem_drop h) | (have hb_ := half_bd (n := l.length) (by omega); simp only [List.length_take, List.length_drop]; omega)) (by first | assumption | omega | (have hb_ := half_bd (n := l.length) (by omega); simp only [List.length_take, List.length_drop]; omega) | exact fun s h => hs s (List.mem_of_mem_take h) | exact fun s h => hs s (List.mem_of_mem_drop h) | (have hb_ := half_bd (n := l.length) (by omega); simp only [List.length_take, List.length_drop]; omega)) (by first | assumption | omega | (have hb_ := half_bd (n := l.length) (by omega); simp only [List.length_take, List.length_drop]; omega) | exact fun s h => hs s (List.mem_of_mem_take h) | exact fun s h => hs s (List.mem_of_mem_drop h) | (have hb_ := half_bd (n := l.length) (by omega); simp only [List.length_take, List.length_drop]; omega)) (by first | assumption | omega | (have hb_ := half_bd (n := l.length) (by omega); simp only [List.length_take, List.length_drop]; omega) | exact fun s h => hs s (List.mem_of_mem_take h) | exact fun s h => hs s (List.mem_of_mem_drop h) | (have hb_ := half_bd (n := l.length) (by omega); simp only [List.length_take, List.length_drop]; omega)) (by have hb_ := half_bd (n := l.length) (by omega); simp only [List.length_take, List.length_drop]; omega)) (fun v G2 L1 hl2 hp => ?_)
        obtain ⟨a8, c8, r3, rfl, hr3, rfl⟩ := hp
        refine act_end (V' := [(0, Sl a_l l.length c_l), (1, I (((half l.length : Nat) : Int))), (2, Sl a6 ((l.drop (half l.length)).length) c6), (3, I m), (4, I (((half l.length : Nat) : Int))), (5, I (m - (((half l.length : Nat) : Int)))), (6, Sl a8 ((rGrew (l.drop (half l.length)) (m - (((half l.length : Nat) : Int))) false).length) c8), (7, Sl a_l l.length c_l), (8, I (((half l.length : Nat) : Int))), (9, Sl a7 ((l.take (half l.length)).length) c7), (10, U (rRoot (l.take (half l.length))))]) ?_
        refine dr_mid [0, 1, 2, 3, 4, 5] [(7,0), (8,0)] [9, 10] [11] (List.forall_mem_cons.2 ⟨?_, (List.forall_mem_cons.2 ⟨?_, List.forall_mem_nil _⟩)⟩) (List.forall_mem_cons.2 ⟨?_, List.forall_mem_nil _⟩)
        · refine stab_of 9 44 (Sl a7 ((l.take (half l.length)).length) c7) [(42, Sl a_l l.length c_l), (43, I (((half l.length : Nat) : Int)))] (fun X => ?_)
          exact runL_reslE (a := a_l) (len := l.length) (cap := c_l) 44 1 none (some (I (((half l.length : Nat) : Int)))) 0 (half l.length) (.inl ⟨rfl, rfl⟩) (.inr ⟨_, rfl⟩) (by exact Nat.zero_le _) ea5 ec5 en5 eh5 stab_end
        · refine stab_of 10 45 (U (rRoot (l.take (half l.length)))) [(44, Sl a7 ((l.take (half l.length)).length) c7)] (fun X => ?_)
          exact runL_callV 45 (U (rRoot (l.take (half l.length)))) (rRoot_con G2 a7 c7 (l.take (half l.length)) (hs5.mono hl2) (by first | assumption | omega | (have hb_ := half_bd (n := l.length) (by omega); simp only [List.length_take, List.length_drop]; omega) | exact fun s h => hs s (List.mem_of_mem_take h) | exact fun s h => hs s (List.mem_of_mem_drop h) | (have hb_ := half_bd (n := l.length) (by omega); simp only [List.length_take, List.length_drop]; omega)) (by first | assumption | omega | (have hb_ := half_bd (n := l.length) (by omega); simp only [List.length_take, List.length_drop]; omega) | exact fun s h => hs s (List.mem_of_mem_take h) | exact fun s h => hs s (List.mem_of_mem_drop h) | (have hb_ := half_bd (n := l.length) (by omega); simp only [List.length_take, List.length_drop]; omega)) (by first | assumption | omega | (have hb_ := half_bd (n := l.length) (by omega); simp only [List.length_take, List.length_drop]; omega) | exact fun s h => hs s (List.mem_of_mem_take h) | exact fun s h => hs s (List.mem_of_mem_drop h) | (have hb_ := half_bd (n := l.length) (by omega); simp only [List.length_take, List.length_drop]; omega))) stab_end
        refine act_of 11 [(45, U (rRoot (l.take (half l.length))))] (fun X => ?_)
        refine runL_bsl 46 1 #[U (rRoot (l.take (half l.length)))] 26 (fun b3 => ?_)
        refine act_end (V' := [(0, Sl a_l l.length c_l), (1, I (((half l.length : Nat) : Int))), (2, Sl a6 ((l.drop (half l.length)).length) c6), (3, I m), (4, I (((half l.length : Nat) : Int))), (5, I (m - (((half l.length : Nat) : Int)))), (6, Sl a8 ((rGrew (l.drop (half l.length)) (m - (((half l.length : Nat) : Int))) false).length) c8), (7, Sl a_l l.length c_l), (8, I (((half l.length : Nat) : Int))), (9, Sl a7 ((l.take (half l.length)).length) c7), (10, U (rRoot (l.take (half l.length)))), (11, Sl (At b3 0) 1 1)]) ?_
        refine dr_mid [0, 1, 2, 3, 4, 5, 7, 8, 9, 10] [] [] [12] (List.forall_mem_nil _) (List.forall_mem_cons.2 ⟨?_, List.forall_mem_nil _⟩)
        refine act_of 12 [(41, Sl a8 ((rGrew (l.drop (half l.length)) (m - (((half l.length : Nat) : Int))) false).length) c8), (46, Sl (At b3 0) 1 1)] (fun X => ?_)
        refine runL_app1' (b := b3) (cs := [U (rRoot (l.take (half l.length)))]) 47 26 1 0 (E := EU) (rRoot (l.take (half l.length))) hr3 ⟨rfl, (by have := rRoot_bd (l.take (half l.length)); omega)⟩ (by have hb_ := half_bd (n := l.length) (by omega); have q_ := rGrew_len l.length; have q1_ := q_ (l.take (half l.length)) m whole (by rw [List.length_take]; omega); have q2_ := q_ (l.drop (half l.length)) (m - (half l.length : Nat)) false (by rw [List.length_drop]; omega); (try simp only [EU, List.length_append, List.length_cons, List.length_nil, List.length_take, List.length_drop] at *); omega) (by have hb_ := half_bd (n := l.length) (by omega); have q_ := rGrew_len l.length; have q1_ := q_ (l.take (half l.length)) m whole (by rw [List.length_take]; omega); have q2_ := q_ (l.drop (half l.length)) (m - (half l.length : Nat)) false (by rw [List.length_drop]; omega); (try simp only [EU, List.length_append, List.length_cons, List.length_nil, List.length_take, List.length_drop] at *); omega) (fun a10 c10 r4 hr4 => ?_)
        refine act_end (V' := [(0, Sl a_l l.length c_l), (1, I (((half l.length : Nat) : Int))), (2, Sl a6 ((l.drop (half l.length)).length) c6), (3, I m), (4, I (((half l.length : Nat) : Int))), (5, I (m - (((half l.length : Nat) : Int)))), (6, Sl a8 ((rGrew (l.drop (half l.length)) (m - (((half l.length : Nat) : Int))) false).length) c8), (7, Sl a_l l.length c_l), (8, I (((half l.length : Nat) : Int))), (9, Sl a7 ((l.take (half l.length)).length) c7), (10, U (rRoot (l.take (half l.length)))), (11, Sl (At b3 0) 1 1), (12, Sl a10 (((rGrew (l.drop (half l.length)) (m - (((half l.length : Nat) : Int))) false) ++ [rRoot (l.take (half l.length))]).length) c10), (13, Sl a10 (((rGrew (l.drop (half l.length)) (m - (((half l.length : Nat) : Int))) false) ++ [rRoot (l.take (half l.length))]).length) c10)]) ?_
        refine dr_end [0, 1, 2, 3, 4, 5, 7, 8, 9, 10] [(13,0)] [] [(0, Sl a_l l.length c_l), (1, I m), (2, Bo whole), (6, Sl a10 (((rGrew (l.drop (half l.length)) (m - (((half l.length : Nat) : Int))) false) ++ [rRoot (l.take (half l.length))]).length) c10), (7, I (((l.length : Nat) : Int))), (8, I (((half l.length : Nat) : Int))), (13, Bo (decide (m = ((l.length : Nat) : Int)))), (22, Bo (decide (m ≤ ((half l.length : Nat) : Int))))] (List.forall_mem_nil _) ?_
        refine tq_then ?_
        refine tc_ret ?_
        refine tq_front 1 ?_
        have hf4 : rGrew l m whole = (rGrew (l.drop (half l.length)) (m - (((half l.length : Nat) : Int))) false) ++ [rRoot (l.take (half l.length))] := by
          rw [rGrew]; first | (rw [if_pos (by omega)]; simp_all; done) | (rw [if_neg (by omega), dif_neg (by omega), if_pos (by omega)]; done) | (rw [if_neg (by omega), dif_neg (by omega), if_neg (by omega)]; done)
        refine tq_ret [0] [Sl a10 (((rGrew (l.drop (half l.length)) (m - (((half l.length : Nat) : Int))) false) ++ [rRoot (l.take (half l.length))]).length) c10] (bp_rows [r4] (.cons_cons _ (.cons _ .slnil)) hl2 ?_)
        rw [hf4]
        try dsimp only
        exact ⟨a10, c10, r4, rfl, hr4, rfl⟩

theorem rGrew_con (G : Mem) (a_l : Option Addr) (c_l : Nat) (l : List ((List UInt8))) (h_l : RS ES G a_l c_l l) (m : Int) (whole : Bool) (h1l : 1 ≤ l.length) (h40 : l.length ≤ 40) (hs : ∀ s ∈ l, s.length ≤ 40) (hi : 1 ≤ m ∧ m ≤ l.length) : Con Try.prog 78 #[Sl a_l l.length c_l, I m, Bo whole] G [] (fun u G' L' => ∃ (a1 : Option Addr) (c2 : Nat) (r3 : List Seg), u = Sl a1 ((rGrew l m whole).length) c2 ∧ (TRow EU G' a1 c2 (rGrew l m whole) r3) ∧ L' = [r3]) := rGrew_con_aux (l.length + 1) G a_l c_l l h_l m whole h1l h40 hs hi (Nat.lt_succ_self _)

theorem rMade_con_aux (N : Nat) : ∀ (G : Mem) (n : Int) (i : Int) (m : Int) (a_p : Option Addr) (c_p : Nat) (p : List Int) (h_p : RS EU G a_p c_p p) (hn : 1 ≤ n ∧ n ≤ 40) (hi : 0 ≤ i ∧ i < n), n.toNat < N → Con Try.prog 75 #[I n, I i, U m, Sl a_p p.length c_p] G [] (fun u G' L' => u = .tuple #[U ((rMade n i m p).1), Bo ((rMade n i m p).2)]) := by
  induction N with
  | zero => intros; omega
  | succ N ih =>
    intro G n i m a_p c_p p h_p hn hi hN
    refine con_of Try.func75 69 [(0, I n), (1, I i), (2, U m), (3, Sl a_p p.length c_p)] rfl (fun w0 G0 => ?_)
    refine tc_rb [0,0] [(0, I n), (1, I i), (2, U m), (3, Sl a_p p.length c_p), (8, U 0), (9, Bo false)] ?_
    refine tc_seq ?_
    refine tc_rb [0,0] [(0, I n), (1, I i), (2, U m), (3, Sl a_p p.length c_p), (8, U 0), (9, Bo false), (17, Bo (decide (n = 1)))] ?_
    refine tc_cond (decide (n = 1)) (fun h1 => ?_) (fun h1 => ?_)
    ·
      try simp only [decide_eq_true_eq, decide_eq_false_iff_not, Bool.and_eq_true, Bool.or_eq_true, Bool.and_eq_false_imp, Bool.or_eq_false_iff, Bool.not_eq_true', Bool.not_eq_false', Bool.not_eq_true, Bool.not_eq_false, beq_iff_eq, beq_eq_false_iff_ne, bne_iff_ne, ne_eq, Decidable.not_not, Int.not_lt, Int.not_le] at h1
      refine tc_rb [0,0,0,0,0,0] [(0, I n), (1, I i), (2, U m), (3, Sl a_p p.length c_p), (8, U m), (9, Bo (decide (((p.length : Nat) : Int) = 0))), (17, Bo (decide (n = 1)))] ?_
      refine tc_ret ?_
      refine tq_then_ret ?_
      refine tq_ret [0, 0] [U m, Bo (decide (((p.length : Nat) : Int) = 0))] (bp_ret (Mem.le_refl _) ?_)
      have hf_ : (rMade n i m p) = (m, (decide (((p.length : Nat) : Int) = 0))) := by
        rw [rMade]; first | (rw [dif_pos (by omega)]; simp_all; done) | (rw [dif_neg (by omega), if_pos (by omega)]; done) | (have hl_ := lastI_get (p := p) (k := p.length - 1) rfl (by assumption); subst hl_; rw [dif_neg (by omega), if_neg (by omega)]; first | (rw [if_pos (by omega)]; done) | (rw [if_neg (by omega)]; done))
      (try rw [hf_]); first | with_reducible rfl | (simp only [packR]; done) | rfl
    ·
      try simp only [decide_eq_true_eq, decide_eq_false_iff_not, Bool.and_eq_true, Bool.or_eq_true, Bool.and_eq_false_imp, Bool.or_eq_false_iff, Bool.not_eq_true', Bool.not_eq_false', Bool.not_eq_true, Bool.not_eq_false, beq_iff_eq, beq_eq_false_iff_ne, bne_iff_ne, ne_eq, Decidable.not_not, Int.not_lt, Int.not_le] at h1
      refine tc_skip ?_
      refine tq_then ?_
      refine tc_seq ?_
      refine tc_rb [0,0,0] [(0, I n), (1, I i), (2, U m), (3, Sl a_p p.length c_p), (8, U 0), (9, Bo false), (17, Bo (decide (n = 1))), (24, Bo (decide (((p.length : Nat) : Int) = 0)))] ?_
      refine tc_cond (decide (((p.length : Nat) : Int) = 0)) (fun h2 => ?_) (fun h2 => ?_)
      ·
        try simp only [decide_eq_true_eq, decide_eq_false_iff_not, Bool.and_eq_true, Bool.or_eq_true, Bool.and_eq_false_imp, Bool.or_eq_false_iff, Bool.not_eq_true', Bool.not_eq_false', Bool.not_eq_true, Bool.not_eq_false, beq_iff_eq, beq_eq_false_iff_ne, bne_iff_ne, ne_eq, Decidable.not_not, Int.not_lt, Int.not_le] at h2
        refine tc_rb [0,0] [(0, I n), (1, I i), (2, U m), (3, Sl a_p p.length c_p), (8, U 0), (9, Bo false), (17, Bo (decide (n = 1))), (24, Bo (decide (((p.length : Nat) : Int) = 0)))] ?_
        refine tc_ret ?_
        refine tq_then_ret ?_
        refine tq_ret [0, 0] [U 0, Bo false] (bp_ret (Mem.le_refl _) ?_)
        have hf_ : (rMade n i m p) = (0, false) := by
          rw [rMade]; first | (rw [dif_pos (by omega)]; simp_all; done) | (rw [dif_neg (by omega), if_pos (by omega)]; done) | (have hl_ := lastI_get (p := p) (k := p.length - 1) rfl (by assumption); subst hl_; rw [dif_neg (by omega), if_neg (by omega)]; first | (rw [if_pos (by omega)]; done) | (rw [if_neg (by omega)]; done))
        (try rw [hf_]); first | with_reducible rfl | (simp only [packR]; done) | rfl
      ·
        try simp only [decide_eq_true_eq, decide_eq_false_iff_not, Bool.and_eq_true, Bool.or_eq_true, Bool.and_eq_false_imp, Bool.or_eq_false_iff, Bool.not_eq_true', Bool.not_eq_false', Bool.not_eq_true, Bool.not_eq_false, beq_iff_eq, beq_eq_false_iff_ne, bne_iff_ne, ne_eq, Decidable.not_not, Int.not_lt, Int.not_le] at h2
        refine tc_skip ?_
        refine tq_then ?_
        refine tc_seq ?_
        have e1 : IntKind.i64.wrap ((((p.length : Nat) : Int)) - 1) = ((p.length - 1 : Nat) : Int) := (IntWalk.i64_in _ (by first | omega | (have hle_ := h_p.le; have hmx_ := h_p.max; omega) | (have hb_ := half_bd (n := n.toNat) (by omega); omega))).trans (show (((p.length : Nat) : Int)) - 1 = ((p.length - 1 : Nat) : Int) by omega)
        obtain ⟨b1, o1, rfl⟩ := RS.addr h_p (k := p.length - 1) (by first | omega | (have hle_ := h_p.le; have hmx_ := h_p.max; omega) | (have hb_ := half_bd (n := n.toNat) (by omega); omega))
        obtain ⟨x1, hx1⟩ := getX (l := p) (k := p.length - 1) (by first | omega | (have hle_ := h_p.le; have hmx_ := h_p.max; omega) | (have hb_ := half_bd (n := n.toNat) (by omega); omega))
        obtain ⟨_, ⟨rfl, w1⟩, hc1⟩ := RS.get h_p hx1
        refine tc_draw [] ?_
        refine dr_V [(0, I n), (1, I (((half n.toNat : Nat) : Int))), (2, Sl (At b1 o1) p.length c_p), (3, Sl (At b1 o1) p.length c_p), (4, I (((p.length : Nat) : Int))), (5, I (((p.length - 1 : Nat) : Int))), (6, Pt b1 (o1 + (p.length - 1) * 1)), (7, U x1), (8, I (((half n.toNat : Nat) : Int))), (9, U x1)] ?_
        refine dr_end [] [(0,0), (2,0), (3,0), (4,0), (8,0), (9,0)] [1, 5, 6, 7] [(0, I n), (1, I i), (2, U m), (3, Sl (At b1 o1) p.length c_p), (8, U 0), (9, Bo false), (10, I (((half n.toNat : Nat) : Int))), (11, U x1), (17, Bo (decide (n = 1))), (24, Bo (decide (((p.length : Nat) : Int) = 0)))] (List.forall_mem_cons.2 ⟨?_, (List.forall_mem_cons.2 ⟨?_, (List.forall_mem_cons.2 ⟨?_, (List.forall_mem_cons.2 ⟨?_, List.forall_mem_nil _⟩)⟩)⟩)⟩) ?_
        · refine stab_of 1 26 (I (((half n.toNat : Nat) : Int))) [(25, I n)] (fun X => ?_)
          exact runL_callV 26 (I (((half n.toNat : Nat) : Int))) (half_con G n (by first | assumption | omega | (have hb_ := half_bd (n := n.toNat) (by omega); omega))) stab_end
        · refine stab_of 5 30 (I (((p.length - 1 : Nat) : Int))) [(29, I (((p.length : Nat) : Int)))] (fun X => ?_)
          exact runL_p1 30 (I (IntKind.i64.wrap ((((p.length : Nat) : Int)) - 1))) (I (((p.length - 1 : Nat) : Int))) (by simp only [e1]) stab_end
        · refine stab_of 6 31 (Pt b1 (o1 + (p.length - 1) * 1)) [(27, Sl (At b1 o1) p.length c_p), (30, I (((p.length - 1 : Nat) : Int)))] (fun X => ?_)
          exact runL_idx (b := b1) (off := o1) (len := p.length) (cap := c_p) (ik := .i64) 31 26 1 (p.length - 1) (by first | omega | (have hle_ := h_p.le; have hmx_ := h_p.max; omega) | (have hb_ := half_bd (n := n.toNat) (by omega); omega)) stab_end
        · refine stab_of 7 32 (U x1) [(31, Pt b1 (o1 + (p.length - 1) * 1))] (fun X => ?_)
          exact runL_ldG 32 26 (cs := [U x1]) 0 (U x1) hc1 stab_end
        refine tq_then ?_
        refine tc_seq ?_
        refine tc_seq ?_
        refine tc_region ?_
        refine runL_b [0,0,0,0] [(0, I n), (1, I i), (2, U m), (3, Sl (At b1 o1) p.length c_p), (8, U 0), (9, Bo false), (10, I (((half n.toNat : Nat) : Int))), (11, U x1), (17, Bo (decide (n = 1))), (24, Bo (decide (((p.length : Nat) : Int) = 0))), (33, Sl (At b1 o1) p.length c_p), (36, I (IntKind.i64.wrap ((((p.length : Nat) : Int)) - 1)))] ?_
        have e2 : IntKind.i64.wrap ((((p.length : Nat) : Int)) - 1) = ((p.length - 1 : Nat) : Int) := (IntWalk.i64_in _ (by first | omega | (have hle_ := h_p.le; have hmx_ := h_p.max; omega) | (have hb_ := half_bd (n := n.toNat) (by omega); omega))).trans (show (((p.length : Nat) : Int)) - 1 = ((p.length - 1 : Nat) : Int) by omega)
        refine runL_eq (fr' := [(0, I n), (1, I i), (2, U m), (3, Sl (At b1 o1) p.length c_p), (8, U 0), (9, Bo false), (10, I (((half n.toNat : Nat) : Int))), (11, U x1), (17, Bo (decide (n = 1))), (24, Bo (decide (((p.length : Nat) : Int) = 0))), (33, Sl (At b1 o1) p.length c_p), (36, I (((p.length - 1 : Nat) : Int)))]) (L' := []) (by simp only [e2]) (by rfl) ?_
        clear e2
        obtain ⟨a1, c1, ea1, ec1, en1, eh1, hs1⟩ := RS.reslXT h_p (p.length - 1) (by first | omega | (have hle_ := h_p.le; have hmx_ := h_p.max; omega) | (have hb_ := half_bd (n := n.toNat) (by omega); omega))
        refine runL_reslE (a := At b1 o1) (len := p.length) (cap := c_p) 37 1 none (some (I (((p.length - 1 : Nat) : Int)))) 0 (p.length - 1) (.inl ⟨rfl, rfl⟩) (.inr ⟨_, rfl⟩) (by exact Nat.zero_le _) ea1 ec1 en1 eh1 ?_
        refine runL_b [0] [(0, I n), (1, I i), (2, U m), (3, Sl a1 ((p.take (p.length - 1)).length) c1), (8, U 0), (9, Bo false), (10, I (((half n.toNat : Nat) : Int))), (11, U x1), (17, Bo (decide (n = 1))), (24, Bo (decide (((p.length : Nat) : Int) = 0)))] ?_
        refine runL_nil ?_
        refine tq_then ?_
        refine tc_rb [0,0,0] [(0, I n), (1, I i), (2, U m), (3, Sl a1 ((p.take (p.length - 1)).length) c1), (8, U 0), (9, Bo false), (10, I (((half n.toNat : Nat) : Int))), (11, U x1), (17, Bo (decide (n = 1))), (24, Bo (decide (((p.length : Nat) : Int) = 0))), (40, Bo (decide (i < ((half n.toNat : Nat) : Int))))] ?_
        refine tc_cond (decide (i < ((half n.toNat : Nat) : Int))) (fun h3 => ?_) (fun h3 => ?_)
        ·
          try simp only [decide_eq_true_eq, decide_eq_false_iff_not, Bool.and_eq_true, Bool.or_eq_true, Bool.and_eq_false_imp, Bool.or_eq_false_iff, Bool.not_eq_true', Bool.not_eq_false', Bool.not_eq_true, Bool.not_eq_false, beq_iff_eq, beq_eq_false_iff_ne, bne_iff_ne, ne_eq, Decidable.not_not, Int.not_lt, Int.not_le] at h3
          refine tc_seq ?_
          refine tc_region ?_
          refine runL_b [0,0,0,0] [(0, I n), (1, I i), (2, U m), (3, Sl a1 ((p.take (p.length - 1)).length) c1), (8, U 0), (9, Bo false), (10, I (((half n.toNat : Nat) : Int))), (11, U x1), (17, Bo (decide (n = 1))), (24, Bo (decide (((p.length : Nat) : Int) = 0))), (40, Bo (decide (i < ((half n.toNat : Nat) : Int)))), (42, I (((half n.toNat : Nat) : Int))), (43, I i), (44, U m), (45, Sl a1 ((p.take (p.length - 1)).length) c1)] ?_
          refine runL_callV 46 (.tuple #[U ((rMade (((half n.toNat : Nat) : Int)) i m (p.take (p.length - 1))).1), Bo ((rMade (((half n.toNat : Nat) : Int)) i m (p.take (p.length - 1))).2)]) (ih G (((half n.toNat : Nat) : Int)) i m a1 c1 (p.take (p.length - 1)) hs1 (by first | assumption | omega | (have hb_ := half_bd (n := n.toNat) (by omega); omega)) (by first | assumption | omega | (have hb_ := half_bd (n := n.toNat) (by omega); omega)) (by have hb_ := half_bd (n := n.toNat) (by omega); omega)) ?_
          refine runL_b [0,0,0,0,0] [(0, I n), (1, I i), (2, U m), (3, Sl a1 ((p.take (p.length - 1)).length) c1), (8, U 0), (9, Bo false), (10, I (((half n.toNat : Nat) : Int))), (11, U x1), (12, U ((rMade (((half n.toNat : Nat) : Int)) i m (p.take (p.length - 1))).1)), (13, Bo ((rMade (((half n.toNat : Nat) : Int)) i m (p.take (p.length - 1))).2)), (17, Bo (decide (n = 1))), (24, Bo (decide (((p.length : Nat) : Int) = 0))), (40, Bo (decide (i < ((half n.toNat : Nat) : Int))))] ?_
          refine runL_nil ?_
          refine tq_then ?_
          refine tc_seq ?_
          refine tc_region ?_
          refine runL_b [0,0] [(0, I n), (1, I i), (2, U m), (3, Sl a1 ((p.take (p.length - 1)).length) c1), (8, U 0), (9, Bo false), (10, I (((half n.toNat : Nat) : Int))), (11, U x1), (13, Bo ((rMade (((half n.toNat : Nat) : Int)) i m (p.take (p.length - 1))).2)), (17, Bo (decide (n = 1))), (24, Bo (decide (((p.length : Nat) : Int) = 0))), (40, Bo (decide (i < ((half n.toNat : Nat) : Int)))), (49, U ((rMade (((half n.toNat : Nat) : Int)) i m (p.take (p.length - 1))).1)), (50, U x1)] ?_
          refine runL_callV 51 (U (two5 ((rMade (((half n.toNat : Nat) : Int)) i m (p.take (p.length - 1))).1) x1)) (markTwo_con 5 ((rMade (((half n.toNat : Nat) : Int)) i m (p.take (p.length - 1))).1) x1 G) ?_
          refine runL_b [0,0,0] [(0, I n), (1, I i), (2, U m), (3, Sl a1 ((p.take (p.length - 1)).length) c1), (8, U (two5 ((rMade (((half n.toNat : Nat) : Int)) i m (p.take (p.length - 1))).1) x1)), (9, Bo ((rMade (((half n.toNat : Nat) : Int)) i m (p.take (p.length - 1))).2)), (10, I (((half n.toNat : Nat) : Int))), (11, U x1), (17, Bo (decide (n = 1))), (24, Bo (decide (((p.length : Nat) : Int) = 0))), (40, Bo (decide (i < ((half n.toNat : Nat) : Int))))] ?_
          refine runL_nil ?_
          refine tq_then ?_
          refine tc_ret ?_
          refine tq_then_ret ?_
          refine tq_ret [0, 0] [U (two5 ((rMade (((half n.toNat : Nat) : Int)) i m (p.take (p.length - 1))).1) x1), Bo ((rMade (((half n.toNat : Nat) : Int)) i m (p.take (p.length - 1))).2)] (bp_ret (Mem.le_refl _) ?_)
          have hf_ : (rMade n i m p) = ((two5 ((rMade (((half n.toNat : Nat) : Int)) i m (p.take (p.length - 1))).1) x1), ((rMade (((half n.toNat : Nat) : Int)) i m (p.take (p.length - 1))).2)) := by
            rw [rMade]; first | (rw [dif_pos (by omega)]; simp_all; done) | (rw [dif_neg (by omega), if_pos (by omega)]; done) | (have hl_ := lastI_get (p := p) (k := p.length - 1) rfl (by assumption); subst hl_; rw [dif_neg (by omega), if_neg (by omega)]; first | (rw [if_pos (by omega)]; done) | (rw [if_neg (by omega)]; done))
          (try rw [hf_]); first | with_reducible rfl | (simp only [packR]; done) | rfl
        ·
          try simp only [decide_eq_true_eq, decide_eq_false_iff_not, Bool.and_eq_true, Bool.or_eq_true, Bool.and_eq_false_imp, Bool.or_eq_false_iff, Bool.not_eq_true', Bool.not_eq_false', Bool.not_eq_true, Bool.not_eq_false, beq_iff_eq, beq_eq_false_iff_ne, bne_iff_ne, ne_eq, Decidable.not_not, Int.not_lt, Int.not_le] at h3
          refine tc_skip ?_
          refine tq_then ?_
          refine tc_seq ?_
          refine tc_region ?_
          refine runL_b [0,0,0,0,0,0,0,0] [(0, I n), (1, I i), (2, U m), (3, Sl a1 ((p.take (p.length - 1)).length) c1), (8, U 0), (9, Bo false), (10, I (((half n.toNat : Nat) : Int))), (11, U x1), (17, Bo (decide (n = 1))), (24, Bo (decide (((p.length : Nat) : Int) = 0))), (40, Bo (decide (i < ((half n.toNat : Nat) : Int)))), (56, I (IntKind.i64.wrap (n - (((half n.toNat : Nat) : Int))))), (59, I (IntKind.i64.wrap (i - (((half n.toNat : Nat) : Int))))), (60, U m), (61, Sl a1 ((p.take (p.length - 1)).length) c1)] ?_
          have e3 : IntKind.i64.wrap (n - (((half n.toNat : Nat) : Int))) = n - (((half n.toNat : Nat) : Int)) := IntWalk.i64_in _ (by first | omega | (have hle_ := h_p.le; have hmx_ := h_p.max; omega) | (have hb_ := half_bd (n := n.toNat) (by omega); omega))
          have e4 : IntKind.i64.wrap (i - (((half n.toNat : Nat) : Int))) = i - (((half n.toNat : Nat) : Int)) := IntWalk.i64_in _ (by first | omega | (have hle_ := h_p.le; have hmx_ := h_p.max; omega) | (have hb_ := half_bd (n := n.toNat) (by omega); omega))
          refine runL_eq (fr' := [(0, I n), (1, I i), (2, U m), (3, Sl a1 ((p.take (p.length - 1)).length) c1), (8, U 0), (9, Bo false), (10, I (((half n.toNat : Nat) : Int))), (11, U x1), (17, Bo (decide (n = 1))), (24, Bo (decide (((p.length : Nat) : Int) = 0))), (40, Bo (decide (i < ((half n.toNat : Nat) : Int)))), (56, I (n - (((half n.toNat : Nat) : Int)))), (59, I (i - (((half n.toNat : Nat) : Int)))), (60, U m), (61, Sl a1 ((p.take (p.length - 1)).length) c1)]) (L' := []) (by simp only [e3, e4]) (by rfl) ?_
          clear e4 e3
          refine runL_callV 62 (.tuple #[U ((rMade (n - (((half n.toNat : Nat) : Int))) (i - (((half n.toNat : Nat) : Int))) m (p.take (p.length - 1))).1), Bo ((rMade (n - (((half n.toNat : Nat) : Int))) (i - (((half n.toNat : Nat) : Int))) m (p.take (p.length - 1))).2)]) (ih G (n - (((half n.toNat : Nat) : Int))) (i - (((half n.toNat : Nat) : Int))) m a1 c1 (p.take (p.length - 1)) hs1 (by first | assumption | omega | (have hb_ := half_bd (n := n.toNat) (by omega); omega)) (by first | assumption | omega | (have hb_ := half_bd (n := n.toNat) (by omega); omega)) (by have hb_ := half_bd (n := n.toNat) (by omega); omega)) ?_
          refine runL_b [0,0,0,0,0] [(0, I n), (1, I i), (2, U m), (3, Sl a1 ((p.take (p.length - 1)).length) c1), (8, U 0), (9, Bo false), (10, I (((half n.toNat : Nat) : Int))), (11, U x1), (14, U ((rMade (n - (((half n.toNat : Nat) : Int))) (i - (((half n.toNat : Nat) : Int))) m (p.take (p.length - 1))).1)), (15, Bo ((rMade (n - (((half n.toNat : Nat) : Int))) (i - (((half n.toNat : Nat) : Int))) m (p.take (p.length - 1))).2)), (17, Bo (decide (n = 1))), (24, Bo (decide (((p.length : Nat) : Int) = 0))), (40, Bo (decide (i < ((half n.toNat : Nat) : Int))))] ?_
          refine runL_nil ?_
          refine tq_then ?_
          refine tc_seq ?_
          refine tc_region ?_
          refine runL_b [0,0] [(0, I n), (1, I i), (2, U m), (3, Sl a1 ((p.take (p.length - 1)).length) c1), (8, U 0), (9, Bo false), (10, I (((half n.toNat : Nat) : Int))), (11, U x1), (15, Bo ((rMade (n - (((half n.toNat : Nat) : Int))) (i - (((half n.toNat : Nat) : Int))) m (p.take (p.length - 1))).2)), (17, Bo (decide (n = 1))), (24, Bo (decide (((p.length : Nat) : Int) = 0))), (40, Bo (decide (i < ((half n.toNat : Nat) : Int)))), (65, U x1), (66, U ((rMade (n - (((half n.toNat : Nat) : Int))) (i - (((half n.toNat : Nat) : Int))) m (p.take (p.length - 1))).1))] ?_
          refine runL_callV 67 (U (two5 x1 ((rMade (n - (((half n.toNat : Nat) : Int))) (i - (((half n.toNat : Nat) : Int))) m (p.take (p.length - 1))).1))) (markTwo_con 5 x1 ((rMade (n - (((half n.toNat : Nat) : Int))) (i - (((half n.toNat : Nat) : Int))) m (p.take (p.length - 1))).1) G) ?_
          refine runL_b [0,0,0] [(0, I n), (1, I i), (2, U m), (3, Sl a1 ((p.take (p.length - 1)).length) c1), (8, U (two5 x1 ((rMade (n - (((half n.toNat : Nat) : Int))) (i - (((half n.toNat : Nat) : Int))) m (p.take (p.length - 1))).1))), (9, Bo ((rMade (n - (((half n.toNat : Nat) : Int))) (i - (((half n.toNat : Nat) : Int))) m (p.take (p.length - 1))).2)), (10, I (((half n.toNat : Nat) : Int))), (11, U x1), (17, Bo (decide (n = 1))), (24, Bo (decide (((p.length : Nat) : Int) = 0))), (40, Bo (decide (i < ((half n.toNat : Nat) : Int))))] ?_
          refine runL_nil ?_
          refine tq_then ?_
          refine tc_ret ?_
          refine tq_ret [0, 0] [U (two5 x1 ((rMade (n - (((half n.toNat : Nat) : Int))) (i - (((half n.toNat : Nat) : Int))) m (p.take (p.length - 1))).1)), Bo ((rMade (n - (((half n.toNat : Nat) : Int))) (i - (((half n.toNat : Nat) : Int))) m (p.take (p.length - 1))).2)] (bp_ret (Mem.le_refl _) ?_)
          have hf_ : (rMade n i m p) = ((two5 x1 ((rMade (n - (((half n.toNat : Nat) : Int))) (i - (((half n.toNat : Nat) : Int))) m (p.take (p.length - 1))).1)), ((rMade (n - (((half n.toNat : Nat) : Int))) (i - (((half n.toNat : Nat) : Int))) m (p.take (p.length - 1))).2)) := by
            rw [rMade]; first | (rw [dif_pos (by omega)]; simp_all; done) | (rw [dif_neg (by omega), if_pos (by omega)]; done) | (have hl_ := lastI_get (p := p) (k := p.length - 1) rfl (by assumption); subst hl_; rw [dif_neg (by omega), if_neg (by omega)]; first | (rw [if_pos (by omega)]; done) | (rw [if_neg (by omega)]; done))
          (try rw [hf_]); first | with_reducible rfl | (simp only [packR]; done) | rfl

theorem rMade_con (G : Mem) (n : Int) (i : Int) (m : Int) (a_p : Option Addr) (c_p : Nat) (p : List Int) (h_p : RS EU G a_p c_p p) (hn : 1 ≤ n ∧ n ≤ 40) (hi : 0 ≤ i ∧ i < n) : Con Try.prog 75 #[I n, I i, U m, Sl a_p p.length c_p] G [] (fun u G' L' => u = .tuple #[U ((rMade n i m p).1), Bo ((rMade n i m p).2)]) := rMade_con_aux (n.toNat + 1) G n i m a_p c_p p h_p hn hi (Nat.lt_succ_self _)

theorem rBoth_con_aux (N : Nat) : ∀ (G : Mem) (a : Int) (m : Int) (n : Int) (whole : Bool) (a_p : Option Addr) (c_p : Nat) (p : List Int) (h_p : RS EU G a_p c_p p) (hn : 1 ≤ m ∧ m ≤ n ∧ n ≤ 40), n.toNat < N → Con Try.prog 79 #[U a, I m, I n, Bo whole, Sl a_p p.length c_p] G [] (fun u G' L' => u = .tuple #[U ((rBoth a m n whole p).1), U ((rBoth a m n whole p).2.1), Bo ((rBoth a m n whole p).2.2)]) := by
  induction N with
  | zero => intros; omega
  | succ N ih =>
    intro G a m n whole a_p c_p p h_p hn hN
    refine con_of Try.func79 95 [(0, U a), (1, I m), (2, I n), (3, Bo whole), (4, Sl a_p p.length c_p)] rfl (fun w0 G0 => ?_)
    refine tc_rb [0,0,0] [(0, U a), (1, I m), (2, I n), (3, Bo whole), (4, Sl a_p p.length c_p), (10, U 0), (11, U 0), (12, Bo false)] ?_
    refine tc_seq ?_
    refine tc_rb [0,0,0] [(0, U a), (1, I m), (2, I n), (3, Bo whole), (4, Sl a_p p.length c_p), (10, U 0), (11, U 0), (12, Bo false), (23, Bo (decide (m = n)))] ?_
    refine tc_cond (decide (m = n)) (fun h1 => ?_) (fun h1 => ?_)
    ·
      try simp only [decide_eq_true_eq, decide_eq_false_iff_not, Bool.and_eq_true, Bool.or_eq_true, Bool.and_eq_false_imp, Bool.or_eq_false_iff, Bool.not_eq_true', Bool.not_eq_false', Bool.not_eq_true, Bool.not_eq_false, beq_iff_eq, beq_eq_false_iff_ne, bne_iff_ne, ne_eq, Decidable.not_not, Int.not_lt, Int.not_le] at h1
      refine tc_seq ?_
      refine tc_block ?_
      refine tc_rb [0,0] [(0, U a), (1, I m), (2, I n), (3, Bo whole), (4, Sl a_p p.length c_p), (10, U 0), (11, U 0), (12, Bo false), (23, Bo (decide (m = n))), (24, Bo whole)] ?_
      refine tc_cond (whole) (fun h2 => ?_) (fun h2 => ?_)
      ·
        try simp only [decide_eq_true_eq, decide_eq_false_iff_not, Bool.and_eq_true, Bool.or_eq_true, Bool.and_eq_false_imp, Bool.or_eq_false_iff, Bool.not_eq_true', Bool.not_eq_false', Bool.not_eq_true, Bool.not_eq_false, beq_iff_eq, beq_eq_false_iff_ne, bne_iff_ne, ne_eq, Decidable.not_not, Int.not_lt, Int.not_le] at h2
        refine tc_rb [0,0,0,0,0,0,0,0] [(0, U a), (1, I m), (2, I n), (3, Bo whole), (4, Sl a_p p.length c_p), (10, U a), (11, U a), (12, Bo (decide (((p.length : Nat) : Int) = 0))), (23, Bo (decide (m = n))), (24, Bo whole)] ?_
        refine tc_ret ?_
        refine tq_block_ret ?_
        refine tq_then_ret ?_
        refine tq_then_ret ?_
        refine tq_ret [0, 0, 0] [U a, U a, Bo (decide (((p.length : Nat) : Int) = 0))] (bp_ret (Mem.le_refl _) ?_)
        have hf_ : (rBoth a m n whole p) = (a, a, (decide (((p.length : Nat) : Int) = 0))) := by
          rw [rBoth]; first | (rw [if_pos (by omega)]; simp_all; done) | (rw [if_pos (by omega), if_neg (by simp_all), if_neg (by omega)]; done) | (rw [if_pos (by omega)]; have hl_ := lastI_get (p := p) (k := 0) (by omega) (by assumption); subst hl_; rw [if_neg (by simp_all), if_pos (by omega)]; done) | (rw [if_neg (by omega), if_pos (by omega)]; done) | (have hl_ := lastI_get (p := p) (k := p.length - 1) rfl (by assumption); subst hl_; rw [if_neg (by omega), if_neg (by omega), dif_neg (by omega)]; first | (rw [if_pos (by omega)]; done) | (rw [if_neg (by omega)]; done))
        (try rw [hf_]); first | with_reducible rfl | (simp only [packR]; done) | rfl
      ·
        try simp only [decide_eq_true_eq, decide_eq_false_iff_not, Bool.and_eq_true, Bool.or_eq_true, Bool.and_eq_false_imp, Bool.or_eq_false_iff, Bool.not_eq_true', Bool.not_eq_false', Bool.not_eq_true, Bool.not_eq_false, beq_iff_eq, beq_eq_false_iff_ne, bne_iff_ne, ne_eq, Decidable.not_not, Int.not_lt, Int.not_le] at h2
        refine tc_rb [0,0,0,0] [(0, U a), (1, I m), (2, I n), (3, Bo whole), (4, Sl a_p p.length c_p), (10, U 0), (11, U 0), (12, Bo false), (23, Bo (decide (m = n))), (24, Bo whole), (31, Bo (decide (((p.length : Nat) : Int) = 1)))] ?_
        refine tc_cond (decide (((p.length : Nat) : Int) = 1)) (fun h3 => ?_) (fun h3 => ?_)
        ·
          try simp only [decide_eq_true_eq, decide_eq_false_iff_not, Bool.and_eq_true, Bool.or_eq_true, Bool.and_eq_false_imp, Bool.or_eq_false_iff, Bool.not_eq_true', Bool.not_eq_false', Bool.not_eq_true, Bool.not_eq_false, beq_iff_eq, beq_eq_false_iff_ne, bne_iff_ne, ne_eq, Decidable.not_not, Int.not_lt, Int.not_le] at h3
          refine tc_seq ?_
          obtain ⟨b1, o1, rfl⟩ := RS.addr h_p (k := 0) (by first | omega | (have hle_ := h_p.le; have hmx_ := h_p.max; omega) | (have hb_ := half_bd (n := n.toNat) (by omega); omega))
          obtain ⟨x1, hx1⟩ := getX (l := p) (k := 0) (by first | omega | (have hle_ := h_p.le; have hmx_ := h_p.max; omega) | (have hb_ := half_bd (n := n.toNat) (by omega); omega))
          obtain ⟨_, ⟨rfl, w1⟩, hc1⟩ := RS.get h_p hx1
          refine tc_draw [] ?_
          refine dr_V [(0, Sl (At b1 o1) p.length c_p), (1, Pt b1 (o1 + 0 * 1)), (2, U x1), (3, Sl (At b1 o1) p.length c_p), (4, Pt b1 (o1 + 0 * 1)), (5, U x1), (6, U x1), (7, U x1), (8, Bo true)] ?_
          refine dr_end [] [(0,0), (3,0), (6,0), (7,0), (8,0)] [1, 2, 4, 5] [(0, U a), (1, I m), (2, I n), (3, Bo whole), (4, Sl (At b1 o1) p.length c_p), (10, U x1), (11, U x1), (12, Bo true), (23, Bo (decide (m = n))), (24, Bo whole), (31, Bo (decide (((p.length : Nat) : Int) = 1)))] (List.forall_mem_cons.2 ⟨?_, (List.forall_mem_cons.2 ⟨?_, (List.forall_mem_cons.2 ⟨?_, (List.forall_mem_cons.2 ⟨?_, List.forall_mem_nil _⟩)⟩)⟩)⟩) ?_
          · refine stab_of 1 36 (Pt b1 (o1 + 0 * 1)) [(35, Sl (At b1 o1) p.length c_p)] (fun X => ?_)
            exact runL_idx (b := b1) (off := o1) (len := p.length) (cap := c_p) (ik := .i64) 36 26 1 0 (by first | omega | (have hle_ := h_p.le; have hmx_ := h_p.max; omega) | (have hb_ := half_bd (n := n.toNat) (by omega); omega)) stab_end
          · refine stab_of 2 37 (U x1) [(36, Pt b1 (o1 + 0 * 1))] (fun X => ?_)
            exact runL_ldG 37 26 (cs := [U x1]) 0 (U x1) hc1 stab_end
          · refine stab_of 4 39 (Pt b1 (o1 + 0 * 1)) [(38, Sl (At b1 o1) p.length c_p)] (fun X => ?_)
            exact runL_idx (b := b1) (off := o1) (len := p.length) (cap := c_p) (ik := .i64) 39 26 1 0 (by first | omega | (have hle_ := h_p.le; have hmx_ := h_p.max; omega) | (have hb_ := half_bd (n := n.toNat) (by omega); omega)) stab_end
          · refine stab_of 5 40 (U x1) [(39, Pt b1 (o1 + 0 * 1))] (fun X => ?_)
            exact runL_ldG 40 26 (cs := [U x1]) 0 (U x1) hc1 stab_end
          refine tq_then ?_
          refine tc_ret ?_
          refine tq_block_ret ?_
          refine tq_then_ret ?_
          refine tq_then_ret ?_
          refine tq_ret [0, 0, 0] [U x1, U x1, Bo true] (bp_ret (Mem.le_refl _) ?_)
          have hf_ : (rBoth a m n whole p) = (x1, x1, true) := by
            rw [rBoth]; first | (rw [if_pos (by omega)]; simp_all; done) | (rw [if_pos (by omega), if_neg (by simp_all), if_neg (by omega)]; done) | (rw [if_pos (by omega)]; have hl_ := lastI_get (p := p) (k := 0) (by omega) (by assumption); subst hl_; rw [if_neg (by simp_all), if_pos (by omega)]; done) | (rw [if_neg (by omega), if_pos (by omega)]; done) | (have hl_ := lastI_get (p := p) (k := p.length - 1) rfl (by assumption); subst hl_; rw [if_neg (by omega), if_neg (by omega), dif_neg (by omega)]; first | (rw [if_pos (by omega)]; done) | (rw [if_neg (by omega)]; done))
          (try rw [hf_]); first | with_reducible rfl | (simp only [packR]; done) | rfl
        ·
          try simp only [decide_eq_true_eq, decide_eq_false_iff_not, Bool.and_eq_true, Bool.or_eq_true, Bool.and_eq_false_imp, Bool.or_eq_false_iff, Bool.not_eq_true', Bool.not_eq_false', Bool.not_eq_true, Bool.not_eq_false, beq_iff_eq, beq_eq_false_iff_ne, bne_iff_ne, ne_eq, Decidable.not_not, Int.not_lt, Int.not_le] at h3
          refine tc_skip ?_
          refine tq_block ?_
          refine tq_then ?_
          refine tc_rb [0,0,0] [(0, U a), (1, I m), (2, I n), (3, Bo whole), (4, Sl a_p p.length c_p), (10, U 0), (11, U 0), (12, Bo false), (23, Bo (decide (m = n))), (24, Bo whole), (31, Bo (decide (((p.length : Nat) : Int) = 1)))] ?_
          refine tc_ret ?_
          refine tq_then_ret ?_
          refine tq_ret [0, 0, 0] [U 0, U 0, Bo false] (bp_ret (Mem.le_refl _) ?_)
          have hf_ : (rBoth a m n whole p) = (0, 0, false) := by
            rw [rBoth]; first | (rw [if_pos (by omega)]; simp_all; done) | (rw [if_pos (by omega), if_neg (by simp_all), if_neg (by omega)]; done) | (rw [if_pos (by omega)]; have hl_ := lastI_get (p := p) (k := 0) (by omega) (by assumption); subst hl_; rw [if_neg (by simp_all), if_pos (by omega)]; done) | (rw [if_neg (by omega), if_pos (by omega)]; done) | (have hl_ := lastI_get (p := p) (k := p.length - 1) rfl (by assumption); subst hl_; rw [if_neg (by omega), if_neg (by omega), dif_neg (by omega)]; first | (rw [if_pos (by omega)]; done) | (rw [if_neg (by omega)]; done))
          (try rw [hf_]); first | with_reducible rfl | (simp only [packR]; done) | rfl
    ·
      try simp only [decide_eq_true_eq, decide_eq_false_iff_not, Bool.and_eq_true, Bool.or_eq_true, Bool.and_eq_false_imp, Bool.or_eq_false_iff, Bool.not_eq_true', Bool.not_eq_false', Bool.not_eq_true, Bool.not_eq_false, beq_iff_eq, beq_eq_false_iff_ne, bne_iff_ne, ne_eq, Decidable.not_not, Int.not_lt, Int.not_le] at h1
      refine tc_skip ?_
      refine tq_then ?_
      refine tc_seq ?_
      refine tc_rb [0,0,0] [(0, U a), (1, I m), (2, I n), (3, Bo whole), (4, Sl a_p p.length c_p), (10, U 0), (11, U 0), (12, Bo false), (23, Bo (decide (m = n))), (43, Bo (decide (((p.length : Nat) : Int) = 0)))] ?_
      refine tc_cond (decide (((p.length : Nat) : Int) = 0)) (fun h4 => ?_) (fun h4 => ?_)
      ·
        try simp only [decide_eq_true_eq, decide_eq_false_iff_not, Bool.and_eq_true, Bool.or_eq_true, Bool.and_eq_false_imp, Bool.or_eq_false_iff, Bool.not_eq_true', Bool.not_eq_false', Bool.not_eq_true, Bool.not_eq_false, beq_iff_eq, beq_eq_false_iff_ne, bne_iff_ne, ne_eq, Decidable.not_not, Int.not_lt, Int.not_le] at h4
        refine tc_rb [0,0,0] [(0, U a), (1, I m), (2, I n), (3, Bo whole), (4, Sl a_p p.length c_p), (10, U 0), (11, U 0), (12, Bo false), (23, Bo (decide (m = n))), (43, Bo (decide (((p.length : Nat) : Int) = 0)))] ?_
        refine tc_ret ?_
        refine tq_then_ret ?_
        refine tq_ret [0, 0, 0] [U 0, U 0, Bo false] (bp_ret (Mem.le_refl _) ?_)
        have hf_ : (rBoth a m n whole p) = (0, 0, false) := by
          rw [rBoth]; first | (rw [if_pos (by omega)]; simp_all; done) | (rw [if_pos (by omega), if_neg (by simp_all), if_neg (by omega)]; done) | (rw [if_pos (by omega)]; have hl_ := lastI_get (p := p) (k := 0) (by omega) (by assumption); subst hl_; rw [if_neg (by simp_all), if_pos (by omega)]; done) | (rw [if_neg (by omega), if_pos (by omega)]; done) | (have hl_ := lastI_get (p := p) (k := p.length - 1) rfl (by assumption); subst hl_; rw [if_neg (by omega), if_neg (by omega), dif_neg (by omega)]; first | (rw [if_pos (by omega)]; done) | (rw [if_neg (by omega)]; done))
        (try rw [hf_]); first | with_reducible rfl | (simp only [packR]; done) | rfl
      ·
        try simp only [decide_eq_true_eq, decide_eq_false_iff_not, Bool.and_eq_true, Bool.or_eq_true, Bool.and_eq_false_imp, Bool.or_eq_false_iff, Bool.not_eq_true', Bool.not_eq_false', Bool.not_eq_true, Bool.not_eq_false, beq_iff_eq, beq_eq_false_iff_ne, bne_iff_ne, ne_eq, Decidable.not_not, Int.not_lt, Int.not_le] at h4
        refine tc_skip ?_
        refine tq_then ?_
        refine tc_seq ?_
        have e1 : IntKind.i64.wrap ((((p.length : Nat) : Int)) - 1) = ((p.length - 1 : Nat) : Int) := (IntWalk.i64_in _ (by first | omega | (have hle_ := h_p.le; have hmx_ := h_p.max; omega) | (have hb_ := half_bd (n := n.toNat) (by omega); omega))).trans (show (((p.length : Nat) : Int)) - 1 = ((p.length - 1 : Nat) : Int) by omega)
        obtain ⟨b2, o2, rfl⟩ := RS.addr h_p (k := p.length - 1) (by first | omega | (have hle_ := h_p.le; have hmx_ := h_p.max; omega) | (have hb_ := half_bd (n := n.toNat) (by omega); omega))
        obtain ⟨x2, hx2⟩ := getX (l := p) (k := p.length - 1) (by first | omega | (have hle_ := h_p.le; have hmx_ := h_p.max; omega) | (have hb_ := half_bd (n := n.toNat) (by omega); omega))
        obtain ⟨_, ⟨rfl, w2⟩, hc2⟩ := RS.get h_p hx2
        refine tc_draw [] ?_
        refine dr_V [(0, I n), (1, I (((half n.toNat : Nat) : Int))), (2, Sl (At b2 o2) p.length c_p), (3, Sl (At b2 o2) p.length c_p), (4, I (((p.length : Nat) : Int))), (5, I (((p.length - 1 : Nat) : Int))), (6, Pt b2 (o2 + (p.length - 1) * 1)), (7, U x2), (8, I (((half n.toNat : Nat) : Int))), (9, U x2)] ?_
        refine dr_end [] [(0,0), (2,0), (3,0), (4,0), (8,0), (9,0)] [1, 5, 6, 7] [(0, U a), (1, I m), (2, I n), (3, Bo whole), (4, Sl (At b2 o2) p.length c_p), (10, U 0), (11, U 0), (12, Bo false), (13, I (((half n.toNat : Nat) : Int))), (14, U x2), (23, Bo (decide (m = n))), (43, Bo (decide (((p.length : Nat) : Int) = 0)))] (List.forall_mem_cons.2 ⟨?_, (List.forall_mem_cons.2 ⟨?_, (List.forall_mem_cons.2 ⟨?_, (List.forall_mem_cons.2 ⟨?_, List.forall_mem_nil _⟩)⟩)⟩)⟩) ?_
        · refine stab_of 1 45 (I (((half n.toNat : Nat) : Int))) [(44, I n)] (fun X => ?_)
          exact runL_callV 45 (I (((half n.toNat : Nat) : Int))) (half_con G n (by first | assumption | omega | (have hb_ := half_bd (n := n.toNat) (by omega); omega))) stab_end
        · refine stab_of 5 49 (I (((p.length - 1 : Nat) : Int))) [(48, I (((p.length : Nat) : Int)))] (fun X => ?_)
          exact runL_p1 49 (I (IntKind.i64.wrap ((((p.length : Nat) : Int)) - 1))) (I (((p.length - 1 : Nat) : Int))) (by simp only [e1]) stab_end
        · refine stab_of 6 50 (Pt b2 (o2 + (p.length - 1) * 1)) [(46, Sl (At b2 o2) p.length c_p), (49, I (((p.length - 1 : Nat) : Int)))] (fun X => ?_)
          exact runL_idx (b := b2) (off := o2) (len := p.length) (cap := c_p) (ik := .i64) 50 26 1 (p.length - 1) (by first | omega | (have hle_ := h_p.le; have hmx_ := h_p.max; omega) | (have hb_ := half_bd (n := n.toNat) (by omega); omega)) stab_end
        · refine stab_of 7 51 (U x2) [(50, Pt b2 (o2 + (p.length - 1) * 1))] (fun X => ?_)
          exact runL_ldG 51 26 (cs := [U x2]) 0 (U x2) hc2 stab_end
        refine tq_then ?_
        refine tc_seq ?_
        refine tc_seq ?_
        refine tc_region ?_
        refine runL_b [0,0,0,0] [(0, U a), (1, I m), (2, I n), (3, Bo whole), (4, Sl (At b2 o2) p.length c_p), (10, U 0), (11, U 0), (12, Bo false), (13, I (((half n.toNat : Nat) : Int))), (14, U x2), (23, Bo (decide (m = n))), (43, Bo (decide (((p.length : Nat) : Int) = 0))), (52, Sl (At b2 o2) p.length c_p), (55, I (IntKind.i64.wrap ((((p.length : Nat) : Int)) - 1)))] ?_
        have e2 : IntKind.i64.wrap ((((p.length : Nat) : Int)) - 1) = ((p.length - 1 : Nat) : Int) := (IntWalk.i64_in _ (by first | omega | (have hle_ := h_p.le; have hmx_ := h_p.max; omega) | (have hb_ := half_bd (n := n.toNat) (by omega); omega))).trans (show (((p.length : Nat) : Int)) - 1 = ((p.length - 1 : Nat) : Int) by omega)
        refine runL_eq (fr' := [(0, U a), (1, I m), (2, I n), (3, Bo whole), (4, Sl (At b2 o2) p.length c_p), (10, U 0), (11, U 0), (12, Bo false), (13, I (((half n.toNat : Nat) : Int))), (14, U x2), (23, Bo (decide (m = n))), (43, Bo (decide (((p.length : Nat) : Int) = 0))), (52, Sl (At b2 o2) p.length c_p), (55, I (((p.length - 1 : Nat) : Int)))]) (L' := []) (by simp only [e2]) (by rfl) ?_
        clear e2
        obtain ⟨a1, c1, ea1, ec1, en1, eh1, hs1⟩ := RS.reslXT h_p (p.length - 1) (by first | omega | (have hle_ := h_p.le; have hmx_ := h_p.max; omega) | (have hb_ := half_bd (n := n.toNat) (by omega); omega))
        refine runL_reslE (a := At b2 o2) (len := p.length) (cap := c_p) 56 1 none (some (I (((p.length - 1 : Nat) : Int)))) 0 (p.length - 1) (.inl ⟨rfl, rfl⟩) (.inr ⟨_, rfl⟩) (by exact Nat.zero_le _) ea1 ec1 en1 eh1 ?_
        refine runL_b [0] [(0, U a), (1, I m), (2, I n), (3, Bo whole), (4, Sl a1 ((p.take (p.length - 1)).length) c1), (10, U 0), (11, U 0), (12, Bo false), (13, I (((half n.toNat : Nat) : Int))), (14, U x2), (23, Bo (decide (m = n))), (43, Bo (decide (((p.length : Nat) : Int) = 0)))] ?_
        refine runL_nil ?_
        refine tq_then ?_
        refine tc_rb [0,0,0] [(0, U a), (1, I m), (2, I n), (3, Bo whole), (4, Sl a1 ((p.take (p.length - 1)).length) c1), (10, U 0), (11, U 0), (12, Bo false), (13, I (((half n.toNat : Nat) : Int))), (14, U x2), (23, Bo (decide (m = n))), (43, Bo (decide (((p.length : Nat) : Int) = 0))), (59, Bo (decide (m ≤ ((half n.toNat : Nat) : Int))))] ?_
        refine tc_cond (decide (m ≤ ((half n.toNat : Nat) : Int))) (fun h5 => ?_) (fun h5 => ?_)
        ·
          try simp only [decide_eq_true_eq, decide_eq_false_iff_not, Bool.and_eq_true, Bool.or_eq_true, Bool.and_eq_false_imp, Bool.or_eq_false_iff, Bool.not_eq_true', Bool.not_eq_false', Bool.not_eq_true, Bool.not_eq_false, beq_iff_eq, beq_eq_false_iff_ne, bne_iff_ne, ne_eq, Decidable.not_not, Int.not_lt, Int.not_le] at h5
          refine tc_seq ?_
          refine tc_region ?_
          refine runL_b [0,0,0,0,0] [(0, U a), (1, I m), (2, I n), (3, Bo whole), (4, Sl a1 ((p.take (p.length - 1)).length) c1), (10, U 0), (11, U 0), (12, Bo false), (13, I (((half n.toNat : Nat) : Int))), (14, U x2), (23, Bo (decide (m = n))), (43, Bo (decide (((p.length : Nat) : Int) = 0))), (59, Bo (decide (m ≤ ((half n.toNat : Nat) : Int)))), (61, U a), (62, I m), (63, I (((half n.toNat : Nat) : Int))), (64, Bo whole), (65, Sl a1 ((p.take (p.length - 1)).length) c1)] ?_
          refine runL_callV 66 (.tuple #[U ((rBoth a m (((half n.toNat : Nat) : Int)) whole (p.take (p.length - 1))).1), U ((rBoth a m (((half n.toNat : Nat) : Int)) whole (p.take (p.length - 1))).2.1), Bo ((rBoth a m (((half n.toNat : Nat) : Int)) whole (p.take (p.length - 1))).2.2)]) (ih G a m (((half n.toNat : Nat) : Int)) whole a1 c1 (p.take (p.length - 1)) hs1 (by first | assumption | omega | (have hb_ := half_bd (n := n.toNat) (by omega); omega)) (by have hb_ := half_bd (n := n.toNat) (by omega); omega)) ?_
          refine runL_b [0,0,0,0,0,0,0] [(0, U a), (1, I m), (2, I n), (3, Bo whole), (4, Sl a1 ((p.take (p.length - 1)).length) c1), (10, U 0), (11, U 0), (12, Bo false), (13, I (((half n.toNat : Nat) : Int))), (14, U x2), (15, U ((rBoth a m (((half n.toNat : Nat) : Int)) whole (p.take (p.length - 1))).1)), (16, U ((rBoth a m (((half n.toNat : Nat) : Int)) whole (p.take (p.length - 1))).2.1)), (17, Bo ((rBoth a m (((half n.toNat : Nat) : Int)) whole (p.take (p.length - 1))).2.2)), (23, Bo (decide (m = n))), (43, Bo (decide (((p.length : Nat) : Int) = 0))), (59, Bo (decide (m ≤ ((half n.toNat : Nat) : Int))))] ?_
          refine runL_nil ?_
          refine tq_then ?_
          refine tc_seq ?_
          refine tc_region ?_
          refine runL_b [0,0,0] [(0, U a), (1, I m), (2, I n), (3, Bo whole), (4, Sl a1 ((p.take (p.length - 1)).length) c1), (10, U 0), (11, U 0), (12, Bo false), (13, I (((half n.toNat : Nat) : Int))), (14, U x2), (17, Bo ((rBoth a m (((half n.toNat : Nat) : Int)) whole (p.take (p.length - 1))).2.2)), (23, Bo (decide (m = n))), (43, Bo (decide (((p.length : Nat) : Int) = 0))), (59, Bo (decide (m ≤ ((half n.toNat : Nat) : Int)))), (70, U ((rBoth a m (((half n.toNat : Nat) : Int)) whole (p.take (p.length - 1))).1)), (71, U ((rBoth a m (((half n.toNat : Nat) : Int)) whole (p.take (p.length - 1))).2.1)), (72, U x2)] ?_
          refine runL_callV 73 (U (two5 ((rBoth a m (((half n.toNat : Nat) : Int)) whole (p.take (p.length - 1))).2.1) x2)) (markTwo_con 5 ((rBoth a m (((half n.toNat : Nat) : Int)) whole (p.take (p.length - 1))).2.1) x2 G) ?_
          refine runL_b [0,0,0,0] [(0, U a), (1, I m), (2, I n), (3, Bo whole), (4, Sl a1 ((p.take (p.length - 1)).length) c1), (10, U ((rBoth a m (((half n.toNat : Nat) : Int)) whole (p.take (p.length - 1))).1)), (11, U (two5 ((rBoth a m (((half n.toNat : Nat) : Int)) whole (p.take (p.length - 1))).2.1) x2)), (12, Bo ((rBoth a m (((half n.toNat : Nat) : Int)) whole (p.take (p.length - 1))).2.2)), (13, I (((half n.toNat : Nat) : Int))), (14, U x2), (23, Bo (decide (m = n))), (43, Bo (decide (((p.length : Nat) : Int) = 0))), (59, Bo (decide (m ≤ ((half n.toNat : Nat) : Int))))] ?_
          refine runL_nil ?_
          refine tq_then ?_
          refine tc_ret ?_
          refine tq_then_ret ?_
          refine tq_ret [0, 0, 0] [U ((rBoth a m (((half n.toNat : Nat) : Int)) whole (p.take (p.length - 1))).1), U (two5 ((rBoth a m (((half n.toNat : Nat) : Int)) whole (p.take (p.length - 1))).2.1) x2), Bo ((rBoth a m (((half n.toNat : Nat) : Int)) whole (p.take (p.length - 1))).2.2)] (bp_ret (Mem.le_refl _) ?_)
          have hf_ : (rBoth a m n whole p) = (((rBoth a m (((half n.toNat : Nat) : Int)) whole (p.take (p.length - 1))).1), (two5 ((rBoth a m (((half n.toNat : Nat) : Int)) whole (p.take (p.length - 1))).2.1) x2), ((rBoth a m (((half n.toNat : Nat) : Int)) whole (p.take (p.length - 1))).2.2)) := by
            rw [rBoth]; first | (rw [if_pos (by omega)]; simp_all; done) | (rw [if_pos (by omega), if_neg (by simp_all), if_neg (by omega)]; done) | (rw [if_pos (by omega)]; have hl_ := lastI_get (p := p) (k := 0) (by omega) (by assumption); subst hl_; rw [if_neg (by simp_all), if_pos (by omega)]; done) | (rw [if_neg (by omega), if_pos (by omega)]; done) | (have hl_ := lastI_get (p := p) (k := p.length - 1) rfl (by assumption); subst hl_; rw [if_neg (by omega), if_neg (by omega), dif_neg (by omega)]; first | (rw [if_pos (by omega)]; done) | (rw [if_neg (by omega)]; done))
          (try rw [hf_]); first | with_reducible rfl | (simp only [packR]; done) | rfl
        ·
          try simp only [decide_eq_true_eq, decide_eq_false_iff_not, Bool.and_eq_true, Bool.or_eq_true, Bool.and_eq_false_imp, Bool.or_eq_false_iff, Bool.not_eq_true', Bool.not_eq_false', Bool.not_eq_true, Bool.not_eq_false, beq_iff_eq, beq_eq_false_iff_ne, bne_iff_ne, ne_eq, Decidable.not_not, Int.not_lt, Int.not_le] at h5
          refine tc_skip ?_
          refine tq_then ?_
          refine tc_seq ?_
          refine tc_region ?_
          refine runL_b [0,0,0,0,0,0,0,0] [(0, U a), (1, I m), (2, I n), (3, Bo whole), (4, Sl a1 ((p.take (p.length - 1)).length) c1), (10, U 0), (11, U 0), (12, Bo false), (13, I (((half n.toNat : Nat) : Int))), (14, U x2), (23, Bo (decide (m = n))), (43, Bo (decide (((p.length : Nat) : Int) = 0))), (59, Bo (decide (m ≤ ((half n.toNat : Nat) : Int)))), (76, U a), (79, I (IntKind.i64.wrap (m - (((half n.toNat : Nat) : Int))))), (82, I (IntKind.i64.wrap (n - (((half n.toNat : Nat) : Int))))), (83, Sl a1 ((p.take (p.length - 1)).length) c1)] ?_
          have e3 : IntKind.i64.wrap (m - (((half n.toNat : Nat) : Int))) = m - (((half n.toNat : Nat) : Int)) := IntWalk.i64_in _ (by first | omega | (have hle_ := h_p.le; have hmx_ := h_p.max; omega) | (have hb_ := half_bd (n := n.toNat) (by omega); omega))
          have e4 : IntKind.i64.wrap (n - (((half n.toNat : Nat) : Int))) = n - (((half n.toNat : Nat) : Int)) := IntWalk.i64_in _ (by first | omega | (have hle_ := h_p.le; have hmx_ := h_p.max; omega) | (have hb_ := half_bd (n := n.toNat) (by omega); omega))
          refine runL_eq (fr' := [(0, U a), (1, I m), (2, I n), (3, Bo whole), (4, Sl a1 ((p.take (p.length - 1)).length) c1), (10, U 0), (11, U 0), (12, Bo false), (13, I (((half n.toNat : Nat) : Int))), (14, U x2), (23, Bo (decide (m = n))), (43, Bo (decide (((p.length : Nat) : Int) = 0))), (59, Bo (decide (m ≤ ((half n.toNat : Nat) : Int)))), (76, U a), (79, I (m - (((half n.toNat : Nat) : Int)))), (82, I (n - (((half n.toNat : Nat) : Int)))), (83, Sl a1 ((p.take (p.length - 1)).length) c1)]) (L' := []) (by simp only [e3, e4]) (by rfl) ?_
          clear e4 e3
          refine runL_callV 84 (.tuple #[U ((rBoth a (m - (((half n.toNat : Nat) : Int))) (n - (((half n.toNat : Nat) : Int))) false (p.take (p.length - 1))).1), U ((rBoth a (m - (((half n.toNat : Nat) : Int))) (n - (((half n.toNat : Nat) : Int))) false (p.take (p.length - 1))).2.1), Bo ((rBoth a (m - (((half n.toNat : Nat) : Int))) (n - (((half n.toNat : Nat) : Int))) false (p.take (p.length - 1))).2.2)]) (ih G a (m - (((half n.toNat : Nat) : Int))) (n - (((half n.toNat : Nat) : Int))) false a1 c1 (p.take (p.length - 1)) hs1 (by first | assumption | omega | (have hb_ := half_bd (n := n.toNat) (by omega); omega)) (by have hb_ := half_bd (n := n.toNat) (by omega); omega)) ?_
          refine runL_b [0,0,0,0,0,0,0] [(0, U a), (1, I m), (2, I n), (3, Bo whole), (4, Sl a1 ((p.take (p.length - 1)).length) c1), (10, U 0), (11, U 0), (12, Bo false), (13, I (((half n.toNat : Nat) : Int))), (14, U x2), (18, U ((rBoth a (m - (((half n.toNat : Nat) : Int))) (n - (((half n.toNat : Nat) : Int))) false (p.take (p.length - 1))).1)), (19, U ((rBoth a (m - (((half n.toNat : Nat) : Int))) (n - (((half n.toNat : Nat) : Int))) false (p.take (p.length - 1))).2.1)), (20, Bo ((rBoth a (m - (((half n.toNat : Nat) : Int))) (n - (((half n.toNat : Nat) : Int))) false (p.take (p.length - 1))).2.2)), (23, Bo (decide (m = n))), (43, Bo (decide (((p.length : Nat) : Int) = 0))), (59, Bo (decide (m ≤ ((half n.toNat : Nat) : Int))))] ?_
          refine runL_nil ?_
          refine tq_then ?_
          refine tc_seq ?_
          refine tc_region ?_
          refine runL_b [0,0] [(0, U a), (1, I m), (2, I n), (3, Bo whole), (4, Sl a1 ((p.take (p.length - 1)).length) c1), (10, U 0), (11, U 0), (12, Bo false), (13, I (((half n.toNat : Nat) : Int))), (14, U x2), (19, U ((rBoth a (m - (((half n.toNat : Nat) : Int))) (n - (((half n.toNat : Nat) : Int))) false (p.take (p.length - 1))).2.1)), (20, Bo ((rBoth a (m - (((half n.toNat : Nat) : Int))) (n - (((half n.toNat : Nat) : Int))) false (p.take (p.length - 1))).2.2)), (23, Bo (decide (m = n))), (43, Bo (decide (((p.length : Nat) : Int) = 0))), (59, Bo (decide (m ≤ ((half n.toNat : Nat) : Int)))), (88, U x2), (89, U ((rBoth a (m - (((half n.toNat : Nat) : Int))) (n - (((half n.toNat : Nat) : Int))) false (p.take (p.length - 1))).1))] ?_
          refine runL_callV 90 (U (two5 x2 ((rBoth a (m - (((half n.toNat : Nat) : Int))) (n - (((half n.toNat : Nat) : Int))) false (p.take (p.length - 1))).1))) (markTwo_con 5 x2 ((rBoth a (m - (((half n.toNat : Nat) : Int))) (n - (((half n.toNat : Nat) : Int))) false (p.take (p.length - 1))).1) G) ?_
          refine runL_b [0,0] [(0, U a), (1, I m), (2, I n), (3, Bo whole), (4, Sl a1 ((p.take (p.length - 1)).length) c1), (10, U 0), (11, U 0), (12, Bo false), (13, I (((half n.toNat : Nat) : Int))), (14, U x2), (20, Bo ((rBoth a (m - (((half n.toNat : Nat) : Int))) (n - (((half n.toNat : Nat) : Int))) false (p.take (p.length - 1))).2.2)), (23, Bo (decide (m = n))), (43, Bo (decide (((p.length : Nat) : Int) = 0))), (59, Bo (decide (m ≤ ((half n.toNat : Nat) : Int)))), (90, U (two5 x2 ((rBoth a (m - (((half n.toNat : Nat) : Int))) (n - (((half n.toNat : Nat) : Int))) false (p.take (p.length - 1))).1))), (91, U x2), (92, U ((rBoth a (m - (((half n.toNat : Nat) : Int))) (n - (((half n.toNat : Nat) : Int))) false (p.take (p.length - 1))).2.1))] ?_
          refine runL_callV 93 (U (two5 x2 ((rBoth a (m - (((half n.toNat : Nat) : Int))) (n - (((half n.toNat : Nat) : Int))) false (p.take (p.length - 1))).2.1))) (markTwo_con 5 x2 ((rBoth a (m - (((half n.toNat : Nat) : Int))) (n - (((half n.toNat : Nat) : Int))) false (p.take (p.length - 1))).2.1) G) ?_
          refine runL_b [0,0,0,0] [(0, U a), (1, I m), (2, I n), (3, Bo whole), (4, Sl a1 ((p.take (p.length - 1)).length) c1), (10, U (two5 x2 ((rBoth a (m - (((half n.toNat : Nat) : Int))) (n - (((half n.toNat : Nat) : Int))) false (p.take (p.length - 1))).1))), (11, U (two5 x2 ((rBoth a (m - (((half n.toNat : Nat) : Int))) (n - (((half n.toNat : Nat) : Int))) false (p.take (p.length - 1))).2.1))), (12, Bo ((rBoth a (m - (((half n.toNat : Nat) : Int))) (n - (((half n.toNat : Nat) : Int))) false (p.take (p.length - 1))).2.2)), (13, I (((half n.toNat : Nat) : Int))), (14, U x2), (23, Bo (decide (m = n))), (43, Bo (decide (((p.length : Nat) : Int) = 0))), (59, Bo (decide (m ≤ ((half n.toNat : Nat) : Int))))] ?_
          refine runL_nil ?_
          refine tq_then ?_
          refine tc_ret ?_
          refine tq_ret [0, 0, 0] [U (two5 x2 ((rBoth a (m - (((half n.toNat : Nat) : Int))) (n - (((half n.toNat : Nat) : Int))) false (p.take (p.length - 1))).1)), U (two5 x2 ((rBoth a (m - (((half n.toNat : Nat) : Int))) (n - (((half n.toNat : Nat) : Int))) false (p.take (p.length - 1))).2.1)), Bo ((rBoth a (m - (((half n.toNat : Nat) : Int))) (n - (((half n.toNat : Nat) : Int))) false (p.take (p.length - 1))).2.2)] (bp_ret (Mem.le_refl _) ?_)
          have hf_ : (rBoth a m n whole p) = ((two5 x2 ((rBoth a (m - (((half n.toNat : Nat) : Int))) (n - (((half n.toNat : Nat) : Int))) false (p.take (p.length - 1))).1)), (two5 x2 ((rBoth a (m - (((half n.toNat : Nat) : Int))) (n - (((half n.toNat : Nat) : Int))) false (p.take (p.length - 1))).2.1)), ((rBoth a (m - (((half n.toNat : Nat) : Int))) (n - (((half n.toNat : Nat) : Int))) false (p.take (p.length - 1))).2.2)) := by
            rw [rBoth]; first | (rw [if_pos (by omega)]; simp_all; done) | (rw [if_pos (by omega), if_neg (by simp_all), if_neg (by omega)]; done) | (rw [if_pos (by omega)]; have hl_ := lastI_get (p := p) (k := 0) (by omega) (by assumption); subst hl_; rw [if_neg (by simp_all), if_pos (by omega)]; done) | (rw [if_neg (by omega), if_pos (by omega)]; done) | (have hl_ := lastI_get (p := p) (k := p.length - 1) rfl (by assumption); subst hl_; rw [if_neg (by omega), if_neg (by omega), dif_neg (by omega)]; first | (rw [if_pos (by omega)]; done) | (rw [if_neg (by omega)]; done))
          (try rw [hf_]); first | with_reducible rfl | (simp only [packR]; done) | rfl

theorem rBoth_con (G : Mem) (a : Int) (m : Int) (n : Int) (whole : Bool) (a_p : Option Addr) (c_p : Nat) (p : List Int) (h_p : RS EU G a_p c_p p) (hn : 1 ≤ m ∧ m ≤ n ∧ n ≤ 40) : Con Try.prog 79 #[U a, I m, I n, Bo whole, Sl a_p p.length c_p] G [] (fun u G' L' => u = .tuple #[U ((rBoth a m n whole p).1), U ((rBoth a m n whole p).2.1), Bo ((rBoth a m n whole p).2.2)]) := rBoth_con_aux (n.toNat + 1) G a m n whole a_p c_p p h_p hn (Nat.lt_succ_self _)

theorem rollLong_con (G : Mem) (s : List UInt8)  : Con Try.prog 109 #[Sr s] G [] (fun u G' L' => u = Bo (rollLong s)) := by
  refine con_of Try.func109 6 [(0, Sr s)] rfl (fun w0 G0 => ?_)
  refine tc_rb [0] [(0, Sr s), (2, Bo false)] ?_
  refine tc_rb [0,0,0,0] [(2, Bo (decide (((s).length : Int) > 40)))] ?_
  refine tc_ret ?_
  refine tq_ret [0] [Bo (decide (((s).length : Int) > 40))] (bp_ret (Mem.le_refl _) ?_)
  have hf_ : (rollLong s) = (decide (((s).length : Int) > 40)) := by
    unfold rollLong; rw [Bool.eq_iff_iff]; simp; omega
  (try rw [hf_]); first | with_reducible rfl | (simp only [packR]; done) | rfl

theorem rollCheck_con (G : Mem) (a_l : Option Addr) (c_l : Nat) (l : List ((List UInt8))) (h_l : RS ES G a_l c_l l)  : Con Try.prog 70 #[Sl a_l l.length c_l] G [] (fun u G' L' => u = I (rollCheck l)) := by
  refine con_of Try.func70 15 [(0, Sl a_l l.length c_l)] rfl (fun w0 G0 => ?_)
  refine tc_rb [0] [(0, Sl a_l l.length c_l), (2, I 0)] ?_
  refine tc_seq ?_
  refine tc_block ?_
  refine tc_rb [0,0,0,0] [(0, Sl a_l l.length c_l), (2, I 0), (3, Bo (decide (((l.length : Nat) : Int) = 0)))] ?_
  refine tc_cond (decide (((l.length : Nat) : Int) = 0)) (fun h1 => ?_) (fun h1 => ?_)
  ·
    try simp only [decide_eq_true_eq, decide_eq_false_iff_not, Bool.and_eq_true, Bool.or_eq_true, Bool.and_eq_false_imp, Bool.or_eq_false_iff, Bool.not_eq_true', Bool.not_eq_false', Bool.not_eq_true, Bool.not_eq_false, beq_iff_eq, beq_eq_false_iff_ne, bne_iff_ne, ne_eq, Decidable.not_not, Int.not_lt, Int.not_le] at h1
    refine tc_rb [0] [(0, Sl a_l l.length c_l), (2, I 5), (3, Bo (decide (((l.length : Nat) : Int) = 0)))] ?_
    refine tc_ret ?_
    refine tq_block_ret ?_
    refine tq_then_ret ?_
    refine tq_ret [0] [I 5] (bp_ret (Mem.le_refl _) ?_)
    have hf_ : (rollCheck l) = 5 := by
      unfold rollCheck; first | (rw [if_pos (by omega)]; done) | (rw [if_neg (by omega)]; simp_all; done) | (rw [if_neg (by omega)]; simp_all; omega)
    (try rw [hf_]); first | with_reducible rfl | (simp only [packR]; done) | rfl
  ·
    try simp only [decide_eq_true_eq, decide_eq_false_iff_not, Bool.and_eq_true, Bool.or_eq_true, Bool.and_eq_false_imp, Bool.or_eq_false_iff, Bool.not_eq_true', Bool.not_eq_false', Bool.not_eq_true, Bool.not_eq_false, beq_iff_eq, beq_eq_false_iff_ne, bne_iff_ne, ne_eq, Decidable.not_not, Int.not_lt, Int.not_le] at h1
    refine tc_seq ?_
    refine tc_region ?_
    refine runL_b [0,0,0,0] [(0, Sl a_l l.length c_l), (2, I 0), (3, Bo (decide (((l.length : Nat) : Int) = 0))), (11, Bo (decide (((l.length : Nat) : Int) > 40)))] ?_
    refine runL_cases (fun bb => [(0, Sl a_l l.length c_l), (2, I 0), (3, Bo (decide (((l.length : Nat) : Int) = 0))), (11, Bo bb)]) (decide (((l.length : Nat) : Int) > 40)) (fun h2 => ?_) (fun h2 => ?_)
    ·
      try simp only [decide_eq_true_eq, decide_eq_false_iff_not, Bool.and_eq_true, Bool.or_eq_true, Bool.and_eq_false_imp, Bool.or_eq_false_iff, Bool.not_eq_true', Bool.not_eq_false', Bool.not_eq_true, Bool.not_eq_false, beq_iff_eq, beq_eq_false_iff_ne, bne_iff_ne, ne_eq, Decidable.not_not, Int.not_lt, Int.not_le] at h2
      refine runL_b [1,1,0,0] [(0, Sl a_l l.length c_l), (2, I 0), (3, Bo (decide (((l.length : Nat) : Int) = 0))), (7, Bo true)] ?_
      refine runL_nil ?_
      refine tq_then ?_
      refine tc_cond_true ?_
      refine tc_rb [0] [(0, Sl a_l l.length c_l), (2, I 2), (3, Bo (decide (((l.length : Nat) : Int) = 0))), (7, Bo true)] ?_
      refine tc_ret ?_
      refine tq_block_ret ?_
      refine tq_then_ret ?_
      refine tq_ret [0] [I 2] (bp_ret (Mem.le_refl _) ?_)
      have hf_ : (rollCheck l) = 2 := by
        unfold rollCheck; first | (rw [if_pos (by omega)]; done) | (rw [if_neg (by omega)]; simp_all; done) | (rw [if_neg (by omega)]; simp_all; omega)
      (try rw [hf_]); first | with_reducible rfl | (simp only [packR]; done) | rfl
    ·
      try simp only [decide_eq_true_eq, decide_eq_false_iff_not, Bool.and_eq_true, Bool.or_eq_true, Bool.and_eq_false_imp, Bool.or_eq_false_iff, Bool.not_eq_true', Bool.not_eq_false', Bool.not_eq_true, Bool.not_eq_false, beq_iff_eq, beq_eq_false_iff_ne, bne_iff_ne, ne_eq, Decidable.not_not, Int.not_lt, Int.not_le] at h2
      refine runL_b [0] [(0, Sl a_l l.length c_l), (2, I 0), (3, Bo (decide (((l.length : Nat) : Int) = 0))), (11, Bo false), (12, Sl a_l l.length c_l)] ?_
      refine runL_callV 13 (Bo (l.any ((fun x0 => rollLong x0)))) (sany_ES G a_l c_l l h_l 109 #[] ((fun x0 => rollLong x0)) ((fun _ _ => by kernel_rfl)) ((fun x0 hx0 => rollLong_con G x0))) ?_
      refine runL_b [0,0] [(0, Sl a_l l.length c_l), (2, I 0), (3, Bo (decide (((l.length : Nat) : Int) = 0))), (7, Bo (l.any ((fun x0 => rollLong x0))))] ?_
      refine runL_nil ?_
      refine tq_then ?_
      refine tc_cond (l.any ((fun x0 => rollLong x0))) (fun h3 => ?_) (fun h3 => ?_)
      ·
        try simp only [decide_eq_true_eq, decide_eq_false_iff_not, Bool.and_eq_true, Bool.or_eq_true, Bool.and_eq_false_imp, Bool.or_eq_false_iff, Bool.not_eq_true', Bool.not_eq_false', Bool.not_eq_true, Bool.not_eq_false, beq_iff_eq, beq_eq_false_iff_ne, bne_iff_ne, ne_eq, Decidable.not_not, Int.not_lt, Int.not_le] at h3
        refine tc_rb [0] [(0, Sl a_l l.length c_l), (2, I 2), (3, Bo (decide (((l.length : Nat) : Int) = 0))), (7, Bo (l.any ((fun x0 => rollLong x0))))] ?_
        refine tc_ret ?_
        refine tq_block_ret ?_
        refine tq_then_ret ?_
        refine tq_ret [0] [I 2] (bp_ret (Mem.le_refl _) ?_)
        have hf_ : (rollCheck l) = 2 := by
          unfold rollCheck; first | (rw [if_pos (by omega)]; done) | (rw [if_neg (by omega)]; simp_all; done) | (rw [if_neg (by omega)]; simp_all; omega)
        (try rw [hf_]); first | with_reducible rfl | (simp only [packR]; done) | rfl
      ·
        try simp only [decide_eq_true_eq, decide_eq_false_iff_not, Bool.and_eq_true, Bool.or_eq_true, Bool.and_eq_false_imp, Bool.or_eq_false_iff, Bool.not_eq_true', Bool.not_eq_false', Bool.not_eq_true, Bool.not_eq_false, beq_iff_eq, beq_eq_false_iff_ne, bne_iff_ne, ne_eq, Decidable.not_not, Int.not_lt, Int.not_le] at h3
        refine tc_skip ?_
        refine tq_block ?_
        refine tq_then ?_
        refine tc_rb [0] [(0, Sl a_l l.length c_l), (2, I 0), (3, Bo (decide (((l.length : Nat) : Int) = 0))), (7, Bo (l.any ((fun x0 => rollLong x0))))] ?_
        refine tc_ret ?_
        refine tq_ret [0] [I 0] (bp_ret (Mem.le_refl _) ?_)
        have hf_ : (rollCheck l) = 0 := by
          unfold rollCheck; first | (rw [if_pos (by omega)]; done) | (rw [if_neg (by omega)]; simp_all; done) | (rw [if_neg (by omega)]; simp_all; omega)
        (try rw [hf_]); first | with_reducible rfl | (simp only [packR]; done) | rfl

theorem rollRoot_con (G : Mem) (a_l : Option Addr) (c_l : Nat) (l : List ((List UInt8))) (h_l : RS ES G a_l c_l l)  : Con Try.prog 30 #[Sl a_l l.length c_l] G [] (fun u G' L' => u = .tuple #[U ((rollRoot l).1), I ((rollRoot l).2)]) := by
  refine con_of Try.func30 12 [(0, Sl a_l l.length c_l)] rfl (fun w0 G0 => ?_)
  refine tc_rb [0,0] [(0, Sl a_l l.length c_l), (2, U 0), (3, I 0)] ?_
  refine tc_seq ?_
  refine tc_seq ?_
  refine tc_region ?_
  refine runL_b [0] [(0, Sl a_l l.length c_l), (2, U 0), (3, I 0), (5, Sl a_l l.length c_l)] ?_
  refine runL_callV 6 (I (rollCheck l)) (rollCheck_con G a_l c_l l h_l) ?_
  refine runL_b [0] [(0, Sl a_l l.length c_l), (2, U 0), (3, I 0), (4, I (rollCheck l))] ?_
  refine runL_nil ?_
  refine tq_then ?_
  refine tc_rb [0,0] [(0, Sl a_l l.length c_l), (2, U 0), (3, I 0), (4, I (rollCheck l)), (8, Bo (!decide (rollCheck l = 0)))] ?_
  refine tc_cond (!decide (rollCheck l = 0)) (fun h1 => ?_) (fun h1 => ?_)
  ·
    try simp only [decide_eq_true_eq, decide_eq_false_iff_not, Bool.and_eq_true, Bool.or_eq_true, Bool.and_eq_false_imp, Bool.or_eq_false_iff, Bool.not_eq_true', Bool.not_eq_false', Bool.not_eq_true, Bool.not_eq_false, beq_iff_eq, beq_eq_false_iff_ne, bne_iff_ne, ne_eq, Decidable.not_not, Int.not_lt, Int.not_le] at h1
    refine tc_rb [0,0,0] [(0, Sl a_l l.length c_l), (2, U 0), (3, I (rollCheck l)), (4, I (rollCheck l)), (8, Bo (!decide (rollCheck l = 0)))] ?_
    refine tc_ret ?_
    refine tq_then_ret ?_
    refine tq_ret [0, 0] [U 0, I (rollCheck l)] (bp_ret (Mem.le_refl _) ?_)
    have hf_ : (rollRoot l) = (0, (rollCheck l)) := by
      unfold rollRoot; simp_all
    (try rw [hf_]); first | with_reducible rfl | (simp only [packR]; done) | rfl
  ·
    try simp only [decide_eq_true_eq, decide_eq_false_iff_not, Bool.and_eq_true, Bool.or_eq_true, Bool.and_eq_false_imp, Bool.or_eq_false_iff, Bool.not_eq_true', Bool.not_eq_false', Bool.not_eq_true, Bool.not_eq_false, beq_iff_eq, beq_eq_false_iff_ne, bne_iff_ne, ne_eq, Decidable.not_not, Int.not_lt, Int.not_le] at h1
    refine tc_skip ?_
    refine tq_then ?_
    refine tc_seq ?_
    refine tc_region ?_
    refine runL_b [0] [(0, Sl a_l l.length c_l), (2, U 0), (3, I 0), (4, I (rollCheck l)), (8, Bo (!decide (rollCheck l = 0))), (10, Sl a_l l.length c_l)] ?_
    refine runL_callV 11 (U (rRoot l)) (rRoot_con G a_l c_l l h_l (by first | assumption | omega | (have q_ := rollCheck_ok (by assumption); first | exact q_.1 | exact q_.2.1 | exact q_.2.2 | omega | exact q_.2.2 _ (by assumption))) (by first | assumption | omega | (have q_ := rollCheck_ok (by assumption); first | exact q_.1 | exact q_.2.1 | exact q_.2.2 | omega | exact q_.2.2 _ (by assumption))) (by first | assumption | omega | (have q_ := rollCheck_ok (by assumption); first | exact q_.1 | exact q_.2.1 | exact q_.2.2 | omega | exact q_.2.2 _ (by assumption)))) ?_
    refine runL_b [0,0] [(0, Sl a_l l.length c_l), (2, U (rRoot l)), (3, I 0), (4, I (rollCheck l)), (8, Bo (!decide (rollCheck l = 0)))] ?_
    refine runL_nil ?_
    refine tq_then ?_
    refine tc_ret ?_
    refine tq_ret [0, 0] [U (rRoot l), I 0] (bp_ret (Mem.le_refl _) ?_)
    have hf_ : (rollRoot l) = ((rRoot l), 0) := by
      unfold rollRoot; simp_all
    (try rw [hf_]); first | with_reducible rfl | (simp only [packR]; done) | rfl

theorem rollIn_con (G : Mem) (a_l : Option Addr) (c_l : Nat) (l : List ((List UInt8))) (h_l : RS ES G a_l c_l l) (i : Int)  : Con Try.prog 31 #[Sl a_l l.length c_l, I i] G [] (fun u G' L' => ∃ (a1 : Option Addr) (c2 : Nat), u = .tuple #[Sl a1 (((rollIn l i).1).length) c2, I ((rollIn l i).2)] ∧ (RS EU G' a1 c2 ((rollIn l i).1)) ∧ L' = []) := by
  refine con_of Try.func31 23 [(0, Sl a_l l.length c_l), (1, I i)] rfl (fun w0 G0 => ?_)
  refine tc_rb [0,0] [(0, Sl a_l l.length c_l), (1, I i), (4, Sl none 0 0), (5, I 0)] ?_
  refine tc_seq ?_
  refine tc_seq ?_
  refine tc_region ?_
  refine runL_b [0] [(0, Sl a_l l.length c_l), (1, I i), (4, Sl none 0 0), (5, I 0), (7, Sl a_l l.length c_l)] ?_
  refine runL_callV 8 (I (rollCheck l)) (rollCheck_con G a_l c_l l h_l) ?_
  refine runL_b [0] [(0, Sl a_l l.length c_l), (1, I i), (4, Sl none 0 0), (5, I 0), (6, I (rollCheck l))] ?_
  refine runL_nil ?_
  refine tq_then ?_
  refine tc_rb [0,0] [(0, Sl a_l l.length c_l), (1, I i), (4, Sl none 0 0), (5, I 0), (6, I (rollCheck l)), (10, Bo (!decide (rollCheck l = 0)))] ?_
  refine tc_cond (!decide (rollCheck l = 0)) (fun h1 => ?_) (fun h1 => ?_)
  ·
    try simp only [decide_eq_true_eq, decide_eq_false_iff_not, Bool.and_eq_true, Bool.or_eq_true, Bool.and_eq_false_imp, Bool.or_eq_false_iff, Bool.not_eq_true', Bool.not_eq_false', Bool.not_eq_true, Bool.not_eq_false, beq_iff_eq, beq_eq_false_iff_ne, bne_iff_ne, ne_eq, Decidable.not_not, Int.not_lt, Int.not_le] at h1
    refine tc_rb [0,0,0] [(0, Sl a_l l.length c_l), (1, I i), (4, Sl none 0 0), (5, I (rollCheck l)), (6, I (rollCheck l)), (10, Bo (!decide (rollCheck l = 0)))] ?_
    refine tc_ret ?_
    refine tq_then_ret ?_
    have hf1 : rollIn l i = ([], rollCheck l) := by
      unfold rollIn; first | (rw [if_pos (by omega)]; done) | (rw [if_neg (by omega), if_pos (by omega)]; done) | (rw [if_neg (by omega), if_neg (by omega)]; done)
    refine tq_ret [0, 0] [Sl none 0 0, I (rollCheck l)] (bp_rows [] .slnil (Mem.le_refl _) ?_)
    rw [hf1]
    try dsimp only
    exact ⟨none, 0, rfl, (RS.nil' EU G), rfl⟩
  ·
    try simp only [decide_eq_true_eq, decide_eq_false_iff_not, Bool.and_eq_true, Bool.or_eq_true, Bool.and_eq_false_imp, Bool.or_eq_false_iff, Bool.not_eq_true', Bool.not_eq_false', Bool.not_eq_true, Bool.not_eq_false, beq_iff_eq, beq_eq_false_iff_ne, bne_iff_ne, ne_eq, Decidable.not_not, Int.not_lt, Int.not_le] at h1
    refine tc_skip ?_
    refine tq_then ?_
    refine tc_seq ?_
    refine tc_seq ?_
    refine tc_region ?_
    refine runL_b [0,0,0] [(0, Sl a_l l.length c_l), (1, I i), (4, Sl none 0 0), (5, I 0), (6, I (rollCheck l)), (10, Bo (!decide (rollCheck l = 0))), (14, Bo (decide (i < 0)))] ?_
    refine runL_b2 (decide (i < 0)) (fun bb => [(0, Sl a_l l.length c_l), (1, I i), (4, Sl none 0 0), (5, I 0), (6, I (rollCheck l)), (10, Bo (!decide (rollCheck l = 0))), (14, Bo bb)]) [1,1,1,1,0] [0,0,0,0,0] (fun bb => [(0, Sl a_l l.length c_l), (1, I i), (4, Sl none 0 0), (5, I 0), (6, I (rollCheck l)), (10, Bo (!decide (rollCheck l = 0))), (19, Bo (bb || (decide (i ≥ ((l.length : Nat) : Int)))))]) ?_
    refine runL_nil ?_
    refine tq_then ?_
    refine tc_cond ((decide (i < 0)) || (decide (i ≥ ((l.length : Nat) : Int)))) (fun h2 => ?_) (fun h2 => ?_)
    ·
      try simp only [decide_eq_true_eq, decide_eq_false_iff_not, Bool.and_eq_true, Bool.or_eq_true, Bool.and_eq_false_imp, Bool.or_eq_false_iff, Bool.not_eq_true', Bool.not_eq_false', Bool.not_eq_true, Bool.not_eq_false, beq_iff_eq, beq_eq_false_iff_ne, bne_iff_ne, ne_eq, Decidable.not_not, Int.not_lt, Int.not_le] at h2
      refine tc_rb [0,0] [(0, Sl a_l l.length c_l), (1, I i), (4, Sl none 0 0), (5, I 4), (6, I (rollCheck l)), (10, Bo (!decide (rollCheck l = 0))), (19, Bo ((decide (i < 0)) || (decide (i ≥ ((l.length : Nat) : Int)))))] ?_
      refine tc_ret ?_
      refine tq_then_ret ?_
      have hf2 : rollIn l i = ([], 4) := by
        unfold rollIn; first | (rw [if_pos (by omega)]; done) | (rw [if_neg (by omega), if_pos (by omega)]; done) | (rw [if_neg (by omega), if_neg (by omega)]; done)
      refine tq_ret [0, 0] [Sl none 0 0, I 4] (bp_rows [] .slnil (Mem.le_refl _) ?_)
      rw [hf2]
      try dsimp only
      exact ⟨none, 0, rfl, (RS.nil' EU G), rfl⟩
    ·
      try simp only [decide_eq_true_eq, decide_eq_false_iff_not, Bool.and_eq_true, Bool.or_eq_true, Bool.and_eq_false_imp, Bool.or_eq_false_iff, Bool.not_eq_true', Bool.not_eq_false', Bool.not_eq_true, Bool.not_eq_false, beq_iff_eq, beq_eq_false_iff_ne, bne_iff_ne, ne_eq, Decidable.not_not, Int.not_lt, Int.not_le] at h2
      refine tc_skip ?_
      refine tq_then ?_
      refine tc_seq ?_
      refine tc_region ?_
      refine runL_b [0,0] [(0, Sl a_l l.length c_l), (1, I i), (4, Sl none 0 0), (5, I 0), (6, I (rollCheck l)), (10, Bo (!decide (rollCheck l = 0))), (19, Bo ((decide (i < 0)) || (decide (i ≥ ((l.length : Nat) : Int))))), (20, Sl a_l l.length c_l), (21, I i)] ?_
      refine runL_callR 22 (rIn_con G a_l c_l l h_l i (by first | assumption | omega | (have q_ := rollCheck_ok (by assumption); first | exact q_.1 | exact q_.2.1 | exact q_.2.2 | omega | exact q_.2.2 _ (by assumption))) (by first | assumption | omega | (have q_ := rollCheck_ok (by assumption); first | exact q_.1 | exact q_.2.1 | exact q_.2.2 | omega | exact q_.2.2 _ (by assumption))) (by first | assumption | omega | (have q_ := rollCheck_ok (by assumption); first | exact q_.1 | exact q_.2.1 | exact q_.2.2 | omega | exact q_.2.2 _ (by assumption))) (by first | assumption | omega | (have q_ := rollCheck_ok (by assumption); first | exact q_.1 | exact q_.2.1 | exact q_.2.2 | omega | exact q_.2.2 _ (by assumption)))) (fun v G1 L1 hl1 hp => ?_)
      obtain ⟨a1, c1, r1, rfl, hr1, rfl⟩ := hp
      refine runL_b [0,0] [(0, Sl a_l l.length c_l), (1, I i), (4, Sl a1 ((rIn l i).length) c1), (5, I 0), (6, I (rollCheck l)), (10, Bo (!decide (rollCheck l = 0))), (19, Bo ((decide (i < 0)) || (decide (i ≥ ((l.length : Nat) : Int)))))] ?_
      refine runL_nil ?_
      refine tq_then ?_
      refine tc_ret ?_
      refine tq_frzR (E := EU) 0 hr1 (by have := rIn_len _ l i (Nat.le_refl _); simp only [EU]; (try simp only [List.length_take, List.length_drop] at this); first | omega | (have q_ := rollCheck_ok (by assumption); omega)) (fun G2 hl2 hs1 => ?_)
      have hf3 : rollIn l i = (rIn l i, 0) := by
        unfold rollIn; first | (rw [if_pos (by omega)]; done) | (rw [if_neg (by omega), if_pos (by omega)]; done) | (rw [if_neg (by omega), if_neg (by omega)]; done)
      refine tq_ret [0, 0] [Sl a1 ((rIn l i).length) c1, I 0] (bp_rows [] (.cons _ .slnil) (Mem.le_trans hl1 hl2) ?_)
      rw [hf3]
      try dsimp only
      exact ⟨a1, c1, rfl, hs1, rfl⟩

theorem rollGrew_con (G : Mem) (a_l : Option Addr) (c_l : Nat) (l : List ((List UInt8))) (h_l : RS ES G a_l c_l l) (m : Int)  : Con Try.prog 35 #[Sl a_l l.length c_l, I m] G [] (fun u G' L' => ∃ (a1 : Option Addr) (c2 : Nat), u = .tuple #[Sl a1 (((rollGrew l m).1).length) c2, I ((rollGrew l m).2)] ∧ (RS EU G' a1 c2 ((rollGrew l m).1)) ∧ L' = []) := by
  refine con_of Try.func35 23 [(0, Sl a_l l.length c_l), (1, I m)] rfl (fun w0 G0 => ?_)
  refine tc_rb [0,0] [(0, Sl a_l l.length c_l), (1, I m), (4, Sl none 0 0), (5, I 0)] ?_
  refine tc_seq ?_
  refine tc_seq ?_
  refine tc_region ?_
  refine runL_b [0] [(0, Sl a_l l.length c_l), (1, I m), (4, Sl none 0 0), (5, I 0), (7, Sl a_l l.length c_l)] ?_
  refine runL_callV 8 (I (rollCheck l)) (rollCheck_con G a_l c_l l h_l) ?_
  refine runL_b [0] [(0, Sl a_l l.length c_l), (1, I m), (4, Sl none 0 0), (5, I 0), (6, I (rollCheck l))] ?_
  refine runL_nil ?_
  refine tq_then ?_
  refine tc_rb [0,0] [(0, Sl a_l l.length c_l), (1, I m), (4, Sl none 0 0), (5, I 0), (6, I (rollCheck l)), (10, Bo (!decide (rollCheck l = 0)))] ?_
  refine tc_cond (!decide (rollCheck l = 0)) (fun h1 => ?_) (fun h1 => ?_)
  ·
    try simp only [decide_eq_true_eq, decide_eq_false_iff_not, Bool.and_eq_true, Bool.or_eq_true, Bool.and_eq_false_imp, Bool.or_eq_false_iff, Bool.not_eq_true', Bool.not_eq_false', Bool.not_eq_true, Bool.not_eq_false, beq_iff_eq, beq_eq_false_iff_ne, bne_iff_ne, ne_eq, Decidable.not_not, Int.not_lt, Int.not_le] at h1
    refine tc_rb [0,0,0] [(0, Sl a_l l.length c_l), (1, I m), (4, Sl none 0 0), (5, I (rollCheck l)), (6, I (rollCheck l)), (10, Bo (!decide (rollCheck l = 0)))] ?_
    refine tc_ret ?_
    refine tq_then_ret ?_
    have hf1 : rollGrew l m = ([], rollCheck l) := by
      unfold rollGrew; first | (rw [if_pos (by omega)]; done) | (rw [if_neg (by omega), if_pos (by omega)]; done) | (rw [if_neg (by omega), if_neg (by omega)]; done)
    refine tq_ret [0, 0] [Sl none 0 0, I (rollCheck l)] (bp_rows [] .slnil (Mem.le_refl _) ?_)
    rw [hf1]
    try dsimp only
    exact ⟨none, 0, rfl, (RS.nil' EU G), rfl⟩
  ·
    try simp only [decide_eq_true_eq, decide_eq_false_iff_not, Bool.and_eq_true, Bool.or_eq_true, Bool.and_eq_false_imp, Bool.or_eq_false_iff, Bool.not_eq_true', Bool.not_eq_false', Bool.not_eq_true, Bool.not_eq_false, beq_iff_eq, beq_eq_false_iff_ne, bne_iff_ne, ne_eq, Decidable.not_not, Int.not_lt, Int.not_le] at h1
    refine tc_skip ?_
    refine tq_then ?_
    refine tc_seq ?_
    refine tc_seq ?_
    refine tc_region ?_
    refine runL_b [0,0,0] [(0, Sl a_l l.length c_l), (1, I m), (4, Sl none 0 0), (5, I 0), (6, I (rollCheck l)), (10, Bo (!decide (rollCheck l = 0))), (14, Bo (decide (m < 1)))] ?_
    refine runL_b2 (decide (m < 1)) (fun bb => [(0, Sl a_l l.length c_l), (1, I m), (4, Sl none 0 0), (5, I 0), (6, I (rollCheck l)), (10, Bo (!decide (rollCheck l = 0))), (14, Bo bb)]) [1,1,1,1,0] [0,0,0,0,0] (fun bb => [(0, Sl a_l l.length c_l), (1, I m), (4, Sl none 0 0), (5, I 0), (6, I (rollCheck l)), (10, Bo (!decide (rollCheck l = 0))), (19, Bo (bb || (decide (m > ((l.length : Nat) : Int)))))]) ?_
    refine runL_nil ?_
    refine tq_then ?_
    refine tc_cond ((decide (m < 1)) || (decide (m > ((l.length : Nat) : Int)))) (fun h2 => ?_) (fun h2 => ?_)
    ·
      try simp only [decide_eq_true_eq, decide_eq_false_iff_not, Bool.and_eq_true, Bool.or_eq_true, Bool.and_eq_false_imp, Bool.or_eq_false_iff, Bool.not_eq_true', Bool.not_eq_false', Bool.not_eq_true, Bool.not_eq_false, beq_iff_eq, beq_eq_false_iff_ne, bne_iff_ne, ne_eq, Decidable.not_not, Int.not_lt, Int.not_le] at h2
      refine tc_rb [0,0] [(0, Sl a_l l.length c_l), (1, I m), (4, Sl none 0 0), (5, I 4), (6, I (rollCheck l)), (10, Bo (!decide (rollCheck l = 0))), (19, Bo ((decide (m < 1)) || (decide (m > ((l.length : Nat) : Int)))))] ?_
      refine tc_ret ?_
      refine tq_then_ret ?_
      have hf2 : rollGrew l m = ([], 4) := by
        unfold rollGrew; first | (rw [if_pos (by omega)]; done) | (rw [if_neg (by omega), if_pos (by omega)]; done) | (rw [if_neg (by omega), if_neg (by omega)]; done)
      refine tq_ret [0, 0] [Sl none 0 0, I 4] (bp_rows [] .slnil (Mem.le_refl _) ?_)
      rw [hf2]
      try dsimp only
      exact ⟨none, 0, rfl, (RS.nil' EU G), rfl⟩
    ·
      try simp only [decide_eq_true_eq, decide_eq_false_iff_not, Bool.and_eq_true, Bool.or_eq_true, Bool.and_eq_false_imp, Bool.or_eq_false_iff, Bool.not_eq_true', Bool.not_eq_false', Bool.not_eq_true, Bool.not_eq_false, beq_iff_eq, beq_eq_false_iff_ne, bne_iff_ne, ne_eq, Decidable.not_not, Int.not_lt, Int.not_le] at h2
      refine tc_skip ?_
      refine tq_then ?_
      refine tc_seq ?_
      refine tc_region ?_
      refine runL_b [0,0] [(0, Sl a_l l.length c_l), (1, I m), (4, Sl none 0 0), (5, I 0), (6, I (rollCheck l)), (10, Bo (!decide (rollCheck l = 0))), (19, Bo ((decide (m < 1)) || (decide (m > ((l.length : Nat) : Int))))), (20, Sl a_l l.length c_l), (21, I m)] ?_
      refine runL_callR 22 (rGrew_con G a_l c_l l h_l m true (by first | assumption | omega | (have q_ := rollCheck_ok (by assumption); first | exact q_.1 | exact q_.2.1 | exact q_.2.2 | omega | exact q_.2.2 _ (by assumption))) (by first | assumption | omega | (have q_ := rollCheck_ok (by assumption); first | exact q_.1 | exact q_.2.1 | exact q_.2.2 | omega | exact q_.2.2 _ (by assumption))) (by first | assumption | omega | (have q_ := rollCheck_ok (by assumption); first | exact q_.1 | exact q_.2.1 | exact q_.2.2 | omega | exact q_.2.2 _ (by assumption))) (by first | assumption | omega | (have q_ := rollCheck_ok (by assumption); first | exact q_.1 | exact q_.2.1 | exact q_.2.2 | omega | exact q_.2.2 _ (by assumption)))) (fun v G1 L1 hl1 hp => ?_)
      obtain ⟨a1, c1, r1, rfl, hr1, rfl⟩ := hp
      refine runL_b [0,0] [(0, Sl a_l l.length c_l), (1, I m), (4, Sl a1 ((rGrew l m true).length) c1), (5, I 0), (6, I (rollCheck l)), (10, Bo (!decide (rollCheck l = 0))), (19, Bo ((decide (m < 1)) || (decide (m > ((l.length : Nat) : Int)))))] ?_
      refine runL_nil ?_
      refine tq_then ?_
      refine tc_ret ?_
      refine tq_frzR (E := EU) 0 hr1 (by have := rGrew_len _ l m true (Nat.le_refl _); simp only [EU]; (try simp only [List.length_take, List.length_drop] at this); first | omega | (have q_ := rollCheck_ok (by assumption); omega)) (fun G2 hl2 hs1 => ?_)
      have hf3 : rollGrew l m = (rGrew l m true, 0) := by
        unfold rollGrew; first | (rw [if_pos (by omega)]; done) | (rw [if_neg (by omega), if_pos (by omega)]; done) | (rw [if_neg (by omega), if_neg (by omega)]; done)
      refine tq_ret [0, 0] [Sl a1 ((rGrew l m true).length) c1, I 0] (bp_rows [] (.cons _ .slnil) (Mem.le_trans hl1 hl2) ?_)
      rw [hf3]
      try dsimp only
      exact ⟨a1, c1, rfl, hs1, rfl⟩

theorem rollIsIn_con (G : Mem) (r : Int) (n : Int) (i : Int) (text : List UInt8) (hw_text : (text).length ≤ 140737488351232) (a_p : Option Addr) (c_p : Nat) (p : List Int) (h_p : RS EU G a_p c_p p)  : Con Try.prog 33 #[U r, I n, I i, Sr text, Sl a_p p.length c_p] G [] (fun u G' L' => u = .tuple #[Bo ((rollIsIn r n i text p).1), I ((rollIsIn r n i text p).2)]) := by
  refine con_of Try.func33 49 [(0, U r), (1, I n), (2, I i), (3, Sr text), (4, Sl a_p p.length c_p)] rfl (fun w0 G0 => ?_)
  refine tc_rb [0,0] [(0, U r), (1, I n), (2, I i), (3, Sr text), (4, Sl a_p p.length c_p), (10, Bo false), (11, I 0)] ?_
  refine tc_seq ?_
  refine tc_block ?_
  refine tc_seq ?_
  refine tc_region ?_
  refine runL_b [0,0,0] [(0, U r), (1, I n), (2, I i), (3, Sr text), (4, Sl a_p p.length c_p), (10, Bo false), (11, I 0), (17, Bo (decide (n < 1)))] ?_
  refine runL_b2 (decide (n < 1)) (fun bb => [(0, U r), (1, I n), (2, I i), (3, Sr text), (4, Sl a_p p.length c_p), (10, Bo false), (11, I 0), (17, Bo bb)]) [1,1,0] [0,0,0] (fun bb => [(0, U r), (1, I n), (2, I i), (3, Sr text), (4, Sl a_p p.length c_p), (10, Bo false), (11, I 0), (20, Bo (bb || (decide (n > 40))))]) ?_
  refine runL_b [0] [(0, U r), (1, I n), (2, I i), (3, Sr text), (4, Sl a_p p.length c_p), (10, Bo false), (11, I 0), (21, Bo ((decide (n < 1)) || (decide (n > 40))))] ?_
  refine runL_b2 ((decide (n < 1)) || (decide (n > 40))) (fun bb => [(0, U r), (1, I n), (2, I i), (3, Sr text), (4, Sl a_p p.length c_p), (10, Bo false), (11, I 0), (21, Bo bb)]) [1,1,0] [0,0,0] (fun bb => [(0, U r), (1, I n), (2, I i), (3, Sr text), (4, Sl a_p p.length c_p), (10, Bo false), (11, I 0), (24, Bo (bb || (decide (i < 0))))]) ?_
  refine runL_b [0] [(0, U r), (1, I n), (2, I i), (3, Sr text), (4, Sl a_p p.length c_p), (10, Bo false), (11, I 0), (25, Bo (((decide (n < 1)) || (decide (n > 40))) || (decide (i < 0))))] ?_
  refine runL_b2 (((decide (n < 1)) || (decide (n > 40))) || (decide (i < 0))) (fun bb => [(0, U r), (1, I n), (2, I i), (3, Sr text), (4, Sl a_p p.length c_p), (10, Bo false), (11, I 0), (25, Bo bb)]) [1,1,1,0] [0,0,0,0] (fun bb => [(0, U r), (1, I n), (2, I i), (3, Sr text), (4, Sl a_p p.length c_p), (10, Bo false), (11, I 0), (29, Bo (bb || (decide (i ≥ n))))]) ?_
  refine runL_b [0] [(0, U r), (1, I n), (2, I i), (3, Sr text), (4, Sl a_p p.length c_p), (10, Bo false), (11, I 0), (14, Bo ((((decide (n < 1)) || (decide (n > 40))) || (decide (i < 0))) || (decide (i ≥ n))))] ?_
  refine runL_nil ?_
  refine tq_then ?_
  refine tc_cond ((((decide (n < 1)) || (decide (n > 40))) || (decide (i < 0))) || (decide (i ≥ n))) (fun h1 => ?_) (fun h1 => ?_)
  ·
    try simp only [decide_eq_true_eq, decide_eq_false_iff_not, Bool.and_eq_true, Bool.or_eq_true, Bool.and_eq_false_imp, Bool.or_eq_false_iff, Bool.not_eq_true', Bool.not_eq_false', Bool.not_eq_true, Bool.not_eq_false, beq_iff_eq, beq_eq_false_iff_ne, bne_iff_ne, ne_eq, Decidable.not_not, Int.not_lt, Int.not_le] at h1
    refine tc_rb [0,0] [(0, U r), (1, I n), (2, I i), (3, Sr text), (4, Sl a_p p.length c_p), (10, Bo false), (11, I 4), (14, Bo ((((decide (n < 1)) || (decide (n > 40))) || (decide (i < 0))) || (decide (i ≥ n))))] ?_
    refine tc_ret ?_
    refine tq_block_ret ?_
    refine tq_then_ret ?_
    refine tq_ret [0, 0] [Bo false, I 4] (bp_ret (Mem.le_refl _) ?_)
    have hf_ : (rollIsIn r n i text p) = (false, 4) := by
      unfold rollIsIn; first | (rw [if_pos (by omega)]; done) | (rw [if_neg (by omega), if_pos (by omega)]; done) | (rw [if_neg (by omega), if_neg (by omega)]; done) | (rw [if_neg (by omega)]; done)
    (try rw [hf_]); first | with_reducible rfl | (simp only [packR]; done) | rfl
  ·
    try simp only [decide_eq_true_eq, decide_eq_false_iff_not, Bool.and_eq_true, Bool.or_eq_true, Bool.and_eq_false_imp, Bool.or_eq_false_iff, Bool.not_eq_true', Bool.not_eq_false', Bool.not_eq_true, Bool.not_eq_false, beq_iff_eq, beq_eq_false_iff_ne, bne_iff_ne, ne_eq, Decidable.not_not, Int.not_lt, Int.not_le] at h1
    refine tc_rb [0,0,0,0] [(0, U r), (1, I n), (2, I i), (3, Sr text), (4, Sl a_p p.length c_p), (10, Bo false), (11, I 0), (14, Bo ((((decide (n < 1)) || (decide (n > 40))) || (decide (i < 0))) || (decide (i ≥ n)))), (30, Bo (decide (((text).length : Int) > 40)))] ?_
    refine tc_cond (decide (((text).length : Int) > 40)) (fun h2 => ?_) (fun h2 => ?_)
    ·
      try simp only [decide_eq_true_eq, decide_eq_false_iff_not, Bool.and_eq_true, Bool.or_eq_true, Bool.and_eq_false_imp, Bool.or_eq_false_iff, Bool.not_eq_true', Bool.not_eq_false', Bool.not_eq_true, Bool.not_eq_false, beq_iff_eq, beq_eq_false_iff_ne, bne_iff_ne, ne_eq, Decidable.not_not, Int.not_lt, Int.not_le] at h2
      refine tc_rb [0,0] [(0, U r), (1, I n), (2, I i), (3, Sr text), (4, Sl a_p p.length c_p), (10, Bo false), (11, I 2), (14, Bo ((((decide (n < 1)) || (decide (n > 40))) || (decide (i < 0))) || (decide (i ≥ n)))), (30, Bo (decide (((text).length : Int) > 40)))] ?_
      refine tc_ret ?_
      refine tq_block_ret ?_
      refine tq_then_ret ?_
      refine tq_ret [0, 0] [Bo false, I 2] (bp_ret (Mem.le_refl _) ?_)
      have hf_ : (rollIsIn r n i text p) = (false, 2) := by
        unfold rollIsIn; first | (rw [if_pos (by omega)]; done) | (rw [if_neg (by omega), if_pos (by omega)]; done) | (rw [if_neg (by omega), if_neg (by omega)]; done) | (rw [if_neg (by omega)]; done)
      (try rw [hf_]); first | with_reducible rfl | (simp only [packR]; done) | rfl
    ·
      try simp only [decide_eq_true_eq, decide_eq_false_iff_not, Bool.and_eq_true, Bool.or_eq_true, Bool.and_eq_false_imp, Bool.or_eq_false_iff, Bool.not_eq_true', Bool.not_eq_false', Bool.not_eq_true, Bool.not_eq_false, beq_iff_eq, beq_eq_false_iff_ne, bne_iff_ne, ne_eq, Decidable.not_not, Int.not_lt, Int.not_le] at h2
      refine tc_skip ?_
      refine tq_block ?_
      refine tq_then ?_
      refine tc_seq ?_
      refine tc_region ?_
      refine runL_b [0,0,0] [(0, U r), (1, I n), (2, I i), (3, Sr text), (4, Sl a_p p.length c_p), (10, Bo false), (11, I 0), (14, Bo ((((decide (n < 1)) || (decide (n > 40))) || (decide (i < 0))) || (decide (i ≥ n)))), (30, Bo (decide (((text).length : Int) > 40))), (35, I n), (36, I i), (37, Sr text)] ?_
      refine runL_callV 38 (U (rOne text)) (rOne_con G text hw_text (by first | assumption | omega)) ?_
      refine runL_b [0] [(0, U r), (1, I n), (2, I i), (3, Sr text), (10, Bo false), (11, I 0), (14, Bo ((((decide (n < 1)) || (decide (n > 40))) || (decide (i < 0))) || (decide (i ≥ n)))), (30, Bo (decide (((text).length : Int) > 40))), (35, I n), (36, I i), (38, U (rOne text)), (39, Sl a_p p.length c_p)] ?_
      refine runL_callV 40 (.tuple #[U ((rMade n i (rOne text) p).1), Bo ((rMade n i (rOne text) p).2)]) (rMade_con G n i (rOne text) a_p c_p p h_p (by first | assumption | omega) (by first | assumption | omega)) ?_
      refine runL_b [0,0,0,0,0] [(0, U r), (1, I n), (2, I i), (3, Sr text), (10, Bo false), (11, I 0), (12, U ((rMade n i (rOne text) p).1)), (13, Bo ((rMade n i (rOne text) p).2)), (14, Bo ((((decide (n < 1)) || (decide (n > 40))) || (decide (i < 0))) || (decide (i ≥ n)))), (30, Bo (decide (((text).length : Int) > 40)))] ?_
      refine runL_nil ?_
      refine tq_then ?_
      refine tc_seq ?_
      refine tc_region ?_
      refine runL_b [0,0] [(0, U r), (1, I n), (2, I i), (3, Sr text), (10, Bo false), (11, I 0), (12, U ((rMade n i (rOne text) p).1)), (14, Bo ((((decide (n < 1)) || (decide (n > 40))) || (decide (i < 0))) || (decide (i ≥ n)))), (30, Bo (decide (((text).length : Int) > 40))), (44, Bo ((rMade n i (rOne text) p).2))] ?_
      refine runL_b2 ((rMade n i (rOne text) p).2) (fun bb => [(0, U r), (1, I n), (2, I i), (3, Sr text), (10, Bo false), (11, I 0), (12, U ((rMade n i (rOne text) p).1)), (14, Bo ((((decide (n < 1)) || (decide (n > 40))) || (decide (i < 0))) || (decide (i ≥ n)))), (30, Bo (decide (((text).length : Int) > 40))), (44, Bo bb)]) [0,0,0,0] [1,1,1,0] (fun bb => [(1, I n), (2, I i), (3, Sr text), (10, Bo false), (11, I 0), (14, Bo ((((decide (n < 1)) || (decide (n > 40))) || (decide (i < 0))) || (decide (i ≥ n)))), (30, Bo (decide (((text).length : Int) > 40))), (48, Bo (bb && (decide ((rMade n i (rOne text) p).1 = r))))]) ?_
      refine runL_b [0,0] [(1, I n), (2, I i), (3, Sr text), (10, Bo (((rMade n i (rOne text) p).2) && (decide ((rMade n i (rOne text) p).1 = r)))), (11, I 0), (14, Bo ((((decide (n < 1)) || (decide (n > 40))) || (decide (i < 0))) || (decide (i ≥ n)))), (30, Bo (decide (((text).length : Int) > 40)))] ?_
      refine runL_nil ?_
      refine tq_then ?_
      refine tc_ret ?_
      refine tq_ret [0, 0] [Bo (((rMade n i (rOne text) p).2) && (decide ((rMade n i (rOne text) p).1 = r))), I 0] (bp_ret (Mem.le_refl _) ?_)
      have hf_ : (rollIsIn r n i text p) = ((((rMade n i (rOne text) p).2) && (decide ((rMade n i (rOne text) p).1 = r))), 0) := by
        unfold rollIsIn; first | (rw [if_pos (by omega)]; done) | (rw [if_neg (by omega), if_pos (by omega)]; done) | (rw [if_neg (by omega), if_neg (by omega)]; done) | (rw [if_neg (by omega)]; done)
      (try rw [hf_]); first | with_reducible rfl | (simp only [packR]; done) | rfl

theorem rollIsGrown_con (G : Mem) (a : Int) (m : Int) (b : Int) (n : Int) (a_p : Option Addr) (c_p : Nat) (p : List Int) (h_p : RS EU G a_p c_p p)  : Con Try.prog 36 #[U a, I m, U b, I n, Sl a_p p.length c_p] G [] (fun u G' L' => u = .tuple #[Bo ((rollIsGrown a m b n p).1), I ((rollIsGrown a m b n p).2)]) := by
  refine con_of Try.func36 50 [(0, U a), (1, I m), (2, U b), (3, I n), (4, Sl a_p p.length c_p)] rfl (fun w0 G0 => ?_)
  refine tc_rb [0,0] [(0, U a), (1, I m), (2, U b), (3, I n), (4, Sl a_p p.length c_p), (10, Bo false), (11, I 0)] ?_
  refine tc_seq ?_
  refine tc_seq ?_
  refine tc_region ?_
  refine runL_b [0,0,0] [(0, U a), (1, I m), (2, U b), (3, I n), (4, Sl a_p p.length c_p), (10, Bo false), (11, I 0), (17, Bo (decide (n < 1)))] ?_
  refine runL_b2 (decide (n < 1)) (fun bb => [(0, U a), (1, I m), (2, U b), (3, I n), (4, Sl a_p p.length c_p), (10, Bo false), (11, I 0), (17, Bo bb)]) [1,1,0] [0,0,0] (fun bb => [(0, U a), (1, I m), (2, U b), (3, I n), (4, Sl a_p p.length c_p), (10, Bo false), (11, I 0), (20, Bo (bb || (decide (n > 40))))]) ?_
  refine runL_b [0] [(0, U a), (1, I m), (2, U b), (3, I n), (4, Sl a_p p.length c_p), (10, Bo false), (11, I 0), (21, Bo ((decide (n < 1)) || (decide (n > 40))))] ?_
  refine runL_b2 ((decide (n < 1)) || (decide (n > 40))) (fun bb => [(0, U a), (1, I m), (2, U b), (3, I n), (4, Sl a_p p.length c_p), (10, Bo false), (11, I 0), (21, Bo bb)]) [1,1,0] [0,0,0] (fun bb => [(0, U a), (1, I m), (2, U b), (3, I n), (4, Sl a_p p.length c_p), (10, Bo false), (11, I 0), (24, Bo (bb || (decide (m < 1))))]) ?_
  refine runL_b [0] [(0, U a), (1, I m), (2, U b), (3, I n), (4, Sl a_p p.length c_p), (10, Bo false), (11, I 0), (25, Bo (((decide (n < 1)) || (decide (n > 40))) || (decide (m < 1))))] ?_
  refine runL_b2 (((decide (n < 1)) || (decide (n > 40))) || (decide (m < 1))) (fun bb => [(0, U a), (1, I m), (2, U b), (3, I n), (4, Sl a_p p.length c_p), (10, Bo false), (11, I 0), (25, Bo bb)]) [1,1,1,0] [0,0,0,0] (fun bb => [(0, U a), (1, I m), (2, U b), (3, I n), (4, Sl a_p p.length c_p), (10, Bo false), (11, I 0), (29, Bo (bb || (decide (m > n))))]) ?_
  refine runL_nil ?_
  refine tq_then ?_
  refine tc_cond ((((decide (n < 1)) || (decide (n > 40))) || (decide (m < 1))) || (decide (m > n))) (fun h1 => ?_) (fun h1 => ?_)
  ·
    try simp only [decide_eq_true_eq, decide_eq_false_iff_not, Bool.and_eq_true, Bool.or_eq_true, Bool.and_eq_false_imp, Bool.or_eq_false_iff, Bool.not_eq_true', Bool.not_eq_false', Bool.not_eq_true, Bool.not_eq_false, beq_iff_eq, beq_eq_false_iff_ne, bne_iff_ne, ne_eq, Decidable.not_not, Int.not_lt, Int.not_le] at h1
    refine tc_rb [0,0] [(0, U a), (1, I m), (2, U b), (3, I n), (4, Sl a_p p.length c_p), (10, Bo false), (11, I 4), (29, Bo ((((decide (n < 1)) || (decide (n > 40))) || (decide (m < 1))) || (decide (m > n))))] ?_
    refine tc_ret ?_
    refine tq_then_ret ?_
    refine tq_ret [0, 0] [Bo false, I 4] (bp_ret (Mem.le_refl _) ?_)
    have hf_ : (rollIsGrown a m b n p) = (false, 4) := by
      unfold rollIsGrown; first | (rw [if_pos (by omega)]; done) | (rw [if_neg (by omega), if_pos (by omega)]; done) | (rw [if_neg (by omega), if_neg (by omega)]; done) | (rw [if_neg (by omega)]; done)
    (try rw [hf_]); first | with_reducible rfl | (simp only [packR]; done) | rfl
  ·
    try simp only [decide_eq_true_eq, decide_eq_false_iff_not, Bool.and_eq_true, Bool.or_eq_true, Bool.and_eq_false_imp, Bool.or_eq_false_iff, Bool.not_eq_true', Bool.not_eq_false', Bool.not_eq_true, Bool.not_eq_false, beq_iff_eq, beq_eq_false_iff_ne, bne_iff_ne, ne_eq, Decidable.not_not, Int.not_lt, Int.not_le] at h1
    refine tc_skip ?_
    refine tq_then ?_
    refine tc_seq ?_
    refine tc_region ?_
    refine runL_b [0,0,0,0] [(0, U a), (1, I m), (2, U b), (3, I n), (10, Bo false), (11, I 0), (29, Bo ((((decide (n < 1)) || (decide (n > 40))) || (decide (m < 1))) || (decide (m > n)))), (31, U a), (32, I m), (33, I n), (34, Sl a_p p.length c_p)] ?_
    refine runL_callV 35 (.tuple #[U ((rBoth a m n true p).1), U ((rBoth a m n true p).2.1), Bo ((rBoth a m n true p).2.2)]) (rBoth_con G a m n true a_p c_p p h_p (by first | assumption | omega)) ?_
    refine runL_b [0,0,0,0,0,0,0] [(0, U a), (1, I m), (2, U b), (3, I n), (10, Bo false), (11, I 0), (12, U ((rBoth a m n true p).1)), (13, U ((rBoth a m n true p).2.1)), (14, Bo ((rBoth a m n true p).2.2)), (29, Bo ((((decide (n < 1)) || (decide (n > 40))) || (decide (m < 1))) || (decide (m > n))))] ?_
    refine runL_nil ?_
    refine tq_then ?_
    refine tc_seq ?_
    refine tc_region ?_
    refine runL_b [0,0] [(0, U a), (1, I m), (2, U b), (3, I n), (10, Bo false), (11, I 0), (12, U ((rBoth a m n true p).1)), (13, U ((rBoth a m n true p).2.1)), (29, Bo ((((decide (n < 1)) || (decide (n > 40))) || (decide (m < 1))) || (decide (m > n)))), (40, Bo ((rBoth a m n true p).2.2))] ?_
    refine runL_b2 ((rBoth a m n true p).2.2) (fun bb => [(0, U a), (1, I m), (2, U b), (3, I n), (10, Bo false), (11, I 0), (12, U ((rBoth a m n true p).1)), (13, U ((rBoth a m n true p).2.1)), (29, Bo ((((decide (n < 1)) || (decide (n > 40))) || (decide (m < 1))) || (decide (m > n)))), (40, Bo bb)]) [0,0,0,0] [1,1,1,0] (fun bb => [(0, U a), (1, I m), (2, U b), (3, I n), (10, Bo false), (11, I 0), (13, U ((rBoth a m n true p).2.1)), (29, Bo ((((decide (n < 1)) || (decide (n > 40))) || (decide (m < 1))) || (decide (m > n)))), (44, Bo (bb && (decide ((rBoth a m n true p).1 = a))))]) ?_
    refine runL_b [0] [(0, U a), (1, I m), (2, U b), (3, I n), (10, Bo false), (11, I 0), (13, U ((rBoth a m n true p).2.1)), (29, Bo ((((decide (n < 1)) || (decide (n > 40))) || (decide (m < 1))) || (decide (m > n)))), (45, Bo (((rBoth a m n true p).2.2) && (decide ((rBoth a m n true p).1 = a))))] ?_
    refine runL_b2 (((rBoth a m n true p).2.2) && (decide ((rBoth a m n true p).1 = a))) (fun bb => [(0, U a), (1, I m), (2, U b), (3, I n), (10, Bo false), (11, I 0), (13, U ((rBoth a m n true p).2.1)), (29, Bo ((((decide (n < 1)) || (decide (n > 40))) || (decide (m < 1))) || (decide (m > n)))), (45, Bo bb)]) [0,0,0,0] [1,1,1,0] (fun bb => [(0, U a), (1, I m), (3, I n), (10, Bo false), (11, I 0), (29, Bo ((((decide (n < 1)) || (decide (n > 40))) || (decide (m < 1))) || (decide (m > n)))), (49, Bo (bb && (decide ((rBoth a m n true p).2.1 = b))))]) ?_
    refine runL_b [0,0] [(0, U a), (1, I m), (3, I n), (10, Bo ((((rBoth a m n true p).2.2) && (decide ((rBoth a m n true p).1 = a))) && (decide ((rBoth a m n true p).2.1 = b)))), (11, I 0), (29, Bo ((((decide (n < 1)) || (decide (n > 40))) || (decide (m < 1))) || (decide (m > n))))] ?_
    refine runL_nil ?_
    refine tq_then ?_
    refine tc_ret ?_
    refine tq_ret [0, 0] [Bo ((((rBoth a m n true p).2.2) && (decide ((rBoth a m n true p).1 = a))) && (decide ((rBoth a m n true p).2.1 = b))), I 0] (bp_ret (Mem.le_refl _) ?_)
    have hf_ : (rollIsGrown a m b n p) = (((((rBoth a m n true p).2.2) && (decide ((rBoth a m n true p).1 = a))) && (decide ((rBoth a m n true p).2.1 = b))), 0) := by
      unfold rollIsGrown; first | (rw [if_pos (by omega)]; done) | (rw [if_neg (by omega), if_pos (by omega)]; done) | (rw [if_neg (by omega), if_neg (by omega)]; done) | (rw [if_neg (by omega)]; done)
    (try rw [hf_]); first | with_reducible rfl | (simp only [packR]; done) | rfl
end Go.Proofs.Ytggljibhfbgmpaa
