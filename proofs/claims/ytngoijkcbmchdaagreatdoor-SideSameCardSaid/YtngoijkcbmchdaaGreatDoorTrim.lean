import Derived.Test.YtngoijkcbmchdaaGreatDoorTy
namespace Go.Proofs.YtngoijkcbmchdaaGreatDoor
open Go.Tx
set_option linter.unusedVariables false
set_option linter.unusedSimpArgs false

def isB (b : UInt8) : Bool := b == 48 || b == 49
def ascHas (c : Int) : Bool := decide (c = 48) || decide (c = 49)
theorem ascHas_byte (b : UInt8) : ascHas (b.toNat : Int) = isB b := by
  have e1 : ((b.toNat : Int) = 48) ↔ b = 48 := ⟨fun h => UInt8.toNat_inj.1 (by have q : b.toNat = 48 := (by omega); simpa using q), fun h => by subst h; rfl⟩
  have e2 : ((b.toNat : Int) = 49) ↔ b = 49 := ⟨fun h => UInt8.toNat_inj.1 (by have q : b.toNat = 49 := (by omega); simpa using q), fun h => by subst h; rfl⟩
  unfold ascHas isB; rw [Bool.eq_iff_iff]; simp [e1, e2]
def trimL (s : List UInt8) : List UInt8 := s.dropWhile isB
def trimR (s : List UInt8) : List UInt8 := (s.reverse.dropWhile isB).reverse
def trimS (s : List UInt8) : List UInt8 := trimL (trimR s)
theorem trimL_step {s : List UInt8} {y : UInt8} (h : s[0]? = some y) (hb : isB y = true) : trimL s = trimL (s.drop 1) := by
  cases s with
  | nil => cases h
  | cons x r => simp at h; subst h; simp [trimL, List.dropWhile_cons, hb]
theorem trimL_end {s : List UInt8} {y : UInt8} (h : s[0]? = some y) (hb : isB y = false) : trimL s = s := by
  cases s with
  | nil => cases h
  | cons x r => simp at h; subst h; simp [trimL, List.dropWhile_cons, hb]
theorem snoc_of {s : List UInt8} {y : UInt8} (h : s[s.length - 1]? = some y) : s = s.take (s.length - 1) ++ [y] := by
  obtain ⟨hl, e⟩ := List.getElem?_eq_some_iff.1 h
  have := List.take_append_drop (s.length - 1) s
  rw [List.drop_eq_getElem_cons hl, e, List.drop_eq_nil_of_le (by omega)] at this
  exact this.symm
theorem trimR_step {s : List UInt8} {y : UInt8} (h : s[s.length - 1]? = some y) (hb : isB y = true) : trimR s = trimR (s.take (s.length - 1)) := by
  have e := snoc_of h
  generalize hr : s.take (s.length - 1) = r at *
  rw [e]; unfold trimR; rw [List.reverse_append]; simp [List.dropWhile_cons, hb]
theorem trimR_end {s : List UInt8} {y : UInt8} (h : s[s.length - 1]? = some y) (hb : isB y = false) : trimR s = s := by
  have e := snoc_of h
  generalize hr : s.take (s.length - 1) = r at *
  rw [e]; unfold trimR; rw [List.reverse_append]; simp [List.dropWhile_cons, hb]
theorem nil_of {s : List UInt8} (h : ((s.length : Nat) : Int) ≤ 0) : s = [] := List.eq_nil_of_length_eq_zero (by omega)
theorem trimL_nil {s : List UInt8} (h : ((s.length : Nat) : Int) ≤ 0) : trimL s = s := by rw [nil_of h]; rfl
theorem trimR_nil {s : List UInt8} (h : ((s.length : Nat) : Int) ≤ 0) : trimR s = s := by rw [nil_of h]; rfl
theorem dropWhile_nil {p : UInt8 → Bool} : ∀ {s : List UInt8}, s.dropWhile p = [] ↔ ∀ b ∈ s, p b = true
  | [] => by simp
  | x :: r => by
    rw [List.dropWhile_cons]
    split
    · rename_i h; rw [dropWhile_nil]; simp [h]
    · rename_i h; simp [h]
theorem dropWhile_head {p : UInt8 → Bool} : ∀ {s : List UInt8} {x : UInt8}, (s.dropWhile p).head? = some x → p x = false
  | [], _, h => by cases h
  | y :: r, x, h => by
    rw [List.dropWhile_cons] at h
    split at h
    · exact dropWhile_head h
    · rename_i hy; simp at h; subst h; simpa using hy
theorem trimS_nil {s : List UInt8} : trimS s = [] ↔ ∀ b ∈ s, isB b = true := by
  unfold trimS trimL
  rw [dropWhile_nil]
  constructor
  · intro h
    by_cases e : s.reverse.dropWhile isB = []
    · rw [dropWhile_nil] at e; simpa using e
    · exfalso
      obtain ⟨x, hx⟩ : ∃ x, (s.reverse.dropWhile isB).head? = some x := by
        cases hh : s.reverse.dropWhile isB with
        | nil => exact absurd hh e
        | cons x r => exact ⟨x, rfl⟩
      have h1 := dropWhile_head hx
      have h2 : x ∈ trimR s := by unfold trimR; rw [List.mem_reverse]; exact List.mem_of_mem_head? hx
      rw [h x h2] at h1; cases h1
  · intro h b hb
    unfold trimR at hb
    rw [List.mem_reverse] at hb
    exact h b (List.mem_reverse.1 ((List.dropWhile_sublist _).subset hb))
theorem trimR_len (s : List UInt8) : (trimR s).length ≤ s.length := by
  unfold trimR; rw [List.length_reverse]; have := (List.dropWhile_sublist (p := isB) (l := s.reverse)).length_le; rw [List.length_reverse] at this; exact this
def ascL : List Value := (List.range 256).map fun (j : Nat) => Bo (ascHas (j : Int))
theorem ascL_get {k : Nat} (hk : k < 256) : ascL[k]? = some (Bo (ascHas (k : Int))) := by
  unfold ascL; simp [hk]
theorem asc_at {G : Mem} {b k : Nat} {cs : List Value} (hz : ∀ j v, cs[j]? = some v → G b (0 + j) = some v) (hc : cs = ascL) (hk : k < 256) : ∀ j v, [Bo (ascHas (k : Int))][j]? = some v → G b (0 + k * 1 + j) = some v := by
  intro j v hv
  cases j with
  | zero =>
    simp at hv; subst hv hc
    have := hz k _ (ascL_get hk)
    rw [Nat.mul_one, Nat.add_zero]; exact this
  | succ j => simp at hv

set_option maxRecDepth 4000 in
theorem ascSet_con (G : Mem) : Con Tryz.prog 58 #[Sr [48, 49]] G [] (fun u G' L' => u = .tuple #[.agg ascL.toArray, Bo true]) := by
  refine con_of Tryz.func58 21 [(0, Sr ([48, 49]))] rfl (fun w0 G0 => ?_)
  refine tc_seq ?_
  refine tc_region ?_
  refine runL_box 2 #[Bo false, Bo false, Bo false, Bo false, Bo false, Bo false, Bo false, Bo false, Bo false, Bo false, Bo false, Bo false, Bo false, Bo false, Bo false, Bo false, Bo false, Bo false, Bo false, Bo false, Bo false, Bo false, Bo false, Bo false, Bo false, Bo false, Bo false, Bo false, Bo false, Bo false, Bo false, Bo false, Bo false, Bo false, Bo false, Bo false, Bo false, Bo false, Bo false, Bo false, Bo false, Bo false, Bo false, Bo false, Bo false, Bo false, Bo false, Bo false, Bo false, Bo false, Bo false, Bo false, Bo false, Bo false, Bo false, Bo false, Bo false, Bo false, Bo false, Bo false, Bo false, Bo false, Bo false, Bo false, Bo false, Bo false, Bo false, Bo false, Bo false, Bo false, Bo false, Bo false, Bo false, Bo false, Bo false, Bo false, Bo false, Bo false, Bo false, Bo false, Bo false, Bo false, Bo false, Bo false, Bo false, Bo false, Bo false, Bo false, Bo false, Bo false, Bo false, Bo false, Bo false, Bo false, Bo false, Bo false, Bo false, Bo false, Bo false, Bo false, Bo false, Bo false, Bo false, Bo false, Bo false, Bo false, Bo false, Bo false, Bo false, Bo false, Bo false, Bo false, Bo false, Bo false, Bo false, Bo false, Bo false, Bo false, Bo false, Bo false, Bo false, Bo false, Bo false, Bo false, Bo false, Bo false, Bo false, Bo false, Bo false, Bo false, Bo false, Bo false, Bo false, Bo false, Bo false, Bo false, Bo false, Bo false, Bo false, Bo false, Bo false, Bo false, Bo false, Bo false, Bo false, Bo false, Bo false, Bo false, Bo false, Bo false, Bo false, Bo false, Bo false, Bo false, Bo false, Bo false, Bo false, Bo false, Bo false, Bo false, Bo false, Bo false, Bo false, Bo false, Bo false, Bo false, Bo false, Bo false, Bo false, Bo false, Bo false, Bo false, Bo false, Bo false, Bo false, Bo false, Bo false, Bo false, Bo false, Bo false, Bo false, Bo false, Bo false, Bo false, Bo false, Bo false, Bo false, Bo false, Bo false, Bo false, Bo false, Bo false, Bo false, Bo false, Bo false, Bo false, Bo false, Bo false, Bo false, Bo false, Bo false, Bo false, Bo false, Bo false, Bo false, Bo false, Bo false, Bo false, Bo false, Bo false, Bo false, Bo false, Bo false, Bo false, Bo false, Bo false, Bo false, Bo false, Bo false, Bo false, Bo false, Bo false, Bo false, Bo false, Bo false, Bo false, Bo false, Bo false, Bo false, Bo false, Bo false, Bo false, Bo false, Bo false, Bo false, Bo false, Bo false, Bo false, Bo false, Bo false, Bo false, Bo false, Bo false, Bo false, Bo false, Bo false, Bo false, Bo false, Bo false, Bo false, Bo false, Bo false, Bo false, Bo false, Bo false, Bo false] 111 (fun b1 => ?_)
  refine runL_bn [0] [] ?_
  refine runL_nil ?_
  refine tq_then ?_
  refine tc_seq ?_
  refine tc_rbn [0] [(4, I 0)] ?_
  refine tc_block ?_
  refine tc_unroll 3 ?_
  refine ti_step ?_
  refine tc_seq ?_
  refine tc_rbn [0,0,0,0] [(9, Bo true)] ?_
  refine tc_cond_true ?_
  refine tc_skip ?_
  refine tq_then ?_
  refine tc_seq ?_
  refine tc_block ?_
  refine tc_rbn [0,0,0,0] [(5, Y 48)] ?_
  refine tc_seq ?_
  refine tc_rbn [0,0] [(16, Bo false)] ?_
  refine tc_cond_false ?_
  refine tc_skip ?_
  refine tq_then ?_
  refine tc_region ?_
  refine runL_bsn [0,0,3] [] [[Sg b1 0 [Bo false, Bo false, Bo false, Bo false, Bo false, Bo false, Bo false, Bo false, Bo false, Bo false, Bo false, Bo false, Bo false, Bo false, Bo false, Bo false, Bo false, Bo false, Bo false, Bo false, Bo false, Bo false, Bo false, Bo false, Bo false, Bo false, Bo false, Bo false, Bo false, Bo false, Bo false, Bo false, Bo false, Bo false, Bo false, Bo false, Bo false, Bo false, Bo false, Bo false, Bo false, Bo false, Bo false, Bo false, Bo false, Bo false, Bo false, Bo false, Bo true, Bo false, Bo false, Bo false, Bo false, Bo false, Bo false, Bo false, Bo false, Bo false, Bo false, Bo false, Bo false, Bo false, Bo false, Bo false, Bo false, Bo false, Bo false, Bo false, Bo false, Bo false, Bo false, Bo false, Bo false, Bo false, Bo false, Bo false, Bo false, Bo false, Bo false, Bo false, Bo false, Bo false, Bo false, Bo false, Bo false, Bo false, Bo false, Bo false, Bo false, Bo false, Bo false, Bo false, Bo false, Bo false, Bo false, Bo false, Bo false, Bo false, Bo false, Bo false, Bo false, Bo false, Bo false, Bo false, Bo false, Bo false, Bo false, Bo false, Bo false, Bo false, Bo false, Bo false, Bo false, Bo false, Bo false, Bo false, Bo false, Bo false, Bo false, Bo false, Bo false, Bo false, Bo false, Bo false, Bo false, Bo false, Bo false, Bo false, Bo false, Bo false, Bo false, Bo false, Bo false, Bo false, Bo false, Bo false, Bo false, Bo false, Bo false, Bo false, Bo false, Bo false, Bo false, Bo false, Bo false, Bo false, Bo false, Bo false, Bo false, Bo false, Bo false, Bo false, Bo false, Bo false, Bo false, Bo false, Bo false, Bo false, Bo false, Bo false, Bo false, Bo false, Bo false, Bo false, Bo false, Bo false, Bo false, Bo false, Bo false, Bo false, Bo false, Bo false, Bo false, Bo false, Bo false, Bo false, Bo false, Bo false, Bo false, Bo false, Bo false, Bo false, Bo false, Bo false, Bo false, Bo false, Bo false, Bo false, Bo false, Bo false, Bo false, Bo false, Bo false, Bo false, Bo false, Bo false, Bo false, Bo false, Bo false, Bo false, Bo false, Bo false, Bo false, Bo false, Bo false, Bo false, Bo false, Bo false, Bo false, Bo false, Bo false, Bo false, Bo false, Bo false, Bo false, Bo false, Bo false, Bo false, Bo false, Bo false, Bo false, Bo false, Bo false, Bo false, Bo false, Bo false, Bo false, Bo false, Bo false, Bo false, Bo false, Bo false, Bo false, Bo false, Bo false, Bo false, Bo false, Bo false, Bo false, Bo false, Bo false, Bo false, Bo false, Bo false, Bo false, Bo false, Bo false, Bo false, Bo false, Bo false, Bo false, Bo false, Bo false, Bo false, Bo false, Bo false]]] ?_
  refine runL_nil ?_
  refine tq_block ?_
  refine tq_then ?_
  refine tc_region ?_
  refine runL_bn [0,0,0] [(4, I 1)] ?_
  refine runL_nil ?_
  refine tq_iter ?_
  refine ti_step ?_
  refine tc_seq ?_
  refine tc_rbn [0,0,0,0] [(9, Bo true)] ?_
  refine tc_cond_true ?_
  refine tc_skip ?_
  refine tq_then ?_
  refine tc_seq ?_
  refine tc_block ?_
  refine tc_rbn [0,0,0,0] [(5, Y 49)] ?_
  refine tc_seq ?_
  refine tc_rbn [0,0] [(16, Bo false)] ?_
  refine tc_cond_false ?_
  refine tc_skip ?_
  refine tq_then ?_
  refine tc_region ?_
  refine runL_bsn [0,0,3] [] [[Sg b1 0 ascL]] ?_
  refine runL_nil ?_
  refine tq_block ?_
  refine tq_then ?_
  refine tc_region ?_
  refine runL_bn [0,0,0] [(4, I 2)] ?_
  refine runL_nil ?_
  refine tq_iter ?_
  refine ti_step ?_
  refine tc_seq ?_
  refine tc_rbn [0,0,0,0] [(9, Bo false)] ?_
  refine tc_cond_false ?_
  refine tc_exit ?_
  refine tq_then_exit ?_
  refine tq_then_exit ?_
  refine tq_block_here ?_
  refine tq_then ?_
  refine tc_rbn [2,3,0] [(3, Bo true)] ?_
  refine tc_ret ?_
  refine tq_ret [0, 0] [.agg ascL.toArray, Bo true] (bp_ret (Mem.le_refl _) ?_)
  rfl

theorem ascHas_con (G : Mem) (b_as : Nat) (hz_as : ∀ j v, (ascL : List Value)[j]? = some v → G b_as (0 + j) = some v) (c : Int) (hw_c : 0 ≤ c ∧ c < 256)  : ConV 76 #[Pt b_as 0, Y c] G (Bo (ascHas c)) := by
  refine con_of Tryz.func76 10 [(0, Pt b_as 0), (1, Y c)] rfl (fun w0 G0 => ?_)
  refine tc_rbn [0] [] ?_
  refine tc_seq ?_
  refine tc_region ?_
  refine runL_bn [0,0,0] [(6, Y c), (7, Pt b_as 0)] ?_
  obtain ⟨kn1, hkn1⟩ : ∃ k_ : Nat, c = (k_ : Int) := ⟨(c).toNat, by omega⟩
  have e1 : c = (kn1 : Int) := hkn1
  refine runL_put 6 (Y ((kn1 : Int))) (congrArg Y e1) ?_
  refine runL_idxA (b := b_as) (off := 0) (ik := .u8) 8 4 1 256 kn1 (by omega) ?_
  refine runL_ldG (o' := 0 + kn1 * 1) 9 4 (cs := [Bo (ascHas (kn1 : Int))]) 0 (Bo (ascHas (kn1 : Int))) (asc_at hz_as rfl (by omega)) ?_
  refine runL_bn [0] [(4, Bo (ascHas (kn1 : Int)))] ?_
  refine runL_nil ?_
  refine tq_then ?_
  refine tc_ret ?_
  refine tq_ret [0] [Bo (ascHas (kn1 : Int))] (bp_ret (Mem.le_refl _) (congrArg Bo (?_ : (ascHas c) = (ascHas (kn1 : Int))).symm))
  rw [hkn1]

theorem trimL_con (G : Mem) (s : List UInt8) (hw_s : (s).length ≤ 140737488351232) (b_as : Nat) (hz_as : ∀ j v, (ascL : List Value)[j]? = some v → G b_as (0 + j) = some v)  : ConV 59 #[Sr s, Pt b_as 0] G (Sr (trimL s)) := by
  refine con_of Tryz.func59 16 [(0, Sr s), (1, Pt b_as 0)] rfl (fun w0 G0 => ?_)
  refine tc_rbn [0] [] ?_
  refine tc_seq ?_
  refine tc_block ?_
  refine tc_loop (σ := List UInt8) (fun q_ => (q_.length ≤ 140737488351232) ∧ (trimL s = trimL q_)) (fun q_ => [(0, Sr q_), (1, Pt b_as 0)]) (fun q_ => G) (fun q_ => []) (fun q_ => q_.length) s ⟨hw_s, rfl⟩ (fun q_ hs => ?_)
  revert hs; revert q_; intro t hs
  obtain ⟨ht, hn⟩ := hs
  refine tc_eq (fr' := [(0, Sr t), (1, Pt b_as 0)]) (L' := []) rfl rfl ?_
  refine tc_seq ?_
  refine tc_rbn [0,0,0] [(7, Bo (decide (((t).length : Int) > 0)))] ?_
  refine tc_condP (decide (((t).length : Int) > 0)) (fun h1 => ?_) (fun h1 => ?_)
  ·
    refine tc_skip ?_
    refine tq_then ?_
    refine tc_block ?_
    refine tc_seq ?_
    refine tc_seq ?_
    refine tc_region ?_
    refine runL_bn [0,0] [(8, Pt b_as 0), (9, Sr t)] ?_
    obtain ⟨y1, hy1⟩ := getX (l := t) (k := 0) (by omega)
    have hb_y1 := y1.toNat_lt
    refine runL_sidx (ik := .i64) 10 0 y1 hy1 ?_
    refine runL_callV 11 (Bo (ascHas ((y1.toNat : Int)))) (ascHas_con G b_as hz_as ((y1.toNat : Int)) (by first | assumption | omega | (simp; done) | (simp; omega))) ?_
    refine runL_bn [0] [(12, Bo (!(ascHas ((y1.toNat : Int)))))] ?_
    refine runL_nil ?_
    refine tq_then ?_
    refine tc_condP (!(ascHas ((y1.toNat : Int)))) (fun h2 => ?_) (fun h2 => ?_)
    ·
      refine tc_exit ?_
      refine tq_then_exit ?_
      refine tq_block_out rfl ?_
      refine tq_rnd_exit ?_
      refine tq_block_here ?_
      refine tq_then ?_
      refine tc_rbn [0,0] [(4, Sr t)] ?_
      refine tc_ret ?_
      refine tq_ret [0] [Sr t] (bp_ret (Mem.le_refl _) (congrArg Sr (?_ : (trimL s) = t).symm))
      rw [hn]; first | exact trimL_nil (by omega) | exact trimL_end hy1 (by simp_all [ascHas_byte])
    ·
      refine tc_skip ?_
      refine tq_then ?_
      refine tc_region ?_
      refine runL_bn [0] [(13, Sr t)] ?_
      refine runL_sslD (l := t) 14 (some (I 1)) none 1 0 (.inr ⟨_, rfl⟩) (.inl ⟨rfl, rfl⟩) (by omega) ?_
      refine runL_bn [0] [(0, Sr (t.drop 1))] ?_
      refine runL_nil ?_
      refine tq_block ?_
      exact tq_rnd (t.drop 1) ⟨(by (try dsimp only); (try simp only [List.length_drop, List.length_take]); omega), (by (try dsimp only); rw [hn]; exact trimL_step hy1 (by simp_all [ascHas_byte]))⟩ (by (try dsimp only); (try simp only [List.length_drop, List.length_take]); omega)
  ·
    refine tc_exit ?_
    refine tq_then_exit ?_
    refine tq_rnd_exit ?_
    refine tq_block_here ?_
    refine tq_then ?_
    refine tc_rbn [0,0] [(4, Sr t)] ?_
    refine tc_ret ?_
    refine tq_ret [0] [Sr t] (bp_ret (Mem.le_refl _) (congrArg Sr (?_ : (trimL s) = t).symm))
    rw [hn]; first | exact trimL_nil (by omega) | exact trimL_end hn (by simp_all [ascHas_byte])

theorem trimR_con (G : Mem) (s : List UInt8) (hw_s : (s).length ≤ 140737488351232) (b_as : Nat) (hz_as : ∀ j v, (ascL : List Value)[j]? = some v → G b_as (0 + j) = some v)  : ConV 60 #[Sr s, Pt b_as 0] G (Sr (trimR s)) := by
  refine con_of Tryz.func60 22 [(0, Sr s), (1, Pt b_as 0)] rfl (fun w0 G0 => ?_)
  refine tc_rbn [0] [] ?_
  refine tc_seq ?_
  refine tc_block ?_
  refine tc_loop (σ := List UInt8) (fun q_ => (q_.length ≤ 140737488351232) ∧ (trimR s = trimR q_)) (fun q_ => [(0, Sr q_), (1, Pt b_as 0)]) (fun q_ => G) (fun q_ => []) (fun q_ => q_.length) s ⟨hw_s, rfl⟩ (fun q_ hs => ?_)
  revert hs; revert q_; intro t hs
  obtain ⟨ht, hn⟩ := hs
  refine tc_eq (fr' := [(0, Sr t), (1, Pt b_as 0)]) (L' := []) rfl rfl ?_
  refine tc_seq ?_
  refine tc_rbn [0,0,0] [(7, Bo (decide (((t).length : Int) > 0)))] ?_
  refine tc_condP (decide (((t).length : Int) > 0)) (fun h1 => ?_) (fun h1 => ?_)
  ·
    refine tc_skip ?_
    refine tq_then ?_
    refine tc_block ?_
    refine tc_seq ?_
    refine tc_seq ?_
    refine tc_region ?_
    refine runL_bn [0,0,0,0,0] [(8, Pt b_as 0), (9, Sr t), (12, I (IntKind.i64.wrap ((((t).length : Int)) - 1)))] ?_
    have e1 : IntKind.i64.wrap ((((t).length : Int)) - 1) = ((t.length - 1 : Nat) : Int) := (IntWalk.i64_in _ (by omega)).trans (show (((t).length : Int)) - 1 = ((t.length - 1 : Nat) : Int) by omega)
    refine runL_put 12 (I (((t.length - 1 : Nat) : Int))) (congrArg I e1) ?_
    clear e1
    obtain ⟨y1, hy1⟩ := getX (l := t) (k := t.length - 1) (by omega)
    have hb_y1 := y1.toNat_lt
    refine runL_sidx (ik := .i64) 13 (t.length - 1) y1 hy1 ?_
    refine runL_callV 14 (Bo (ascHas ((y1.toNat : Int)))) (ascHas_con G b_as hz_as ((y1.toNat : Int)) (by first | assumption | omega | (simp; done) | (simp; omega))) ?_
    refine runL_bn [0] [(15, Bo (!(ascHas ((y1.toNat : Int)))))] ?_
    refine runL_nil ?_
    refine tq_then ?_
    refine tc_condP (!(ascHas ((y1.toNat : Int)))) (fun h2 => ?_) (fun h2 => ?_)
    ·
      refine tc_exit ?_
      refine tq_then_exit ?_
      refine tq_block_out rfl ?_
      refine tq_rnd_exit ?_
      refine tq_block_here ?_
      refine tq_then ?_
      refine tc_rbn [0,0] [(4, Sr t)] ?_
      refine tc_ret ?_
      refine tq_ret [0] [Sr t] (bp_ret (Mem.le_refl _) (congrArg Sr (?_ : (trimR s) = t).symm))
      rw [hn]; first | exact trimR_nil (by omega) | exact trimR_end hy1 (by simp_all [ascHas_byte])
    ·
      refine tc_skip ?_
      refine tq_then ?_
      refine tc_region ?_
      refine runL_bn [0,0,0,0] [(16, Sr t), (19, I (IntKind.i64.wrap ((((t).length : Int)) - 1)))] ?_
      have e2 : IntKind.i64.wrap ((((t).length : Int)) - 1) = ((t.length - 1 : Nat) : Int) := (IntWalk.i64_in _ (by omega)).trans (show (((t).length : Int)) - 1 = ((t.length - 1 : Nat) : Int) by omega)
      refine runL_put 19 (I (((t.length - 1 : Nat) : Int))) (congrArg I e2) ?_
      clear e2
      refine runL_sslT (l := t) 20 none (some (I (((t.length - 1 : Nat) : Int)))) 0 (t.length - 1) (.inl ⟨rfl, rfl⟩) (.inr ⟨_, rfl⟩) (Nat.zero_le _) (by omega) ?_
      refine runL_bn [0] [(0, Sr (t.take (t.length - 1)))] ?_
      refine runL_nil ?_
      refine tq_block ?_
      exact tq_rnd (t.take (t.length - 1)) ⟨(by (try dsimp only); (try simp only [List.length_drop, List.length_take]); omega), (by (try dsimp only); rw [hn]; exact trimR_step hy1 (by simp_all [ascHas_byte]))⟩ (by (try dsimp only); (try simp only [List.length_drop, List.length_take]); omega)
  ·
    refine tc_exit ?_
    refine tq_then_exit ?_
    refine tq_rnd_exit ?_
    refine tq_block_here ?_
    refine tq_then ?_
    refine tc_rbn [0,0] [(4, Sr t)] ?_
    refine tc_ret ?_
    refine tq_ret [0] [Sr t] (bp_ret (Mem.le_refl _) (congrArg Sr (?_ : (trimR s) = t).symm))
    rw [hn]; first | exact trimR_nil (by omega) | exact trimR_end hn (by simp_all [ascHas_byte])

theorem trimS_con (G : Mem) (s : List UInt8) (hw_s : (s).length ≤ 140737488351232)  : ConV 44 #[Sr s, Sr ([48, 49])] G (Sr (trimS s)) := by
  refine con_of Tryz.func44 43 [(0, Sr s), (1, Sr ([48, 49]))] rfl (fun w0 G0 => ?_)
  refine tc_rbn [0] [] ?_
  refine tc_seq ?_
  refine tc_seq ?_
  refine tc_region ?_
  refine runL_bn [0,0,0] [(9, Bo (((B s).toList == (B ([])).toList)))] ?_
  refine runL_put 9 (Bo ((s == []))) ((show (Bo (((B s).toList == (B ([])).toList)) : Value) = Bo ((s == [])) by simp only [B_toList])) ?_
  refine runL_b2n ((s == [])) [9] [1,1,0] [0,0,0] (fun bb => [(12, Bo (bb || false))]) ?_
  refine runL_nil ?_
  refine tq_then ?_
  refine tc_condP (((s == [])) || false) (fun h1 => ?_) (fun h1 => ?_)
  ·
    refine tc_rbn [0,0] [(4, Sr s)] ?_
    refine tc_ret ?_
    refine tq_then_ret ?_
    refine tq_ret [0] [Sr s] (bp_ret (Mem.le_refl _) (congrArg Sr (?_ : (trimS s) = s).symm))
    first | rfl | (simp_all; rfl)
  ·
    refine tc_skip ?_
    refine tq_then ?_
    refine tc_seq ?_
    refine tc_rbn [0,0,0,0,1,1,1,0] [(21, Bo false)] ?_
    refine tc_cond_false ?_
    refine tc_skip ?_
    refine tq_then ?_
    refine tc_seq ?_
    refine tc_seq ?_
    refine tc_region ?_
    refine runL_bn [0] [(30, Sr ([48, 49]))] ?_
    refine runL_callV 31 (.tuple #[.agg ascL.toArray, Bo true]) (ascSet_con G) ?_
    refine runL_bn [0,0,0] [(32, .agg ascL.toArray), (33, Bo true)] ?_
    refine runL_box 5 #[Bo false, Bo false, Bo false, Bo false, Bo false, Bo false, Bo false, Bo false, Bo false, Bo false, Bo false, Bo false, Bo false, Bo false, Bo false, Bo false, Bo false, Bo false, Bo false, Bo false, Bo false, Bo false, Bo false, Bo false, Bo false, Bo false, Bo false, Bo false, Bo false, Bo false, Bo false, Bo false, Bo false, Bo false, Bo false, Bo false, Bo false, Bo false, Bo false, Bo false, Bo false, Bo false, Bo false, Bo false, Bo false, Bo false, Bo false, Bo false, Bo false, Bo false, Bo false, Bo false, Bo false, Bo false, Bo false, Bo false, Bo false, Bo false, Bo false, Bo false, Bo false, Bo false, Bo false, Bo false, Bo false, Bo false, Bo false, Bo false, Bo false, Bo false, Bo false, Bo false, Bo false, Bo false, Bo false, Bo false, Bo false, Bo false, Bo false, Bo false, Bo false, Bo false, Bo false, Bo false, Bo false, Bo false, Bo false, Bo false, Bo false, Bo false, Bo false, Bo false, Bo false, Bo false, Bo false, Bo false, Bo false, Bo false, Bo false, Bo false, Bo false, Bo false, Bo false, Bo false, Bo false, Bo false, Bo false, Bo false, Bo false, Bo false, Bo false, Bo false, Bo false, Bo false, Bo false, Bo false, Bo false, Bo false, Bo false, Bo false, Bo false, Bo false, Bo false, Bo false, Bo false, Bo false, Bo false, Bo false, Bo false, Bo false, Bo false, Bo false, Bo false, Bo false, Bo false, Bo false, Bo false, Bo false, Bo false, Bo false, Bo false, Bo false, Bo false, Bo false, Bo false, Bo false, Bo false, Bo false, Bo false, Bo false, Bo false, Bo false, Bo false, Bo false, Bo false, Bo false, Bo false, Bo false, Bo false, Bo false, Bo false, Bo false, Bo false, Bo false, Bo false, Bo false, Bo false, Bo false, Bo false, Bo false, Bo false, Bo false, Bo false, Bo false, Bo false, Bo false, Bo false, Bo false, Bo false, Bo false, Bo false, Bo false, Bo false, Bo false, Bo false, Bo false, Bo false, Bo false, Bo false, Bo false, Bo false, Bo false, Bo false, Bo false, Bo false, Bo false, Bo false, Bo false, Bo false, Bo false, Bo false, Bo false, Bo false, Bo false, Bo false, Bo false, Bo false, Bo false, Bo false, Bo false, Bo false, Bo false, Bo false, Bo false, Bo false, Bo false, Bo false, Bo false, Bo false, Bo false, Bo false, Bo false, Bo false, Bo false, Bo false, Bo false, Bo false, Bo false, Bo false, Bo false, Bo false, Bo false, Bo false, Bo false, Bo false, Bo false, Bo false, Bo false, Bo false, Bo false, Bo false, Bo false, Bo false, Bo false, Bo false, Bo false, Bo false, Bo false, Bo false, Bo false, Bo false, Bo false, Bo false, Bo false, Bo false, Bo false] 111 (fun b1 => ?_)
    refine runL_bsn [3,0] [(6, Bo true)] [[Sg b1 0 ascL]] ?_
    refine runL_nil ?_
    refine tq_then ?_
    refine tc_rbn [0] [(34, Bo true)] ?_
    refine tc_cond_true ?_
    refine tc_seq ?_
    refine tc_region ?_
    refine runL_bn [0] [(35, Sr s)] ?_
    refine runL_frz1 (b := b1) (o := 0) (cs := ascL) 0 (fun G1 hl1 hz1 => ?_)
    refine runL_callV 36 (Sr (trimR s)) (trimR_con G1 s (by first | assumption | omega | (simp; done) | (simp; omega)) b1 hz1) ?_
    refine runL_callV 37 (Sr (trimL (trimR s))) (trimL_con G1 (trimR s) (Nat.le_trans (trimR_len s) hw_s) b1 hz1) ?_
    refine runL_bn [0] [(4, Sr (trimL (trimR s)))] ?_
    refine runL_nil ?_
    refine tq_then ?_
    refine tc_ret ?_
    refine tq_then_ret ?_
    refine tq_ret [0] [Sr (trimL (trimR s))] (bp_ret hl1 (congrArg Sr (?_ : (trimS s) = (trimL (trimR s))).symm))
    first | rfl | (simp_all; rfl)

theorem hasPre_con (G : Mem) (s : List UInt8) (q : List UInt8)  : ConV 84 #[Sr s, Sr q] G (Bo (decide (q <+: s))) := by
  refine con_of Tryz.func84 18 [(0, Sr s), (1, Sr q)] rfl (fun w0 G0 => ?_)
  refine tc_rbn [0] [] ?_
  refine tc_seq ?_
  refine tc_region ?_
  refine runL_bn [0,0,0,0,0,0] [(10, Bo (decide (((s).length : Int) ≥ ((q).length : Int))))] ?_
  refine runL_casesT [10] (decide (((s).length : Int) ≥ ((q).length : Int))) (fun h1 => ?_) (fun h1 => ?_)
  ·
    refine runL_bn [0,0,0] [(11, Sr s), (13, I (((q).length : Int)))] ?_
    refine runL_sslT (l := s) 14 none (some (I (((q).length : Int)))) 0 ((q).length) (.inl ⟨rfl, rfl⟩) (.inr ⟨_, rfl⟩) (Nat.zero_le _) (by omega) ?_
    refine runL_bn [0,0,0,0] [(4, Bo (((B (s.take ((q).length))).toList == (B q).toList)))] ?_
    refine runL_put 4 (Bo ((s.take ((q).length) == q))) ((show (Bo (((B (s.take ((q).length))).toList == (B q).toList)) : Value) = Bo ((s.take ((q).length) == q)) by simp only [B_toList])) ?_
    refine runL_nil ?_
    refine tq_then ?_
    refine tc_ret ?_
    refine tq_ret [0] [Bo ((s.take ((q).length) == q))] (bp_ret (Mem.le_refl _) (congrArg Bo (?_ : (decide (q <+: s)) = ((s.take ((q).length) == q))).symm))
    first | (rw [Bool.eq_iff_iff]; simp only [decide_eq_true_eq, beq_iff_eq, List.prefix_iff_eq_take]; exact eq_comm) | (rw [decide_eq_false]; intro hp_; have q_ := hp_.length_le; omega)
  ·
    refine runL_bn [1,1,1,1,1,1,0,0] [(4, Bo false)] ?_
    refine runL_nil ?_
    refine tq_then ?_
    refine tc_ret ?_
    refine tq_ret [0] [Bo false] (bp_ret (Mem.le_refl _) (congrArg Bo (?_ : (decide (q <+: s)) = false).symm))
    first | (rw [Bool.eq_iff_iff]; simp only [decide_eq_true_eq, beq_iff_eq, List.prefix_iff_eq_take]; exact eq_comm) | (rw [decide_eq_false]; intro hp_; have q_ := hp_.length_le; omega)

theorem hasPrefix_con (G : Mem) (s : List UInt8) (q : List UInt8)  : ConV 69 #[Sr s, Sr q] G (Bo (decide (q <+: s))) := by
  refine con_of Tryz.func69 8 [(0, Sr s), (1, Sr q)] rfl (fun w0 G0 => ?_)
  refine tc_rbn [0] [] ?_
  refine tc_seq ?_
  refine tc_region ?_
  refine runL_bn [0,0] [(5, Sr s), (6, Sr q)] ?_
  refine runL_callV 7 (Bo (decide (q <+: s))) (hasPre_con G s q) ?_
  refine runL_bn [0] [(4, Bo (decide (q <+: s)))] ?_
  refine runL_nil ?_
  refine tq_then ?_
  refine tc_ret ?_
  refine tq_ret [0] [Bo (decide (q <+: s))] (bp_ret (Mem.le_refl _) (congrArg Bo (?_ : (decide (q <+: s)) = (decide (q <+: s))).symm))
  rfl
end Go.Proofs.YtngoijkcbmchdaaGreatDoor
