import Derived.Test.YtngoijkcbmchdaaGreatDoorHeadN
namespace Go.Proofs.YtngoijkcbmchdaaGreatDoor
open Go.Tx
set_option linter.unusedVariables false
set_option linter.unusedSimpArgs false

theorem le48r' {n : Nat} (h : n ≤ 140737488351232) : n ≤ 140737488355328 := by omega
def pbit (m : Int) (k : Nat) : Int := 48 + m / 2 ^ k % 2
theorem and1 {x : Int} (h : 0 ≤ x ∧ x < 18446744073709551616) : IntKind.u64.wrap ((BitVec.ofInt 64 x &&& BitVec.ofInt 64 1).toNat : Int) = x % 2 := by
  obtain ⟨m, rfl⟩ := Int.eq_ofNat_of_zero_le h.1
  have e : (1 : Int) = ((1 : Nat) : Int) := rfl
  rw [e, BitVec.toNat_and, BitVec.ofInt_natCast, BitVec.ofInt_natCast, BitVec.toNat_ofNat, BitVec.toNat_ofNat, Nat.mod_eq_of_lt (by omega), Nat.mod_eq_of_lt (by omega), Nat.and_one_is_mod, wrap_u64 (by omega) (by omega)]
  omega
theorem pbit_eq (m : Int) (k : Nat) (h : 0 ≤ m ∧ m < 18446744073709551616) : IntKind.u8.wrap (48 + IntKind.u8.wrap (IntKind.u64.wrap ((BitVec.ofInt 64 (m.fdiv (2 ^ k)) &&& BitVec.ofInt 64 (1)).toNat : Int))) = pbit m k := by
  have hp : (0 : Int) < 2 ^ k := Int.pow_pos (by decide)
  have h1 : 0 ≤ m / 2 ^ k := Int.ediv_nonneg h.1 (Int.le_of_lt hp)
  have h2 : m / 2 ^ k ≤ m := Int.ediv_le_self _ h.1
  rw [Int.fdiv_eq_ediv_of_nonneg _ (Int.le_of_lt hp), and1 (by omega), wrap_u8, wrap_u8]
  unfold pbit
  omega
theorem pbit_bd (m : Int) (k : Nat) : 48 ≤ pbit m k ∧ pbit m k ≤ 49 := by unfold pbit; omega
def pathBits (name : List UInt8) : List UInt8 := ([pbit (markOf name) 15, pbit (markOf name) 14, pbit (markOf name) 13, pbit (markOf name) 12, pbit (markOf name) 11, pbit (markOf name) 10, pbit (markOf name) 9, pbit (markOf name) 8, pbit (markOf name) 7, pbit (markOf name) 6, pbit (markOf name) 5, pbit (markOf name) 4, pbit (markOf name) 3, pbit (markOf name) 2, pbit (markOf name) 1, pbit (markOf name) 0] : List Int).map fun n => UInt8.ofNat n.toNat
theorem pathBits_len (name : List UInt8) : (pathBits name).length = 16 := rfl
def pathOf (name : List UInt8) : List UInt8 × Int := if pathName name = false then ([], 3) else (pathBits name, 0)
theorem pathOf_len (name : List UInt8) : (pathOf name).1.length ≤ 16 := by
  unfold pathOf; split
  · simp
  · rw [pathBits_len]; exact Nat.le_refl _
def cmpS (x y : List UInt8) : Int := if Go.Op.bytesLess x y = true then -1 else if x = y then 0 else 1
def orI : List Int → Int
  | [] => 0
  | a :: l => if a = 0 then orI l else a
theorem orI_step {l : List Int} {i : Nat} {x : Int} (hx : l[i]? = some x) (h : x = 0) : orI (l.drop i) = orI (l.drop (i + 1)) := by
  obtain ⟨h1, rfl⟩ := List.getElem?_eq_some_iff.1 hx
  rw [List.drop_eq_getElem_cons h1]
  show (if _ then _ else _) = _
  rw [if_pos h]
theorem orI_at {l : List Int} {i : Nat} {x : Int} (hx : l[i]? = some x) (h : ¬ x = 0) : orI (l.drop i) = x := by
  obtain ⟨h1, rfl⟩ := List.getElem?_eq_some_iff.1 hx
  rw [List.drop_eq_getElem_cons h1]
  show (if _ then _ else _) = _
  rw [if_neg h]
theorem bl_irr : ∀ x : List UInt8, Go.Op.bytesLess x x = false
  | [] => rfl
  | a :: x => by
    show (decide (a < a) || (a == a && Go.Op.bytesLess x x)) = false
    rw [bl_irr x]; simp
theorem bl_total : ∀ x y : List UInt8, Go.Op.bytesLess x y = true ∨ x = y ∨ Go.Op.bytesLess y x = true
  | [], [] => .inr (.inl rfl)
  | [], _ :: _ => .inl rfl
  | _ :: _, [] => .inr (.inr rfl)
  | a :: x, b :: y => by
    show (decide (a < b) || (a == b && Go.Op.bytesLess x y)) = true ∨ _ ∨ (decide (b < a) || (b == a && Go.Op.bytesLess y x)) = true
    simp only [Bool.or_eq_true, Bool.and_eq_true, decide_eq_true_eq, beq_iff_eq]
    rcases UInt8.lt_or_lt_of_ne (a := a) (b := b) |> fun f => (Classical.em (a = b)).imp id f with h | h | h
    · subst h
      rcases bl_total x y with h1 | h1 | h1
      · exact .inl (.inr ⟨rfl, h1⟩)
      · exact .inr (.inl (by rw [h1]))
      · exact .inr (.inr (.inr ⟨rfl, h1⟩))
    · exact .inl (.inl h)
    · exact .inr (.inr (.inl h))
theorem bl_trans : ∀ {x y z : List UInt8}, Go.Op.bytesLess x y = true → Go.Op.bytesLess y z = true → Go.Op.bytesLess x z = true
  | _, _, [], _, h => by simp [Go.Op.bytesLess] at h
  | _, [], _ :: _, h, _ => by simp [Go.Op.bytesLess] at h
  | [], _ :: _, _ :: _, _, _ => rfl
  | a :: x, b :: y, c :: z, h1, h2 => by
    have k1 : (decide (a < b) || (a == b && Go.Op.bytesLess x y)) = true := h1
    have k2 : (decide (b < c) || (b == c && Go.Op.bytesLess y z)) = true := h2
    show (decide (a < c) || (a == c && Go.Op.bytesLess x z)) = true
    simp only [Bool.or_eq_true, Bool.and_eq_true, decide_eq_true_eq, beq_iff_eq] at k1 k2 ⊢
    rcases k1 with k1 | ⟨e1, k1⟩ <;> rcases k2 with k2 | ⟨e2, k2⟩
    · exact .inl (UInt8.lt_trans k1 k2)
    · exact .inl (e2 ▸ k1)
    · exact .inl (e1 ▸ k2)
    · exact .inr ⟨e1.trans e2, bl_trans k1 k2⟩
theorem cmpS_lt {x y : List UInt8} : cmpS x y < 0 ↔ Go.Op.bytesLess x y = true := by
  unfold cmpS
  split
  · rename_i h; simp [h]
  · rename_i h; split <;> simp [h]
theorem cmpS_zero {x y : List UInt8} : cmpS x y = 0 ↔ x = y := by
  unfold cmpS
  split
  · rename_i h
    constructor
    · intro hc; cases hc
    · rintro rfl; rw [bl_irr] at h; cases h
  · split <;> simp_all
theorem cmpS_gt {x y : List UInt8} : 0 < cmpS x y ↔ Go.Op.bytesLess y x = true := by
  unfold cmpS
  split
  · rename_i h
    constructor
    · intro hc; omega
    · intro hc; have := bl_trans h hc; rw [bl_irr] at this; cases this
  · rename_i h
    split
    · rename_i h2; subst h2; rw [bl_irr]; simp
    · rename_i h2
      constructor
      · intro _; rcases bl_total x y with h3 | h3 | h3
        · exact absurd h3 h
        · exact absurd h3 h2
        · exact h3
      · intro _; decide
def way (name : List UInt8) : List UInt8 := (pathOf name).1
theorem way_len (name : List UInt8) : (way name).length ≤ 16 := pathOf_len name
def ordN (a b : List UInt8) : Int := orI [cmpS (way a) (way b), cmpS a b]
theorem ordN_eq (a b : List UInt8) : ordN a b = if cmpS (way a) (way b) = 0 then cmpS a b else cmpS (way a) (way b) := by
  by_cases h : cmpS (way a) (way b) = 0 <;> by_cases h2 : cmpS a b = 0 <;> simp [ordN, orI, h, h2]
theorem ordN_zero {a b : List UInt8} : ordN a b = 0 ↔ a = b := by
  rw [ordN_eq]
  split
  · exact cmpS_zero
  · rename_i h
    constructor
    · intro hc; exact absurd hc h
    · rintro rfl; exact absurd (cmpS_zero.2 rfl) h
theorem ordN_lt {a b : List UInt8} : ordN a b < 0 ↔ Go.Op.bytesLess (way a) (way b) = true ∨ (way a = way b ∧ Go.Op.bytesLess a b = true) := by
  rw [ordN_eq]
  split
  · rename_i h
    rw [cmpS_lt]
    have e := cmpS_zero.1 h
    rw [e, bl_irr]; simp
  · rename_i h
    rw [cmpS_lt]
    constructor
    · exact .inl
    · rintro (h1 | ⟨h1, _⟩)
      · exact h1
      · exact absurd (cmpS_zero.2 h1) h
theorem ordN_gt {a b : List UInt8} : 0 < ordN a b ↔ ordN b a < 0 := by
  rw [ordN_eq, ordN_lt]
  split
  · rename_i h
    rw [cmpS_gt]
    have e := cmpS_zero.1 h
    rw [e, bl_irr]; simp
  · rename_i h
    rw [cmpS_gt]
    constructor
    · exact .inl
    · rintro (h1 | ⟨h1, _⟩)
      · exact h1
      · exact absurd (cmpS_zero.2 h1.symm) h
theorem ordN_trans {a b c : List UInt8} (h1 : ordN a b < 0) (h2 : ordN b c < 0) : ordN a c < 0 := by
  rw [ordN_lt] at *
  rcases h1 with h1 | ⟨e1, h1⟩ <;> rcases h2 with h2 | ⟨e2, h2⟩
  · exact .inl (bl_trans h1 h2)
  · exact .inl (e2 ▸ h1)
  · exact .inl (e1 ▸ h2)
  · exact .inr ⟨e1.trans e2, bl_trans h1 h2⟩

theorem pathBits_con (G : Mem) (name : List UInt8) (hw_name : (name).length ≤ 140737488351232)  : ConV 103 #[Sr name] G (Sr (pathBits name)) := by
  refine con_of Tryz.func103 23 [(0, Sr name)] rfl (fun w0 G0 => ?_)
  refine tc_rbn [0] [] ?_
  refine tc_seq ?_
  refine tc_region ?_
  refine runL_bn [0] [(6, Sr name)] ?_
  refine runL_callV 7 (U (markOf name)) (markOf_con name (le48r' hw_name) G) ?_
  refine runL_bn [0] [(3, U (markOf name))] ?_
  refine runL_nil ?_
  refine tq_then ?_
  refine tc_seq ?_
  refine tc_region ?_
  refine runL_box 4 #[Y 0, Y 0, Y 0, Y 0, Y 0, Y 0, Y 0, Y 0, Y 0, Y 0, Y 0, Y 0, Y 0, Y 0, Y 0, Y 0] 176 (fun b1 => ?_)
  refine runL_nil ?_
  refine tq_then ?_
  refine tc_seq ?_
  refine tc_rbn [0] [(8, I 0)] ?_
  refine tc_block ?_
  refine tc_unroll 17 ?_
  refine ti_step ?_
  refine tc_rbn [0] [(9, Bo true)] ?_
  refine tc_seq ?_
  refine tc_cond_true ?_
  refine tc_skip ?_
  refine tq_then ?_
  refine tc_seq ?_
  refine tc_block ?_
  refine tc_rbn [0,0] [(5, I 0)] ?_
  refine tc_region ?_
  refine runL_bsn [0,0,0,0,0,0,0,0,0,3] [] [[Sg b1 0 [Y (IntKind.u8.wrap (48 + (IntKind.u8.wrap (IntKind.u64.wrap ((BitVec.ofInt 64 ((markOf name).fdiv (2 ^ 15)) &&& BitVec.ofInt 64 (1)).toNat : Int))))), Y 0, Y 0, Y 0, Y 0, Y 0, Y 0, Y 0, Y 0, Y 0, Y 0, Y 0, Y 0, Y 0, Y 0, Y 0]]] ?_
  have e1 : IntKind.u8.wrap (48 + (IntKind.u8.wrap (IntKind.u64.wrap ((BitVec.ofInt 64 ((markOf name).fdiv (2 ^ 15)) &&& BitVec.ofInt 64 (1)).toNat : Int)))) = pbit (markOf name) 15 := pbit_eq (markOf name) 15 (by have := markOf_bd name; omega)
  refine runL_eqL (L' := [[Sg b1 0 [Y (pbit (markOf name) 15), Y 0, Y 0, Y 0, Y 0, Y 0, Y 0, Y 0, Y 0, Y 0, Y 0, Y 0, Y 0, Y 0, Y 0, Y 0]]]) (by simp only [e1]) ?_
  clear e1
  refine runL_nil ?_
  refine tq_block ?_
  refine tq_then ?_
  refine tc_region ?_
  refine runL_bn [0,0] [(8, I 1)] ?_
  refine runL_nil ?_
  refine tq_iter ?_
  refine ti_step ?_
  refine tc_rbn [0] [(9, Bo true)] ?_
  refine tc_seq ?_
  refine tc_cond_true ?_
  refine tc_skip ?_
  refine tq_then ?_
  refine tc_seq ?_
  refine tc_block ?_
  refine tc_rbn [0,0] [(5, I 1)] ?_
  refine tc_region ?_
  refine runL_bsn [0,0,0,0,0,0,0,0,0,3] [] [[Sg b1 0 [Y (pbit (markOf name) 15), Y (IntKind.u8.wrap (48 + (IntKind.u8.wrap (IntKind.u64.wrap ((BitVec.ofInt 64 ((markOf name).fdiv (2 ^ 14)) &&& BitVec.ofInt 64 (1)).toNat : Int))))), Y 0, Y 0, Y 0, Y 0, Y 0, Y 0, Y 0, Y 0, Y 0, Y 0, Y 0, Y 0, Y 0, Y 0]]] ?_
  have e2 : IntKind.u8.wrap (48 + (IntKind.u8.wrap (IntKind.u64.wrap ((BitVec.ofInt 64 ((markOf name).fdiv (2 ^ 14)) &&& BitVec.ofInt 64 (1)).toNat : Int)))) = pbit (markOf name) 14 := pbit_eq (markOf name) 14 (by have := markOf_bd name; omega)
  refine runL_eqL (L' := [[Sg b1 0 [Y (pbit (markOf name) 15), Y (pbit (markOf name) 14), Y 0, Y 0, Y 0, Y 0, Y 0, Y 0, Y 0, Y 0, Y 0, Y 0, Y 0, Y 0, Y 0, Y 0]]]) (by simp only [e2]) ?_
  clear e2
  refine runL_nil ?_
  refine tq_block ?_
  refine tq_then ?_
  refine tc_region ?_
  refine runL_bn [0,0] [(8, I 2)] ?_
  refine runL_nil ?_
  refine tq_iter ?_
  refine ti_step ?_
  refine tc_rbn [0] [(9, Bo true)] ?_
  refine tc_seq ?_
  refine tc_cond_true ?_
  refine tc_skip ?_
  refine tq_then ?_
  refine tc_seq ?_
  refine tc_block ?_
  refine tc_rbn [0,0] [(5, I 2)] ?_
  refine tc_region ?_
  refine runL_bsn [0,0,0,0,0,0,0,0,0,3] [] [[Sg b1 0 [Y (pbit (markOf name) 15), Y (pbit (markOf name) 14), Y (IntKind.u8.wrap (48 + (IntKind.u8.wrap (IntKind.u64.wrap ((BitVec.ofInt 64 ((markOf name).fdiv (2 ^ 13)) &&& BitVec.ofInt 64 (1)).toNat : Int))))), Y 0, Y 0, Y 0, Y 0, Y 0, Y 0, Y 0, Y 0, Y 0, Y 0, Y 0, Y 0, Y 0]]] ?_
  have e3 : IntKind.u8.wrap (48 + (IntKind.u8.wrap (IntKind.u64.wrap ((BitVec.ofInt 64 ((markOf name).fdiv (2 ^ 13)) &&& BitVec.ofInt 64 (1)).toNat : Int)))) = pbit (markOf name) 13 := pbit_eq (markOf name) 13 (by have := markOf_bd name; omega)
  refine runL_eqL (L' := [[Sg b1 0 [Y (pbit (markOf name) 15), Y (pbit (markOf name) 14), Y (pbit (markOf name) 13), Y 0, Y 0, Y 0, Y 0, Y 0, Y 0, Y 0, Y 0, Y 0, Y 0, Y 0, Y 0, Y 0]]]) (by simp only [e3]) ?_
  clear e3
  refine runL_nil ?_
  refine tq_block ?_
  refine tq_then ?_
  refine tc_region ?_
  refine runL_bn [0,0] [(8, I 3)] ?_
  refine runL_nil ?_
  refine tq_iter ?_
  refine ti_step ?_
  refine tc_rbn [0] [(9, Bo true)] ?_
  refine tc_seq ?_
  refine tc_cond_true ?_
  refine tc_skip ?_
  refine tq_then ?_
  refine tc_seq ?_
  refine tc_block ?_
  refine tc_rbn [0,0] [(5, I 3)] ?_
  refine tc_region ?_
  refine runL_bsn [0,0,0,0,0,0,0,0,0,3] [] [[Sg b1 0 [Y (pbit (markOf name) 15), Y (pbit (markOf name) 14), Y (pbit (markOf name) 13), Y (IntKind.u8.wrap (48 + (IntKind.u8.wrap (IntKind.u64.wrap ((BitVec.ofInt 64 ((markOf name).fdiv (2 ^ 12)) &&& BitVec.ofInt 64 (1)).toNat : Int))))), Y 0, Y 0, Y 0, Y 0, Y 0, Y 0, Y 0, Y 0, Y 0, Y 0, Y 0, Y 0]]] ?_
  have e4 : IntKind.u8.wrap (48 + (IntKind.u8.wrap (IntKind.u64.wrap ((BitVec.ofInt 64 ((markOf name).fdiv (2 ^ 12)) &&& BitVec.ofInt 64 (1)).toNat : Int)))) = pbit (markOf name) 12 := pbit_eq (markOf name) 12 (by have := markOf_bd name; omega)
  refine runL_eqL (L' := [[Sg b1 0 [Y (pbit (markOf name) 15), Y (pbit (markOf name) 14), Y (pbit (markOf name) 13), Y (pbit (markOf name) 12), Y 0, Y 0, Y 0, Y 0, Y 0, Y 0, Y 0, Y 0, Y 0, Y 0, Y 0, Y 0]]]) (by simp only [e4]) ?_
  clear e4
  refine runL_nil ?_
  refine tq_block ?_
  refine tq_then ?_
  refine tc_region ?_
  refine runL_bn [0,0] [(8, I 4)] ?_
  refine runL_nil ?_
  refine tq_iter ?_
  refine ti_step ?_
  refine tc_rbn [0] [(9, Bo true)] ?_
  refine tc_seq ?_
  refine tc_cond_true ?_
  refine tc_skip ?_
  refine tq_then ?_
  refine tc_seq ?_
  refine tc_block ?_
  refine tc_rbn [0,0] [(5, I 4)] ?_
  refine tc_region ?_
  refine runL_bsn [0,0,0,0,0,0,0,0,0,3] [] [[Sg b1 0 [Y (pbit (markOf name) 15), Y (pbit (markOf name) 14), Y (pbit (markOf name) 13), Y (pbit (markOf name) 12), Y (IntKind.u8.wrap (48 + (IntKind.u8.wrap (IntKind.u64.wrap ((BitVec.ofInt 64 ((markOf name).fdiv (2 ^ 11)) &&& BitVec.ofInt 64 (1)).toNat : Int))))), Y 0, Y 0, Y 0, Y 0, Y 0, Y 0, Y 0, Y 0, Y 0, Y 0, Y 0]]] ?_
  have e5 : IntKind.u8.wrap (48 + (IntKind.u8.wrap (IntKind.u64.wrap ((BitVec.ofInt 64 ((markOf name).fdiv (2 ^ 11)) &&& BitVec.ofInt 64 (1)).toNat : Int)))) = pbit (markOf name) 11 := pbit_eq (markOf name) 11 (by have := markOf_bd name; omega)
  refine runL_eqL (L' := [[Sg b1 0 [Y (pbit (markOf name) 15), Y (pbit (markOf name) 14), Y (pbit (markOf name) 13), Y (pbit (markOf name) 12), Y (pbit (markOf name) 11), Y 0, Y 0, Y 0, Y 0, Y 0, Y 0, Y 0, Y 0, Y 0, Y 0, Y 0]]]) (by simp only [e5]) ?_
  clear e5
  refine runL_nil ?_
  refine tq_block ?_
  refine tq_then ?_
  refine tc_region ?_
  refine runL_bn [0,0] [(8, I 5)] ?_
  refine runL_nil ?_
  refine tq_iter ?_
  refine ti_step ?_
  refine tc_rbn [0] [(9, Bo true)] ?_
  refine tc_seq ?_
  refine tc_cond_true ?_
  refine tc_skip ?_
  refine tq_then ?_
  refine tc_seq ?_
  refine tc_block ?_
  refine tc_rbn [0,0] [(5, I 5)] ?_
  refine tc_region ?_
  refine runL_bsn [0,0,0,0,0,0,0,0,0,3] [] [[Sg b1 0 [Y (pbit (markOf name) 15), Y (pbit (markOf name) 14), Y (pbit (markOf name) 13), Y (pbit (markOf name) 12), Y (pbit (markOf name) 11), Y (IntKind.u8.wrap (48 + (IntKind.u8.wrap (IntKind.u64.wrap ((BitVec.ofInt 64 ((markOf name).fdiv (2 ^ 10)) &&& BitVec.ofInt 64 (1)).toNat : Int))))), Y 0, Y 0, Y 0, Y 0, Y 0, Y 0, Y 0, Y 0, Y 0, Y 0]]] ?_
  have e6 : IntKind.u8.wrap (48 + (IntKind.u8.wrap (IntKind.u64.wrap ((BitVec.ofInt 64 ((markOf name).fdiv (2 ^ 10)) &&& BitVec.ofInt 64 (1)).toNat : Int)))) = pbit (markOf name) 10 := pbit_eq (markOf name) 10 (by have := markOf_bd name; omega)
  refine runL_eqL (L' := [[Sg b1 0 [Y (pbit (markOf name) 15), Y (pbit (markOf name) 14), Y (pbit (markOf name) 13), Y (pbit (markOf name) 12), Y (pbit (markOf name) 11), Y (pbit (markOf name) 10), Y 0, Y 0, Y 0, Y 0, Y 0, Y 0, Y 0, Y 0, Y 0, Y 0]]]) (by simp only [e6]) ?_
  clear e6
  refine runL_nil ?_
  refine tq_block ?_
  refine tq_then ?_
  refine tc_region ?_
  refine runL_bn [0,0] [(8, I 6)] ?_
  refine runL_nil ?_
  refine tq_iter ?_
  refine ti_step ?_
  refine tc_rbn [0] [(9, Bo true)] ?_
  refine tc_seq ?_
  refine tc_cond_true ?_
  refine tc_skip ?_
  refine tq_then ?_
  refine tc_seq ?_
  refine tc_block ?_
  refine tc_rbn [0,0] [(5, I 6)] ?_
  refine tc_region ?_
  refine runL_bsn [0,0,0,0,0,0,0,0,0,3] [] [[Sg b1 0 [Y (pbit (markOf name) 15), Y (pbit (markOf name) 14), Y (pbit (markOf name) 13), Y (pbit (markOf name) 12), Y (pbit (markOf name) 11), Y (pbit (markOf name) 10), Y (IntKind.u8.wrap (48 + (IntKind.u8.wrap (IntKind.u64.wrap ((BitVec.ofInt 64 ((markOf name).fdiv (2 ^ 9)) &&& BitVec.ofInt 64 (1)).toNat : Int))))), Y 0, Y 0, Y 0, Y 0, Y 0, Y 0, Y 0, Y 0, Y 0]]] ?_
  have e7 : IntKind.u8.wrap (48 + (IntKind.u8.wrap (IntKind.u64.wrap ((BitVec.ofInt 64 ((markOf name).fdiv (2 ^ 9)) &&& BitVec.ofInt 64 (1)).toNat : Int)))) = pbit (markOf name) 9 := pbit_eq (markOf name) 9 (by have := markOf_bd name; omega)
  refine runL_eqL (L' := [[Sg b1 0 [Y (pbit (markOf name) 15), Y (pbit (markOf name) 14), Y (pbit (markOf name) 13), Y (pbit (markOf name) 12), Y (pbit (markOf name) 11), Y (pbit (markOf name) 10), Y (pbit (markOf name) 9), Y 0, Y 0, Y 0, Y 0, Y 0, Y 0, Y 0, Y 0, Y 0]]]) (by simp only [e7]) ?_
  clear e7
  refine runL_nil ?_
  refine tq_block ?_
  refine tq_then ?_
  refine tc_region ?_
  refine runL_bn [0,0] [(8, I 7)] ?_
  refine runL_nil ?_
  refine tq_iter ?_
  refine ti_step ?_
  refine tc_rbn [0] [(9, Bo true)] ?_
  refine tc_seq ?_
  refine tc_cond_true ?_
  refine tc_skip ?_
  refine tq_then ?_
  refine tc_seq ?_
  refine tc_block ?_
  refine tc_rbn [0,0] [(5, I 7)] ?_
  refine tc_region ?_
  refine runL_bsn [0,0,0,0,0,0,0,0,0,3] [] [[Sg b1 0 [Y (pbit (markOf name) 15), Y (pbit (markOf name) 14), Y (pbit (markOf name) 13), Y (pbit (markOf name) 12), Y (pbit (markOf name) 11), Y (pbit (markOf name) 10), Y (pbit (markOf name) 9), Y (IntKind.u8.wrap (48 + (IntKind.u8.wrap (IntKind.u64.wrap ((BitVec.ofInt 64 ((markOf name).fdiv (2 ^ 8)) &&& BitVec.ofInt 64 (1)).toNat : Int))))), Y 0, Y 0, Y 0, Y 0, Y 0, Y 0, Y 0, Y 0]]] ?_
  have e8 : IntKind.u8.wrap (48 + (IntKind.u8.wrap (IntKind.u64.wrap ((BitVec.ofInt 64 ((markOf name).fdiv (2 ^ 8)) &&& BitVec.ofInt 64 (1)).toNat : Int)))) = pbit (markOf name) 8 := pbit_eq (markOf name) 8 (by have := markOf_bd name; omega)
  refine runL_eqL (L' := [[Sg b1 0 [Y (pbit (markOf name) 15), Y (pbit (markOf name) 14), Y (pbit (markOf name) 13), Y (pbit (markOf name) 12), Y (pbit (markOf name) 11), Y (pbit (markOf name) 10), Y (pbit (markOf name) 9), Y (pbit (markOf name) 8), Y 0, Y 0, Y 0, Y 0, Y 0, Y 0, Y 0, Y 0]]]) (by simp only [e8]) ?_
  clear e8
  refine runL_nil ?_
  refine tq_block ?_
  refine tq_then ?_
  refine tc_region ?_
  refine runL_bn [0,0] [(8, I 8)] ?_
  refine runL_nil ?_
  refine tq_iter ?_
  refine ti_step ?_
  refine tc_rbn [0] [(9, Bo true)] ?_
  refine tc_seq ?_
  refine tc_cond_true ?_
  refine tc_skip ?_
  refine tq_then ?_
  refine tc_seq ?_
  refine tc_block ?_
  refine tc_rbn [0,0] [(5, I 8)] ?_
  refine tc_region ?_
  refine runL_bsn [0,0,0,0,0,0,0,0,0,3] [] [[Sg b1 0 [Y (pbit (markOf name) 15), Y (pbit (markOf name) 14), Y (pbit (markOf name) 13), Y (pbit (markOf name) 12), Y (pbit (markOf name) 11), Y (pbit (markOf name) 10), Y (pbit (markOf name) 9), Y (pbit (markOf name) 8), Y (IntKind.u8.wrap (48 + (IntKind.u8.wrap (IntKind.u64.wrap ((BitVec.ofInt 64 ((markOf name).fdiv (2 ^ 7)) &&& BitVec.ofInt 64 (1)).toNat : Int))))), Y 0, Y 0, Y 0, Y 0, Y 0, Y 0, Y 0]]] ?_
  have e9 : IntKind.u8.wrap (48 + (IntKind.u8.wrap (IntKind.u64.wrap ((BitVec.ofInt 64 ((markOf name).fdiv (2 ^ 7)) &&& BitVec.ofInt 64 (1)).toNat : Int)))) = pbit (markOf name) 7 := pbit_eq (markOf name) 7 (by have := markOf_bd name; omega)
  refine runL_eqL (L' := [[Sg b1 0 [Y (pbit (markOf name) 15), Y (pbit (markOf name) 14), Y (pbit (markOf name) 13), Y (pbit (markOf name) 12), Y (pbit (markOf name) 11), Y (pbit (markOf name) 10), Y (pbit (markOf name) 9), Y (pbit (markOf name) 8), Y (pbit (markOf name) 7), Y 0, Y 0, Y 0, Y 0, Y 0, Y 0, Y 0]]]) (by simp only [e9]) ?_
  clear e9
  refine runL_nil ?_
  refine tq_block ?_
  refine tq_then ?_
  refine tc_region ?_
  refine runL_bn [0,0] [(8, I 9)] ?_
  refine runL_nil ?_
  refine tq_iter ?_
  refine ti_step ?_
  refine tc_rbn [0] [(9, Bo true)] ?_
  refine tc_seq ?_
  refine tc_cond_true ?_
  refine tc_skip ?_
  refine tq_then ?_
  refine tc_seq ?_
  refine tc_block ?_
  refine tc_rbn [0,0] [(5, I 9)] ?_
  refine tc_region ?_
  refine runL_bsn [0,0,0,0,0,0,0,0,0,3] [] [[Sg b1 0 [Y (pbit (markOf name) 15), Y (pbit (markOf name) 14), Y (pbit (markOf name) 13), Y (pbit (markOf name) 12), Y (pbit (markOf name) 11), Y (pbit (markOf name) 10), Y (pbit (markOf name) 9), Y (pbit (markOf name) 8), Y (pbit (markOf name) 7), Y (IntKind.u8.wrap (48 + (IntKind.u8.wrap (IntKind.u64.wrap ((BitVec.ofInt 64 ((markOf name).fdiv (2 ^ 6)) &&& BitVec.ofInt 64 (1)).toNat : Int))))), Y 0, Y 0, Y 0, Y 0, Y 0, Y 0]]] ?_
  have e10 : IntKind.u8.wrap (48 + (IntKind.u8.wrap (IntKind.u64.wrap ((BitVec.ofInt 64 ((markOf name).fdiv (2 ^ 6)) &&& BitVec.ofInt 64 (1)).toNat : Int)))) = pbit (markOf name) 6 := pbit_eq (markOf name) 6 (by have := markOf_bd name; omega)
  refine runL_eqL (L' := [[Sg b1 0 [Y (pbit (markOf name) 15), Y (pbit (markOf name) 14), Y (pbit (markOf name) 13), Y (pbit (markOf name) 12), Y (pbit (markOf name) 11), Y (pbit (markOf name) 10), Y (pbit (markOf name) 9), Y (pbit (markOf name) 8), Y (pbit (markOf name) 7), Y (pbit (markOf name) 6), Y 0, Y 0, Y 0, Y 0, Y 0, Y 0]]]) (by simp only [e10]) ?_
  clear e10
  refine runL_nil ?_
  refine tq_block ?_
  refine tq_then ?_
  refine tc_region ?_
  refine runL_bn [0,0] [(8, I 10)] ?_
  refine runL_nil ?_
  refine tq_iter ?_
  refine ti_step ?_
  refine tc_rbn [0] [(9, Bo true)] ?_
  refine tc_seq ?_
  refine tc_cond_true ?_
  refine tc_skip ?_
  refine tq_then ?_
  refine tc_seq ?_
  refine tc_block ?_
  refine tc_rbn [0,0] [(5, I 10)] ?_
  refine tc_region ?_
  refine runL_bsn [0,0,0,0,0,0,0,0,0,3] [] [[Sg b1 0 [Y (pbit (markOf name) 15), Y (pbit (markOf name) 14), Y (pbit (markOf name) 13), Y (pbit (markOf name) 12), Y (pbit (markOf name) 11), Y (pbit (markOf name) 10), Y (pbit (markOf name) 9), Y (pbit (markOf name) 8), Y (pbit (markOf name) 7), Y (pbit (markOf name) 6), Y (IntKind.u8.wrap (48 + (IntKind.u8.wrap (IntKind.u64.wrap ((BitVec.ofInt 64 ((markOf name).fdiv (2 ^ 5)) &&& BitVec.ofInt 64 (1)).toNat : Int))))), Y 0, Y 0, Y 0, Y 0, Y 0]]] ?_
  have e11 : IntKind.u8.wrap (48 + (IntKind.u8.wrap (IntKind.u64.wrap ((BitVec.ofInt 64 ((markOf name).fdiv (2 ^ 5)) &&& BitVec.ofInt 64 (1)).toNat : Int)))) = pbit (markOf name) 5 := pbit_eq (markOf name) 5 (by have := markOf_bd name; omega)
  refine runL_eqL (L' := [[Sg b1 0 [Y (pbit (markOf name) 15), Y (pbit (markOf name) 14), Y (pbit (markOf name) 13), Y (pbit (markOf name) 12), Y (pbit (markOf name) 11), Y (pbit (markOf name) 10), Y (pbit (markOf name) 9), Y (pbit (markOf name) 8), Y (pbit (markOf name) 7), Y (pbit (markOf name) 6), Y (pbit (markOf name) 5), Y 0, Y 0, Y 0, Y 0, Y 0]]]) (by simp only [e11]) ?_
  clear e11
  refine runL_nil ?_
  refine tq_block ?_
  refine tq_then ?_
  refine tc_region ?_
  refine runL_bn [0,0] [(8, I 11)] ?_
  refine runL_nil ?_
  refine tq_iter ?_
  refine ti_step ?_
  refine tc_rbn [0] [(9, Bo true)] ?_
  refine tc_seq ?_
  refine tc_cond_true ?_
  refine tc_skip ?_
  refine tq_then ?_
  refine tc_seq ?_
  refine tc_block ?_
  refine tc_rbn [0,0] [(5, I 11)] ?_
  refine tc_region ?_
  refine runL_bsn [0,0,0,0,0,0,0,0,0,3] [] [[Sg b1 0 [Y (pbit (markOf name) 15), Y (pbit (markOf name) 14), Y (pbit (markOf name) 13), Y (pbit (markOf name) 12), Y (pbit (markOf name) 11), Y (pbit (markOf name) 10), Y (pbit (markOf name) 9), Y (pbit (markOf name) 8), Y (pbit (markOf name) 7), Y (pbit (markOf name) 6), Y (pbit (markOf name) 5), Y (IntKind.u8.wrap (48 + (IntKind.u8.wrap (IntKind.u64.wrap ((BitVec.ofInt 64 ((markOf name).fdiv (2 ^ 4)) &&& BitVec.ofInt 64 (1)).toNat : Int))))), Y 0, Y 0, Y 0, Y 0]]] ?_
  have e12 : IntKind.u8.wrap (48 + (IntKind.u8.wrap (IntKind.u64.wrap ((BitVec.ofInt 64 ((markOf name).fdiv (2 ^ 4)) &&& BitVec.ofInt 64 (1)).toNat : Int)))) = pbit (markOf name) 4 := pbit_eq (markOf name) 4 (by have := markOf_bd name; omega)
  refine runL_eqL (L' := [[Sg b1 0 [Y (pbit (markOf name) 15), Y (pbit (markOf name) 14), Y (pbit (markOf name) 13), Y (pbit (markOf name) 12), Y (pbit (markOf name) 11), Y (pbit (markOf name) 10), Y (pbit (markOf name) 9), Y (pbit (markOf name) 8), Y (pbit (markOf name) 7), Y (pbit (markOf name) 6), Y (pbit (markOf name) 5), Y (pbit (markOf name) 4), Y 0, Y 0, Y 0, Y 0]]]) (by simp only [e12]) ?_
  clear e12
  refine runL_nil ?_
  refine tq_block ?_
  refine tq_then ?_
  refine tc_region ?_
  refine runL_bn [0,0] [(8, I 12)] ?_
  refine runL_nil ?_
  refine tq_iter ?_
  refine ti_step ?_
  refine tc_rbn [0] [(9, Bo true)] ?_
  refine tc_seq ?_
  refine tc_cond_true ?_
  refine tc_skip ?_
  refine tq_then ?_
  refine tc_seq ?_
  refine tc_block ?_
  refine tc_rbn [0,0] [(5, I 12)] ?_
  refine tc_region ?_
  refine runL_bsn [0,0,0,0,0,0,0,0,0,3] [] [[Sg b1 0 [Y (pbit (markOf name) 15), Y (pbit (markOf name) 14), Y (pbit (markOf name) 13), Y (pbit (markOf name) 12), Y (pbit (markOf name) 11), Y (pbit (markOf name) 10), Y (pbit (markOf name) 9), Y (pbit (markOf name) 8), Y (pbit (markOf name) 7), Y (pbit (markOf name) 6), Y (pbit (markOf name) 5), Y (pbit (markOf name) 4), Y (IntKind.u8.wrap (48 + (IntKind.u8.wrap (IntKind.u64.wrap ((BitVec.ofInt 64 ((markOf name).fdiv (2 ^ 3)) &&& BitVec.ofInt 64 (1)).toNat : Int))))), Y 0, Y 0, Y 0]]] ?_
  have e13 : IntKind.u8.wrap (48 + (IntKind.u8.wrap (IntKind.u64.wrap ((BitVec.ofInt 64 ((markOf name).fdiv (2 ^ 3)) &&& BitVec.ofInt 64 (1)).toNat : Int)))) = pbit (markOf name) 3 := pbit_eq (markOf name) 3 (by have := markOf_bd name; omega)
  refine runL_eqL (L' := [[Sg b1 0 [Y (pbit (markOf name) 15), Y (pbit (markOf name) 14), Y (pbit (markOf name) 13), Y (pbit (markOf name) 12), Y (pbit (markOf name) 11), Y (pbit (markOf name) 10), Y (pbit (markOf name) 9), Y (pbit (markOf name) 8), Y (pbit (markOf name) 7), Y (pbit (markOf name) 6), Y (pbit (markOf name) 5), Y (pbit (markOf name) 4), Y (pbit (markOf name) 3), Y 0, Y 0, Y 0]]]) (by simp only [e13]) ?_
  clear e13
  refine runL_nil ?_
  refine tq_block ?_
  refine tq_then ?_
  refine tc_region ?_
  refine runL_bn [0,0] [(8, I 13)] ?_
  refine runL_nil ?_
  refine tq_iter ?_
  refine ti_step ?_
  refine tc_rbn [0] [(9, Bo true)] ?_
  refine tc_seq ?_
  refine tc_cond_true ?_
  refine tc_skip ?_
  refine tq_then ?_
  refine tc_seq ?_
  refine tc_block ?_
  refine tc_rbn [0,0] [(5, I 13)] ?_
  refine tc_region ?_
  refine runL_bsn [0,0,0,0,0,0,0,0,0,3] [] [[Sg b1 0 [Y (pbit (markOf name) 15), Y (pbit (markOf name) 14), Y (pbit (markOf name) 13), Y (pbit (markOf name) 12), Y (pbit (markOf name) 11), Y (pbit (markOf name) 10), Y (pbit (markOf name) 9), Y (pbit (markOf name) 8), Y (pbit (markOf name) 7), Y (pbit (markOf name) 6), Y (pbit (markOf name) 5), Y (pbit (markOf name) 4), Y (pbit (markOf name) 3), Y (IntKind.u8.wrap (48 + (IntKind.u8.wrap (IntKind.u64.wrap ((BitVec.ofInt 64 ((markOf name).fdiv (2 ^ 2)) &&& BitVec.ofInt 64 (1)).toNat : Int))))), Y 0, Y 0]]] ?_
  have e14 : IntKind.u8.wrap (48 + (IntKind.u8.wrap (IntKind.u64.wrap ((BitVec.ofInt 64 ((markOf name).fdiv (2 ^ 2)) &&& BitVec.ofInt 64 (1)).toNat : Int)))) = pbit (markOf name) 2 := pbit_eq (markOf name) 2 (by have := markOf_bd name; omega)
  refine runL_eqL (L' := [[Sg b1 0 [Y (pbit (markOf name) 15), Y (pbit (markOf name) 14), Y (pbit (markOf name) 13), Y (pbit (markOf name) 12), Y (pbit (markOf name) 11), Y (pbit (markOf name) 10), Y (pbit (markOf name) 9), Y (pbit (markOf name) 8), Y (pbit (markOf name) 7), Y (pbit (markOf name) 6), Y (pbit (markOf name) 5), Y (pbit (markOf name) 4), Y (pbit (markOf name) 3), Y (pbit (markOf name) 2), Y 0, Y 0]]]) (by simp only [e14]) ?_
  clear e14
  refine runL_nil ?_
  refine tq_block ?_
  refine tq_then ?_
  refine tc_region ?_
  refine runL_bn [0,0] [(8, I 14)] ?_
  refine runL_nil ?_
  refine tq_iter ?_
  refine ti_step ?_
  refine tc_rbn [0] [(9, Bo true)] ?_
  refine tc_seq ?_
  refine tc_cond_true ?_
  refine tc_skip ?_
  refine tq_then ?_
  refine tc_seq ?_
  refine tc_block ?_
  refine tc_rbn [0,0] [(5, I 14)] ?_
  refine tc_region ?_
  refine runL_bsn [0,0,0,0,0,0,0,0,0,3] [] [[Sg b1 0 [Y (pbit (markOf name) 15), Y (pbit (markOf name) 14), Y (pbit (markOf name) 13), Y (pbit (markOf name) 12), Y (pbit (markOf name) 11), Y (pbit (markOf name) 10), Y (pbit (markOf name) 9), Y (pbit (markOf name) 8), Y (pbit (markOf name) 7), Y (pbit (markOf name) 6), Y (pbit (markOf name) 5), Y (pbit (markOf name) 4), Y (pbit (markOf name) 3), Y (pbit (markOf name) 2), Y (IntKind.u8.wrap (48 + (IntKind.u8.wrap (IntKind.u64.wrap ((BitVec.ofInt 64 ((markOf name).fdiv (2 ^ 1)) &&& BitVec.ofInt 64 (1)).toNat : Int))))), Y 0]]] ?_
  have e15 : IntKind.u8.wrap (48 + (IntKind.u8.wrap (IntKind.u64.wrap ((BitVec.ofInt 64 ((markOf name).fdiv (2 ^ 1)) &&& BitVec.ofInt 64 (1)).toNat : Int)))) = pbit (markOf name) 1 := pbit_eq (markOf name) 1 (by have := markOf_bd name; omega)
  refine runL_eqL (L' := [[Sg b1 0 [Y (pbit (markOf name) 15), Y (pbit (markOf name) 14), Y (pbit (markOf name) 13), Y (pbit (markOf name) 12), Y (pbit (markOf name) 11), Y (pbit (markOf name) 10), Y (pbit (markOf name) 9), Y (pbit (markOf name) 8), Y (pbit (markOf name) 7), Y (pbit (markOf name) 6), Y (pbit (markOf name) 5), Y (pbit (markOf name) 4), Y (pbit (markOf name) 3), Y (pbit (markOf name) 2), Y (pbit (markOf name) 1), Y 0]]]) (by simp only [e15]) ?_
  clear e15
  refine runL_nil ?_
  refine tq_block ?_
  refine tq_then ?_
  refine tc_region ?_
  refine runL_bn [0,0] [(8, I 15)] ?_
  refine runL_nil ?_
  refine tq_iter ?_
  refine ti_step ?_
  refine tc_rbn [0] [(9, Bo true)] ?_
  refine tc_seq ?_
  refine tc_cond_true ?_
  refine tc_skip ?_
  refine tq_then ?_
  refine tc_seq ?_
  refine tc_block ?_
  refine tc_rbn [0,0] [(5, I 15)] ?_
  refine tc_region ?_
  refine runL_bsn [0,0,0,0,0,0,0,0,0,3] [] [[Sg b1 0 [Y (pbit (markOf name) 15), Y (pbit (markOf name) 14), Y (pbit (markOf name) 13), Y (pbit (markOf name) 12), Y (pbit (markOf name) 11), Y (pbit (markOf name) 10), Y (pbit (markOf name) 9), Y (pbit (markOf name) 8), Y (pbit (markOf name) 7), Y (pbit (markOf name) 6), Y (pbit (markOf name) 5), Y (pbit (markOf name) 4), Y (pbit (markOf name) 3), Y (pbit (markOf name) 2), Y (pbit (markOf name) 1), Y (IntKind.u8.wrap (48 + (IntKind.u8.wrap (IntKind.u64.wrap ((BitVec.ofInt 64 ((markOf name).fdiv (2 ^ 0)) &&& BitVec.ofInt 64 (1)).toNat : Int)))))]]] ?_
  have e16 : IntKind.u8.wrap (48 + (IntKind.u8.wrap (IntKind.u64.wrap ((BitVec.ofInt 64 ((markOf name).fdiv (2 ^ 0)) &&& BitVec.ofInt 64 (1)).toNat : Int)))) = pbit (markOf name) 0 := pbit_eq (markOf name) 0 (by have := markOf_bd name; omega)
  refine runL_eqL (L' := [[Sg b1 0 [Y (pbit (markOf name) 15), Y (pbit (markOf name) 14), Y (pbit (markOf name) 13), Y (pbit (markOf name) 12), Y (pbit (markOf name) 11), Y (pbit (markOf name) 10), Y (pbit (markOf name) 9), Y (pbit (markOf name) 8), Y (pbit (markOf name) 7), Y (pbit (markOf name) 6), Y (pbit (markOf name) 5), Y (pbit (markOf name) 4), Y (pbit (markOf name) 3), Y (pbit (markOf name) 2), Y (pbit (markOf name) 1), Y (pbit (markOf name) 0)]]]) (by simp only [e16]) ?_
  clear e16
  refine runL_nil ?_
  refine tq_block ?_
  refine tq_then ?_
  refine tc_region ?_
  refine runL_bn [0,0] [(8, I 16)] ?_
  refine runL_nil ?_
  refine tq_iter ?_
  refine ti_step ?_
  refine tc_rbn [0] [(9, Bo false)] ?_
  refine tc_seq ?_
  refine tc_cond_false ?_
  refine tc_exit ?_
  refine tq_then_exit ?_
  refine tq_then_exit ?_
  refine tq_block_here ?_
  refine tq_then ?_
  refine tc_seq ?_
  refine tc_region ?_
  refine runL_bn [0] [(21, Sl (At b1 0) 16 16)] ?_
  refine runL_b2s (b := b1) (off := 0) (len := 16) (cap := 16) (cs := List.map (Value.int .u8) [pbit (markOf name) 15, pbit (markOf name) 14, pbit (markOf name) 13, pbit (markOf name) 12, pbit (markOf name) 11, pbit (markOf name) 10, pbit (markOf name) 9, pbit (markOf name) 8, pbit (markOf name) 7, pbit (markOf name) 6, pbit (markOf name) 5, pbit (markOf name) 4, pbit (markOf name) 3, pbit (markOf name) 2, pbit (markOf name) 1, pbit (markOf name) 0]) 22 0 [pbit (markOf name) 15, pbit (markOf name) 14, pbit (markOf name) 13, pbit (markOf name) 12, pbit (markOf name) 11, pbit (markOf name) 10, pbit (markOf name) 9, pbit (markOf name) 8, pbit (markOf name) 7, pbit (markOf name) 6, pbit (markOf name) 5, pbit (markOf name) 4, pbit (markOf name) 3, pbit (markOf name) 2, pbit (markOf name) 1, pbit (markOf name) 0] rfl (lit_bytes (ns := [pbit (markOf name) 15, pbit (markOf name) 14, pbit (markOf name) 13, pbit (markOf name) 12, pbit (markOf name) 11, pbit (markOf name) 10, pbit (markOf name) 9, pbit (markOf name) 8, pbit (markOf name) 7, pbit (markOf name) 6, pbit (markOf name) 5, pbit (markOf name) 4, pbit (markOf name) 3, pbit (markOf name) 2, pbit (markOf name) 1, pbit (markOf name) 0]) rfl) ?_
  refine runL_bn [0] [(2, Sr (([pbit (markOf name) 15, pbit (markOf name) 14, pbit (markOf name) 13, pbit (markOf name) 12, pbit (markOf name) 11, pbit (markOf name) 10, pbit (markOf name) 9, pbit (markOf name) 8, pbit (markOf name) 7, pbit (markOf name) 6, pbit (markOf name) 5, pbit (markOf name) 4, pbit (markOf name) 3, pbit (markOf name) 2, pbit (markOf name) 1, pbit (markOf name) 0] : List Int).map fun n => UInt8.ofNat n.toNat))] ?_
  refine runL_nil ?_
  refine tq_then ?_
  refine tc_ret ?_
  refine tq_ret [0] [Sr (([pbit (markOf name) 15, pbit (markOf name) 14, pbit (markOf name) 13, pbit (markOf name) 12, pbit (markOf name) 11, pbit (markOf name) 10, pbit (markOf name) 9, pbit (markOf name) 8, pbit (markOf name) 7, pbit (markOf name) 6, pbit (markOf name) 5, pbit (markOf name) 4, pbit (markOf name) 3, pbit (markOf name) 2, pbit (markOf name) 1, pbit (markOf name) 0] : List Int).map fun n => UInt8.ofNat n.toNat)] (bp_ret (Mem.le_refl _) (congrArg Sr (?_ : (pathBits name) = (([pbit (markOf name) 15, pbit (markOf name) 14, pbit (markOf name) 13, pbit (markOf name) 12, pbit (markOf name) 11, pbit (markOf name) 10, pbit (markOf name) 9, pbit (markOf name) 8, pbit (markOf name) 7, pbit (markOf name) 6, pbit (markOf name) 5, pbit (markOf name) 4, pbit (markOf name) 3, pbit (markOf name) 2, pbit (markOf name) 1, pbit (markOf name) 0] : List Int).map fun n => UInt8.ofNat n.toNat)).symm))
  rfl

theorem pathOf_con (G : Mem) (name : List UInt8) (hw_name : (name).length ≤ 140737488351232)  : ConV 85 #[Sr name] G (.tuple #[Sr ((pathOf name).1), I ((pathOf name).2)]) := by
  refine con_of Tryz.func85 9 [(0, Sr name)] rfl (fun w0 G0 => ?_)
  refine tc_rbn [0,0] [] ?_
  refine tc_seq ?_
  refine tc_seq ?_
  refine tc_region ?_
  refine runL_bn [0] [(4, Sr name)] ?_
  refine runL_callV 5 (Bo (pathName name)) (pathName_con G name) ?_
  refine runL_bn [0] [(6, Bo (!(pathName name)))] ?_
  refine runL_nil ?_
  refine tq_then ?_
  refine tc_condP (!(pathName name)) (fun h1 => ?_) (fun h1 => ?_)
  ·
    refine tc_rbn [0,0] [(2, Sr ([])), (3, I 3)] ?_
    refine tc_ret ?_
    refine tq_then_ret ?_
    refine tq_ret [0, 0] [Sr ([]), I 3] (bp_ret (Mem.le_refl _) ?_)
    have hf_ : (pathOf name) = ([], 3) := by
      unfold pathOf; simp_all
    (try rw [hf_]); first | with_reducible rfl | (simp only [packR]; done) | rfl
  ·
    refine tc_skip ?_
    refine tq_then ?_
    refine tc_seq ?_
    refine tc_region ?_
    refine runL_bn [0] [(7, Sr name)] ?_
    refine runL_callV 8 (Sr (pathBits name)) (pathBits_con G name hw_name) ?_
    refine runL_bn [0,0] [(2, Sr (pathBits name)), (3, I 0)] ?_
    refine runL_nil ?_
    refine tq_then ?_
    refine tc_ret ?_
    refine tq_ret [0, 0] [Sr (pathBits name), I 0] (bp_ret (Mem.le_refl _) ?_)
    have hf_ : (pathOf name) = (pathBits name, 0) := by
      unfold pathOf; simp_all
    (try rw [hf_]); first | with_reducible rfl | (simp only [packR]; done) | rfl

theorem isNaN_con (G : Mem) (x : List UInt8)  : ConV 92 #[Sr x] G (Bo false) := by
  refine con_of Tryz.func92 6 [(0, Sr x)] rfl (fun w0 G0 => ?_)
  refine tc_rbn [0] [] ?_
  refine tc_rbn [0,0,0,0] [(2, Bo (!((B x).toList == (B x).toList)))] ?_
  refine tc_put 2 (Bo (!(x == x))) ((show (Bo (!((B x).toList == (B x).toList)) : Value) = Bo (!(x == x)) by simp only [B_toList])) ?_
  refine tc_ret ?_
  refine tq_ret [0] [Bo (!(x == x))] (bp_ret (Mem.le_refl _) (congrArg Bo (?_ : false = (!(x == x))).symm))
  simp

theorem cmpS_con (G : Mem) (x : List UInt8) (y : List UInt8)  : ConV 75 #[Sr x, Sr y] G (I (cmpS x y)) := by
  refine con_of Tryz.func75 20 [(0, Sr x), (1, Sr y)] rfl (fun w0 G0 => ?_)
  refine tc_rbn [0] [] ?_
  refine tc_seq ?_
  refine tc_region ?_
  refine runL_bn [0] [(7, Sr x)] ?_
  refine runL_callV 8 (Bo false) (isNaN_con G x) ?_
  refine runL_bn [0] [(5, Bo false)] ?_
  refine runL_nil ?_
  refine tq_then ?_
  refine tc_seq ?_
  refine tc_region ?_
  refine runL_bn [0] [(9, Sr y)] ?_
  refine runL_callV 10 (Bo false) (isNaN_con G y) ?_
  refine runL_bn [0] [(6, Bo false)] ?_
  refine runL_nil ?_
  refine tq_then ?_
  refine tc_seq ?_
  refine tc_rbn [0] [(11, Bo false)] ?_
  refine tc_cond_false ?_
  refine tc_skip ?_
  refine tq_then ?_
  refine tc_seq ?_
  refine tc_rbn [0] [(13, Bo false)] ?_
  refine tc_cond_false ?_
  refine tc_skip ?_
  refine tq_then ?_
  refine tc_seq ?_
  refine tc_rbn [0,0,0] [(16, Bo (Go.Op.bytesLess (B x).toList (B y).toList))] ?_
  refine tc_put 16 (Bo (Go.Op.bytesLess x y)) ((show (Bo (Go.Op.bytesLess (B x).toList (B y).toList) : Value) = Bo (Go.Op.bytesLess x y) by simp only [B_toList])) ?_
  refine tc_condP (Go.Op.bytesLess x y) (fun h1 => ?_) (fun h1 => ?_)
  ·
    refine tc_rbn [0] [(4, I ((-1)))] ?_
    refine tc_ret ?_
    refine tq_then_ret ?_
    refine tq_ret [0] [I ((-1))] (bp_ret (Mem.le_refl _) (congrArg I (?_ : (cmpS x y) = ((-1))).symm))
    unfold cmpS; first | (rw [if_pos (by assumption)]; done) | (rw [if_neg (by simp_all)]; first | (rw [if_neg (by simp_all)]; done) | (rw [if_pos (by simp_all)]; done))
  ·
    refine tc_skip ?_
    refine tq_then ?_
    refine tc_seq ?_
    refine tc_rbn [0,0,0] [(19, Bo (!(Go.Op.bytesLess (B x).toList (B y).toList || ((B x).toList == (B y).toList))))] ?_
    refine tc_put 19 (Bo (!(Go.Op.bytesLess x y || (x == y)))) ((show (Bo (!(Go.Op.bytesLess (B x).toList (B y).toList || ((B x).toList == (B y).toList))) : Value) = Bo (!(Go.Op.bytesLess x y || (x == y))) by simp only [B_toList])) ?_
    refine tc_condP (!(Go.Op.bytesLess x y || (x == y))) (fun h2 => ?_) (fun h2 => ?_)
    ·
      refine tc_rbn [0] [(4, I 1)] ?_
      refine tc_ret ?_
      refine tq_then_ret ?_
      refine tq_ret [0] [I 1] (bp_ret (Mem.le_refl _) (congrArg I (?_ : (cmpS x y) = 1).symm))
      unfold cmpS; first | (rw [if_pos (by assumption)]; done) | (rw [if_neg (by simp_all)]; first | (rw [if_neg (by simp_all)]; done) | (rw [if_pos (by simp_all)]; done))
    ·
      refine tc_skip ?_
      refine tq_then ?_
      refine tc_rbn [0] [(4, I 0)] ?_
      refine tc_ret ?_
      refine tq_ret [0] [I 0] (bp_ret (Mem.le_refl _) (congrArg I (?_ : (cmpS x y) = 0).symm))
      unfold cmpS; first | (rw [if_pos (by assumption)]; done) | (rw [if_neg (by simp_all)]; first | (rw [if_neg (by simp_all)]; done) | (rw [if_pos (by simp_all)]; done))

theorem orI_con (G : Mem) (a_l : Option Addr) (c_l : Nat) (l : List Int) (h_l : RS EI G a_l c_l l)  : ConV 74 #[Sl a_l l.length c_l] G (I (orI l)) := by
  refine con_of Tryz.func74 18 [(0, Sl a_l l.length c_l)] rfl (fun w0 G0 => ?_)
  refine tc_rbn [0] [] ?_
  refine tc_rbn [0] [(3, I 0)] ?_
  refine tc_seq ?_
  refine tc_rbn [0,0,0] [(6, Sl a_l l.length c_l), (7, I (((l.length : Nat) : Int))), (8, I 0)] ?_
  refine tc_block ?_
  have hlm_h_l : l.length ≤ 9223372036854775807 := Nat.le_trans (h_l).le (h_l).max
  refine tc_loop (σ := Nat) (fun q_ => (q_ ≤ l.length) ∧ (orI l = orI (l.drop q_))) (fun q_ => [(3, I 0), (6, Sl a_l l.length c_l), (7, I (((l.length : Nat) : Int))), (8, I ((q_ : Int)))]) (fun q_ => G) (fun q_ => []) (fun q_ => l.length - q_) 0 ⟨(by (try dsimp only); first | exact Nat.zero_le _ | omega | simp), rfl⟩ (fun q_ hs => ?_)
  revert hs; revert q_; intro i hs
  obtain ⟨hi, hn⟩ := hs
  refine tc_eq (fr' := [(3, I 0), (6, Sl a_l l.length c_l), (7, I (((l.length : Nat) : Int))), (8, I ((i : Int)))]) (L' := []) rfl rfl ?_
  refine tc_rbn [0] [(9, Bo (decide ((i : Int) < ((l.length : Nat) : Int))))] ?_
  refine tc_seq ?_
  refine tc_condP (decide ((i : Int) < ((l.length : Nat) : Int))) (fun h1 => ?_) (fun h1 => ?_)
  ·
    refine tc_skip ?_
    refine tq_then ?_
    refine tc_seq ?_
    refine tc_block ?_
    refine tc_seq ?_
    refine tc_region ?_
    obtain ⟨b1, o1, rfl⟩ := RS.addr h_l (k := i) (by omega)
    obtain ⟨x1, hx1⟩ := getX (l := l) (k := i) (by omega)
    obtain ⟨_, ⟨rfl, w1⟩, hc1⟩ := RS.get h_l hx1
    refine runL_idx (b := b1) (off := o1) (len := l.length) (cap := c_l) (ik := .i64) 10 3 1 i (by omega) ?_
    refine runL_ldG 11 3 (cs := [I x1]) 0 (I x1) hc1 ?_
    refine runL_bn [0] [(5, I x1)] ?_
    refine runL_nil ?_
    refine tq_then ?_
    refine tc_rbn [0,0,0] [(14, Bo (!decide (x1 = 0)))] ?_
    refine tc_condP (!decide (x1 = 0)) (fun h2 => ?_) (fun h2 => ?_)
    ·
      refine tc_rbn [0,0] [(2, I x1)] ?_
      refine tc_ret ?_
      refine tq_block_ret ?_
      refine tq_then_ret ?_
      refine tq_rnd_ret ?_
      refine tq_block_ret ?_
      refine tq_then_ret ?_
      refine tq_ret [0] [I x1] (bp_ret (Mem.le_refl _) (congrArg I (?_ : (orI l) = x1).symm))
      rw [hn]; first | exact orI_at hx1 (by simp_all) | (rw [List.drop_eq_nil_of_le (by omega)]; rfl)
    ·
      refine tc_skip ?_
      refine tq_block ?_
      refine tq_then ?_
      refine tc_region ?_
      refine runL_bn [0,0] [(8, I (IntKind.i64.wrap (((i : Int)) + 1)))] ?_
      refine runL_wi64 8 (((i : Int)) + 1) (by omega) ?_
      refine runL_nil ?_
      exact tq_rnd (i + 1) ⟨(by omega), (by rw [hn]; exact orI_step hx1 (by simp_all))⟩ (by (try dsimp only); omega)
  ·
    refine tc_exit ?_
    refine tq_then_exit ?_
    refine tq_rnd_exit ?_
    refine tq_block_here ?_
    refine tq_then ?_
    refine tc_rbn [0,0] [(2, I 0)] ?_
    refine tc_ret ?_
    refine tq_ret [0] [I 0] (bp_ret (Mem.le_refl _) (congrArg I (?_ : (orI l) = 0).symm))
    rw [hn]; first | exact orI_at hx1 (by simp_all) | (rw [List.drop_eq_nil_of_le (by omega)]; rfl)

theorem way_con (G : Mem) (name : List UInt8) (hw_name : (name).length ≤ 140737488351232)  : ConV 70 #[Sr name] G (Sr (way name)) := by
  refine con_of Tryz.func70 11 [(0, Sr name)] rfl (fun w0 G0 => ?_)
  refine tc_rbn [0] [] ?_
  refine tc_seq ?_
  refine tc_region ?_
  refine runL_bn [0] [(6, Sr name)] ?_
  refine runL_callV 7 (.tuple #[Sr ((pathOf name).1), I ((pathOf name).2)]) (pathOf_con G name hw_name) ?_
  refine runL_bn [0,0,0,0,0] [(3, Sr ((pathOf name).1))] ?_
  refine runL_nil ?_
  refine tq_then ?_
  refine tc_rbn [0,0] [(2, Sr ((pathOf name).1))] ?_
  refine tc_ret ?_
  refine tq_ret [0] [Sr ((pathOf name).1)] (bp_ret (Mem.le_refl _) (congrArg Sr (?_ : (way name) = ((pathOf name).1)).symm))
  rfl

theorem ordN_con (G : Mem) (a : List UInt8) (hw_a : (a).length ≤ 140737488351232) (b : List UInt8) (hw_b : (b).length ≤ 140737488351232)  : ConV 55 #[Sr a, Sr b] G (I (ordN a b)) := by
  refine con_of Tryz.func55 15 [(0, Sr a), (1, Sr b)] rfl (fun w0 G0 => ?_)
  refine tc_rbn [0] [] ?_
  refine tc_seq ?_
  refine tc_region ?_
  refine runL_bn [0] [(5, Sr a)] ?_
  refine runL_callV 6 (Sr (way a)) (way_con G a hw_a) ?_
  refine runL_bn [0] [(7, Sr b)] ?_
  refine runL_callV 8 (Sr (way b)) (way_con G b hw_b) ?_
  refine runL_callV 9 (I (cmpS (way a) (way b))) (cmpS_con G (way a) (way b)) ?_
  refine runL_bn [0,0] [(10, Sr a), (11, Sr b)] ?_
  refine runL_callV 12 (I (cmpS a b)) (cmpS_con G a b) ?_
  refine runL_bsl 13 2 #[I (cmpS (way a) (way b)), I (cmpS a b)] 3 (fun b1 => ?_)
  refine runL_frz1 (b := b1) (o := 0) (cs := [I (cmpS (way a) (way b)), I (cmpS a b)]) 0 (fun G1 hl1 hz1 => ?_)
  have hs1 : RS EI G1 (At b1 0) 2 [cmpS (way a) (way b), cmpS a b] := RS.lit [[I (cmpS (way a) (way b))], [I (cmpS a b)]] [cmpS (way a) (way b), cmpS a b] ⟨⟨rfl, (by first | (first | assumption | omega | (unfold cmpS; repeat' split <;> omega)) | (dsimp only; first | assumption | omega | (unfold cmpS; repeat' split <;> omega)))⟩, ⟨⟨rfl, (by first | (first | assumption | omega | (unfold cmpS; repeat' split <;> omega)) | (dsimp only; first | assumption | omega | (unfold cmpS; repeat' split <;> omega)))⟩, trivial⟩⟩ hz1 (Nat.le_of_ble_eq_true rfl) (Nat.le_of_ble_eq_true rfl)
  refine runL_callV 14 (I (orI ([cmpS (way a) (way b), cmpS a b]))) (orI_con G1 (At b1 0) 2 ([cmpS (way a) (way b), cmpS a b]) hs1) ?_
  refine runL_bn [0] [(4, I (orI ([cmpS (way a) (way b), cmpS a b])))] ?_
  refine runL_nil ?_
  refine tq_then ?_
  refine tc_ret ?_
  refine tq_ret [0] [I (orI ([cmpS (way a) (way b), cmpS a b]))] (bp_ret hl1 (congrArg I (?_ : (ordN a b) = (orI ([cmpS (way a) (way b), cmpS a b]))).symm))
  rfl
end Go.Proofs.YtngoijkcbmchdaaGreatDoor
