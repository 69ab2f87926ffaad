import Derived.Test.YtggljibhfbgmpaaFork
import Derived.Test.YtggljibhfbgmpaaRollB
namespace Go.Proofs.Ytggljibhfbgmpaa
open Go.Tx
set_option linter.unusedVariables false
set_option linter.unusedSimpArgs false

def auditCheck (l : List (List HeadD)) : Int := if 8 < l.length then 2 else checkAll l
def findIn (a : List HeadD) (i : Nat) : Nat → List (List HeadD) → Option FoundD
  | _, [] => none
  | k, y :: r => if forkOk a y then some ⟨(i : Int), (k : Int), (chainFork a y).1⟩ else findIn a i (k + 1) r
def findAll : List (List HeadD) → Nat → Option FoundD
  | [], _ => none
  | a :: r, i => match findIn a i (i + 1) r with
    | some f => some f
    | none => findAll r (i + 1)
def foundZ : FoundD := ⟨0, 0, 0⟩
def foundR (o : Option FoundD) : FoundD × Bool × Int := match o with | some f => (f, true, 0) | none => (foundZ, false, 0)
def auditFind (l : List (List HeadD)) : FoundD × Bool × Int := if auditCheck l ≠ 0 then (foundZ, false, auditCheck l) else foundR (findAll l 0)
theorem findIn_step {a y : List HeadD} {l : List (List HeadD)} {i k : Nat} (hy : l[k]? = some y) (h : forkOk a y = false) : findIn a i k (l.drop k) = findIn a i (k + 1) (l.drop (k + 1)) := by
  obtain ⟨h1, rfl⟩ := List.getElem?_eq_some_iff.1 hy
  rw [List.drop_eq_getElem_cons h1]
  show (if _ then _ else _) = _
  rw [if_neg (by rw [h]; simp)]
theorem findIn_at {a y : List HeadD} {l : List (List HeadD)} {i k : Nat} (hy : l[k]? = some y) (h : forkOk a y = true) : findIn a i k (l.drop k) = some ⟨(i : Int), (k : Int), (chainFork a y).1⟩ := by
  obtain ⟨h1, rfl⟩ := List.getElem?_eq_some_iff.1 hy
  rw [List.drop_eq_getElem_cons h1]
  show (if _ then _ else _) = _
  rw [if_pos h]
theorem findAll_eq {a : List HeadD} {l : List (List HeadD)} {i : Nat} (ha : l[i]? = some a) : findAll (l.drop i) i = match findIn a i (i + 1) (l.drop (i + 1)) with
    | some f => some f
    | none => findAll (l.drop (i + 1)) (i + 1) := by
  obtain ⟨h1, rfl⟩ := List.getElem?_eq_some_iff.1 ha
  rw [List.drop_eq_getElem_cons h1]
  rfl
theorem findAll_step {a : List HeadD} {l : List (List HeadD)} {i : Nat} (ha : l[i]? = some a) (h : findIn a i (i + 1) (l.drop (i + 1)) = none) : findAll (l.drop i) i = findAll (l.drop (i + 1)) (i + 1) := by rw [findAll_eq ha, h]
theorem findAll_at {a : List HeadD} {l : List (List HeadD)} {i : Nat} {f : FoundD} (ha : l[i]? = some a) (h : findIn a i (i + 1) (l.drop (i + 1)) = some f) : findAll (l.drop i) i = some f := by rw [findAll_eq ha, h]
theorem auditCheck_ok {l : List (List HeadD)} (h : auditCheck l = 0) : l.length ≤ 8 ∧ ∀ x ∈ l, ChainOk x := by
  unfold auditCheck at h
  split at h
  · cases h
  · exact ⟨by omega, (checkAll_iff l).1 h⟩
theorem auditCheck_of {l : List (List HeadD)} (h : l.length ≤ 8) (h2 : ∀ x ∈ l, ChainOk x) : auditCheck l = 0 := by
  unfold auditCheck; rw [if_neg (by omega), (checkAll_iff l).2 h2]
theorem findIn_some {a : List HeadD} {i : Nat} {l : List (List HeadD)} {f : FoundD} : ∀ (n k : Nat), l.length ≤ k + n → findIn a i k (l.drop k) = some f → ∃ (m : Nat) (y : List HeadD), k ≤ m ∧ l[m]? = some y ∧ forkOk a y = true ∧ f = ⟨(i : Int), (m : Int), (chainFork a y).1⟩
  | 0, k, h, e => by rw [List.drop_eq_nil_of_le (by omega)] at e; cases e
  | n + 1, k, h, e => by
    by_cases hk : k < l.length
    · have hy : l[k]? = some l[k] := List.getElem?_eq_getElem hk
      cases hf : forkOk a l[k] with
      | true => rw [findIn_at hy hf] at e; exact ⟨k, l[k], Nat.le_refl _, hy, hf, (Option.some.inj e).symm⟩
      | false =>
        rw [findIn_step hy hf] at e
        obtain ⟨m, y, h1, h2⟩ := findIn_some n (k + 1) (by omega) e
        exact ⟨m, y, by omega, h2⟩
    · rw [List.drop_eq_nil_of_le (by omega)] at e; cases e
theorem findAll_some {l : List (List HeadD)} {f : FoundD} : ∀ (n i : Nat), l.length ≤ i + n → findAll (l.drop i) i = some f → ∃ (j m : Nat) (x y : List HeadD), j < m ∧ l[j]? = some x ∧ l[m]? = some y ∧ forkOk x y = true ∧ f = ⟨(j : Int), (m : Int), (chainFork x y).1⟩
  | 0, i, h, e => by rw [List.drop_eq_nil_of_le (by omega)] at e; cases e
  | n + 1, i, h, e => by
    by_cases hi : i < l.length
    · have hx : l[i]? = some l[i] := List.getElem?_eq_getElem hi
      cases hf : findIn l[i] i (i + 1) (l.drop (i + 1)) with
      | some g =>
        rw [findAll_at hx hf] at e
        obtain ⟨m, y, h1, h2, h3, h4⟩ := findIn_some l.length (i + 1) (by omega) hf
        exact ⟨i, m, l[i], y, by omega, hx, h2, h3, by rw [← Option.some.inj e]; exact h4⟩
      | none => rw [findAll_step hx hf] at e; exact findAll_some n (i + 1) (by omega) e
    · rw [List.drop_eq_nil_of_le (by omega)] at e; cases e
theorem auditFind_is {l : List (List HeadD)} (h : (auditFind l).2.2 = 0) (hi : (auditFind l).2.1 = true) : ∃ (j m : Nat) (x y : List HeadD), j < m ∧ l[j]? = some x ∧ l[m]? = some y ∧ (chainFork x y).2 = 0 ∧ (auditFind l).1 = ⟨(j : Int), (m : Int), (chainFork x y).1⟩ := by
  unfold auditFind at h hi ⊢
  split at h
  · contradiction
  · rename_i h1
    rw [if_neg h1] at hi ⊢
    cases hf : findAll l 0 with
    | none => rw [hf] at hi; cases hi
    | some f =>
      obtain ⟨j, m, x, y, e1, e2, e3, e4, e5⟩ := findAll_some (l := l) (f := f) l.length 0 (by omega) (by simpa using hf)
      unfold forkOk at e4
      simp only [Bool.and_eq_true, decide_eq_true_eq] at e4
      exact ⟨j, m, x, y, e1, e2, e3, e4.1, e5⟩
theorem auditFind_bd {l : List (List HeadD)} (h : (auditFind l).2.2 = 0) (hi : (auditFind l).2.1 = true) : 0 ≤ (auditFind l).1.a ∧ (auditFind l).1.a < (auditFind l).1.b ∧ (auditFind l).1.b < l.length := by
  obtain ⟨j, m, x, y, e1, e2, e3, e4, e5⟩ := auditFind_is h hi
  have := (List.getElem?_eq_some_iff.1 e3).1
  rw [e5]; simp only; omega
theorem auditFind_fork {l : List (List HeadD)} (h : (auditFind l).2.2 = 0) (hi : (auditFind l).2.1 = true) {p q : Nat} {x y : List HeadD} (hp : (auditFind l).1.a = (p : Int)) (hq : (auditFind l).1.b = (q : Int)) (hx : l[p]? = some x) (hy : l[q]? = some y) : (chainFork x y).2 = 0 ∧ (chainFork x y).1 = (auditFind l).1.epoch := by
  obtain ⟨j, m, x', y', e1, e2, e3, e4, e5⟩ := auditFind_is h hi
  rw [e5] at hp hq ⊢
  have : p = j := by simp only at hp; omega
  have : q = m := by simp only at hq; omega
  subst p q
  rw [hx] at e2; rw [hy] at e3
  rw [Option.some.inj e2, Option.some.inj e3]
  exact ⟨e4, rfl⟩
theorem auditFind_err {l : List (List HeadD)} (h : ¬ (auditFind l).2.2 = 0) : (auditFind l).1 = foundZ ∧ (auditFind l).2.1 = false := by
  revert h; unfold auditFind; split
  · simp
  · cases findAll l 0 <;> simp [foundR]
theorem findIn_none {a : List HeadD} {i : Nat} : ∀ (r : List (List HeadD)) (k : Nat), (∀ y ∈ r, forkOk a y = false) → findIn a i k r = none
  | [], _, _ => rfl
  | y :: r, k, h => by
    show (if forkOk a y = true then _ else _) = _
    rw [if_neg (by rw [h y (by simp)]; simp)]
    exact findIn_none r (k + 1) fun z hz => h z (by simp [hz])
theorem findAll_none : ∀ (r : List (List HeadD)) (k : Nat), (∀ x ∈ r, ∀ y ∈ r, forkOk x y = false) → findAll r k = none
  | [], _, _ => rfl
  | a :: r, k, h => by
    show (match findIn a k (k + 1) r with | some f => some f | none => findAll r (k + 1)) = _
    rw [findIn_none r (k + 1) fun y hy => h a (by simp) y (by simp [hy])]
    exact findAll_none r (k + 1) fun x hx y hy => h x (by simp [hx]) y (by simp [hy])
structure PartsInv (a : List HeadD) (i : Nat) (ps : List (List HeadD)) : Prop where
  len : ps.length ≤ i
  len8 : ps.length ≤ 8
  parts : ∀ p ∈ ps, ∃ u v, (chainPart a u v).2 = 0 ∧ p = (chainPart a u v).1
theorem parts_start (a : List HeadD) : PartsInv a 0 [] := ⟨by simp, by simp, by simp⟩
theorem parts_skip {a : List HeadD} {i : Nat} {ps : List (List HeadD)} (h : PartsInv a i ps) : PartsInv a (i + 1) ps := ⟨by have := h.len; omega, h.len8, h.parts⟩
theorem parts_add {a : List HeadD} {i : Nat} {ps : List (List HeadD)} (h : PartsInv a i ps) {u v : Int} (h1 : (chainPart a u v).2 = 0) (h2 : i < 8) : PartsInv a (i + 1) (ps ++ [(chainPart a u v).1]) := by
  refine ⟨by have := h.len; simp; omega, by have := h.len; simp; omega, fun p hp => ?_⟩
  rcases List.mem_append.1 hp with hp | hp
  · exact h.parts p hp
  · exact ⟨u, v, h1, List.mem_singleton.1 hp⟩
theorem parts_end {a : List HeadD} {i : Nat} {ps : List (List HeadD)} (h : PartsInv a i ps) : (auditFind ps).2.2 = 0 ∧ (auditFind ps).2.1 = false := by
  have hk : ∀ p ∈ ps, ChainOk a ∧ ChainOk p ∧ ∀ x ∈ p, x ∈ a := by
    intro p hp
    obtain ⟨u, v, h1, rfl⟩ := h.parts p hp
    obtain ⟨e1, e2, e3, e4, e5⟩ := chainPart_ok h1
    rw [e5]
    exact ⟨e1, (cut_ok e1 e2 e3 e4).1, fun x hx => List.mem_of_mem_take (List.mem_of_mem_drop hx)⟩
  have hf : findAll ps 0 = none := findAll_none ps 0 fun x hx y hy => fork_parts (hk x hx).1 (hk x hx).2.2 (hk y hy).2.2
  unfold auditFind
  rw [if_neg (by rw [auditCheck_of h.len8 fun x hx => (hk x hx).2.1]; simp), hf]
  exact ⟨rfl, rfl⟩
def saidL (l : List HeadD) : List (List UInt8) × Int := if (chainCheck l).1 ≠ 0 then ([], (chainCheck l).1) else (l.map fun h => (headSaid h).1, 0)
def auditRolled (l : List HeadD) : Int × Int := if (saidL l).2 ≠ 0 then (0, (saidL l).2) else rollRoot (saidL l).1
def auditGrew (l : List HeadD) (m : Int) : List Int × Int := if (saidL l).2 ≠ 0 then ([], (saidL l).2) else rollGrew (saidL l).1 m
theorem saidL_of {l : List HeadD} (h : ChainOk l) : saidL l = (l.map fun h => (headSaid h).1, 0) := by unfold saidL; rw [if_neg (by have := chainCheck_iff.2 h; omega)]
theorem saidL_ok {l : List HeadD} (h : (saidL l).2 = 0) : ChainOk l := by
  unfold saidL at h; split at h
  · contradiction
  · rename_i h1; exact chainCheck_iff.1 (Decidable.not_not.1 h1)
theorem auditGrew_err {l : List HeadD} {m : Int} (h : ¬ (auditGrew l m).2 = 0) : (auditGrew l m).1 = [] := by
  revert h; unfold auditGrew; split
  · simp
  · exact rollGrew_err
theorem auditGrew_ok {l : List HeadD} {m : Int} (h : (auditGrew l m).2 = 0) : ChainOk l ∧ 1 ≤ m ∧ m ≤ l.length ∧ (rollGrew (l.map fun h => (headSaid h).1) m).2 = 0 ∧ (auditGrew l m).1 = (rollGrew (l.map fun h => (headSaid h).1) m).1 := by
  unfold auditGrew at h ⊢
  split at h
  · contradiction
  · rename_i h1
    have hc := saidL_ok (Decidable.not_not.1 h1)
    rw [if_neg h1]
    rw [saidL_of hc] at h ⊢
    have := rollGrew_ok h
    simp at this
    exact ⟨hc, this.2.1, this.2.2.1, h, rfl⟩
theorem auditGrew_law {l : List HeadD} {k : Nat} (h : (auditGrew l k).2 = 0) : (auditRolled (l.take k)).2 = 0 ∧ (auditRolled l).2 = 0 ∧ rollIsGrown (auditRolled (l.take k)).1 k (auditRolled l).1 l.length (auditGrew l k).1 = (true, 0) := by
  obtain ⟨h1, h2, h3, h4, h5⟩ := auditGrew_ok h
  have hk : ChainOk (l.take k) := by have := h1.sub (a := 0) (b := k) (by omega) (by omega); simpa using this
  have e1 : auditRolled l = rollRoot (l.map fun h => (headSaid h).1) := by unfold auditRolled; rw [saidL_of h1]; rfl
  have e2 : auditRolled (l.take k) = rollRoot ((l.map fun h => (headSaid h).1).take k) := by unfold auditRolled; rw [saidL_of hk, List.map_take]; rfl
  have := rollGrew_law h4
  rw [List.length_map] at this
  rw [h5, e1, e2]
  exact ⟨this.2.2.2, this.2.2.1, this.1⟩
def auditLongest0 (l : List (List HeadD)) : Int × Int := (0, 5)

theorem auditCheck_con (G : Mem) (a_l : Option Addr) (c_l : Nat) (l : List (List HeadD)) (h_l : RS ESlHead G a_l c_l l)  : Con Try.prog 96 #[Sl a_l l.length c_l] G [] (fun u G' L' => u = I (auditCheck l)) := by
  refine con_of Try.func96 25 [(0, Sl a_l l.length c_l)] rfl (fun w0 G0 => ?_)
  refine tc_rb [0] [(0, Sl a_l l.length c_l), (2, I 0)] ?_
  refine tc_seq ?_
  refine tc_rb [0,0,0] [(0, Sl a_l l.length c_l), (2, I 0), (9, Bo (decide (((l.length : Nat) : Int) > 8)))] ?_
  refine tc_cond (decide (((l.length : Nat) : Int) > 8)) (fun h1 => ?_) (fun h1 => ?_)
  ·
    try simp only [decide_eq_true_eq, decide_eq_false_iff_not, Bool.and_eq_true, Bool.or_eq_true, Bool.and_eq_false_imp, Bool.or_eq_false_iff, Bool.not_eq_true', Bool.not_eq_false', Bool.not_eq_true, Bool.not_eq_false, beq_iff_eq, beq_eq_false_iff_ne, bne_iff_ne, ne_eq, Decidable.not_not, Int.not_lt, Int.not_le] at h1
    refine tc_rb [0] [(0, Sl a_l l.length c_l), (2, I 2), (9, Bo (decide (((l.length : Nat) : Int) > 8)))] ?_
    refine tc_ret ?_
    refine tq_then_ret ?_
    refine tq_ret [0] [I 2] (bp_ret (Mem.le_refl _) ?_)
    have hf_ : (auditCheck l) = 2 := by
      unfold auditCheck; first | (rw [if_pos (by omega)]; done) | (rw [if_neg (by omega), hn]; first | exact checkAll_at hx1 (by assumption) | (rw [List.drop_eq_nil_of_le (by omega)]; rfl))
    (try rw [hf_]); first | with_reducible rfl | (simp only [packR]; done) | rfl
  ·
    try simp only [decide_eq_true_eq, decide_eq_false_iff_not, Bool.and_eq_true, Bool.or_eq_true, Bool.and_eq_false_imp, Bool.or_eq_false_iff, Bool.not_eq_true', Bool.not_eq_false', Bool.not_eq_true, Bool.not_eq_false, beq_iff_eq, beq_eq_false_iff_ne, bne_iff_ne, ne_eq, Decidable.not_not, Int.not_lt, Int.not_le] at h1
    refine tc_skip ?_
    refine tq_then ?_
    refine tc_seq ?_
    refine tc_rb [0,0,0] [(0, Sl a_l l.length c_l), (2, I 0), (9, Bo (decide (((l.length : Nat) : Int) > 8))), (10, Sl a_l l.length c_l), (11, I (((l.length : Nat) : Int))), (12, I 0)] ?_
    refine tc_block ?_
    have hlm_h_l : l.length ≤ 9223372036854775807 := Nat.le_trans (h_l).le (h_l).max
    refine tc_loop (σ := Nat) (fun q_ => (q_ ≤ l.length) ∧ (checkAll l = checkAll (l.drop q_))) (fun q_ => [(0, Sl a_l l.length c_l), (9, Bo (decide (((l.length : Nat) : Int) > 8))), (10, Sl a_l l.length c_l), (11, I (((l.length : Nat) : Int))), (12, I ((q_ : Int)))]) (fun q_ => G) (fun q_ => []) (fun q_ => l.length - q_) 0 ⟨(by (try dsimp only); first | exact Nat.zero_le _ | omega | simp), rfl⟩ (fun q_ hs => ?_)
    revert hs; revert q_; intro i hs
    obtain ⟨hi, hn⟩ := hs
    refine tc_eq (fr' := [(0, Sl a_l l.length c_l), (9, Bo (decide (((l.length : Nat) : Int) > 8))), (10, Sl a_l l.length c_l), (11, I (((l.length : Nat) : Int))), (12, I ((i : Int)))]) (L' := []) rfl rfl ?_
    refine tc_rb [0] [(0, Sl a_l l.length c_l), (9, Bo (decide (((l.length : Nat) : Int) > 8))), (10, Sl a_l l.length c_l), (11, I (((l.length : Nat) : Int))), (12, I ((i : Int))), (13, Bo (decide ((i : Int) < ((l.length : Nat) : Int))))] ?_
    refine tc_seq ?_
    refine tc_cond (decide ((i : Int) < ((l.length : Nat) : Int))) (fun h2 => ?_) (fun h2 => ?_)
    ·
      try simp only [decide_eq_true_eq, decide_eq_false_iff_not, Bool.and_eq_true, Bool.or_eq_true, Bool.and_eq_false_imp, Bool.or_eq_false_iff, Bool.not_eq_true', Bool.not_eq_false', Bool.not_eq_true, Bool.not_eq_false, beq_iff_eq, beq_eq_false_iff_ne, bne_iff_ne, ne_eq, Decidable.not_not, Int.not_lt, Int.not_le] at h2
      refine tc_skip ?_
      refine tq_then ?_
      refine tc_seq ?_
      refine tc_block ?_
      refine tc_seq ?_
      refine tc_region ?_
      obtain ⟨b1, o1, rfl⟩ := RS.addr h_l (k := i) (by omega)
      obtain ⟨x1, hx1⟩ := getX (l := l) (k := i) (by omega)
      obtain ⟨_, ⟨a1, c1, rfl, hs1⟩, hc1⟩ := RS.get h_l hx1
      refine runL_idx (b := b1) (off := o1) (len := l.length) (cap := c_l) (ik := .i64) 14 25 1 i (by omega) ?_
      refine runL_ldG 15 25 (cs := [Sl a1 x1.length c1]) 0 (Sl a1 x1.length c1) hc1 ?_
      refine runL_b [0] [(0, Sl (At b1 o1) l.length c_l), (4, Sl a1 x1.length c1), (9, Bo (decide (((l.length : Nat) : Int) > 8))), (10, Sl (At b1 o1) l.length c_l), (11, I (((l.length : Nat) : Int))), (12, I ((i : Int))), (13, Bo (decide ((i : Int) < ((l.length : Nat) : Int))))] ?_
      refine runL_nil ?_
      refine tq_then ?_
      refine tc_seq ?_
      refine tc_region ?_
      refine runL_b [0] [(0, Sl (At b1 o1) l.length c_l), (4, Sl a1 x1.length c1), (9, Bo (decide (((l.length : Nat) : Int) > 8))), (10, Sl (At b1 o1) l.length c_l), (11, I (((l.length : Nat) : Int))), (12, I ((i : Int))), (13, Bo (decide ((i : Int) < ((l.length : Nat) : Int)))), (17, Sl a1 x1.length c1)] ?_
      refine runL_callV 18 (.tuple #[I ((chainCheck x1).1), I ((chainCheck x1).2)]) (chainCheck_con G a1 c1 x1 hs1) ?_
      refine runL_b [0,0,0,0,0] [(0, Sl (At b1 o1) l.length c_l), (4, Sl a1 x1.length c1), (5, I ((chainCheck x1).1)), (9, Bo (decide (((l.length : Nat) : Int) > 8))), (10, Sl (At b1 o1) l.length c_l), (11, I (((l.length : Nat) : Int))), (12, I ((i : Int))), (13, Bo (decide ((i : Int) < ((l.length : Nat) : Int))))] ?_
      refine runL_nil ?_
      refine tq_then ?_
      refine tc_rb [0,0] [(0, Sl (At b1 o1) l.length c_l), (4, Sl a1 x1.length c1), (5, I ((chainCheck x1).1)), (9, Bo (decide (((l.length : Nat) : Int) > 8))), (10, Sl (At b1 o1) l.length c_l), (11, I (((l.length : Nat) : Int))), (12, I ((i : Int))), (13, Bo (decide ((i : Int) < ((l.length : Nat) : Int)))), (22, Bo (!decide ((chainCheck x1).1 = 0)))] ?_
      refine tc_cond (!decide ((chainCheck x1).1 = 0)) (fun h3 => ?_) (fun h3 => ?_)
      ·
        try simp only [decide_eq_true_eq, decide_eq_false_iff_not, Bool.and_eq_true, Bool.or_eq_true, Bool.and_eq_false_imp, Bool.or_eq_false_iff, Bool.not_eq_true', Bool.not_eq_false', Bool.not_eq_true, Bool.not_eq_false, beq_iff_eq, beq_eq_false_iff_ne, bne_iff_ne, ne_eq, Decidable.not_not, Int.not_lt, Int.not_le] at h3
        refine tc_rb [0,0] [(0, Sl (At b1 o1) l.length c_l), (2, I ((chainCheck x1).1)), (4, Sl a1 x1.length c1), (5, I ((chainCheck x1).1)), (9, Bo (decide (((l.length : Nat) : Int) > 8))), (10, Sl (At b1 o1) l.length c_l), (11, I (((l.length : Nat) : Int))), (12, I ((i : Int))), (13, Bo (decide ((i : Int) < ((l.length : Nat) : Int)))), (22, Bo (!decide ((chainCheck x1).1 = 0)))] ?_
        refine tc_ret ?_
        refine tq_block_ret ?_
        refine tq_then_ret ?_
        refine tq_rnd_ret ?_
        refine tq_block_ret ?_
        refine tq_then_ret ?_
        refine tq_ret [0] [I ((chainCheck x1).1)] (bp_ret (Mem.le_refl _) ?_)
        have hf_ : (auditCheck l) = ((chainCheck x1).1) := by
          unfold auditCheck; first | (rw [if_pos (by omega)]; done) | (rw [if_neg (by omega), hn]; first | exact checkAll_at hx1 (by assumption) | (rw [List.drop_eq_nil_of_le (by omega)]; rfl))
        (try rw [hf_]); first | with_reducible rfl | (simp only [packR]; done) | rfl
      ·
        try simp only [decide_eq_true_eq, decide_eq_false_iff_not, Bool.and_eq_true, Bool.or_eq_true, Bool.and_eq_false_imp, Bool.or_eq_false_iff, Bool.not_eq_true', Bool.not_eq_false', Bool.not_eq_true, Bool.not_eq_false, beq_iff_eq, beq_eq_false_iff_ne, bne_iff_ne, ne_eq, Decidable.not_not, Int.not_lt, Int.not_le] at h3
        refine tc_skip ?_
        refine tq_block ?_
        refine tq_then ?_
        refine tc_region ?_
        refine runL_b [0,0] [(0, Sl (At b1 o1) l.length c_l), (4, Sl a1 x1.length c1), (5, I ((chainCheck x1).1)), (9, Bo (decide (((l.length : Nat) : Int) > 8))), (10, Sl (At b1 o1) l.length c_l), (11, I (((l.length : Nat) : Int))), (12, I (IntKind.i64.wrap (((i : Int)) + 1))), (13, Bo (decide ((i : Int) < ((l.length : Nat) : Int)))), (22, Bo (!decide ((chainCheck x1).1 = 0)))] ?_
        have e1 : IntKind.i64.wrap (((i : Int)) + 1) = ((i : Int)) + 1 := IntWalk.i64_in _ (by omega)
        refine runL_eq (fr' := [(0, Sl (At b1 o1) l.length c_l), (4, Sl a1 x1.length c1), (5, I ((chainCheck x1).1)), (9, Bo (decide (((l.length : Nat) : Int) > 8))), (10, Sl (At b1 o1) l.length c_l), (11, I (((l.length : Nat) : Int))), (12, I (((i : Int)) + 1)), (13, Bo (decide ((i : Int) < ((l.length : Nat) : Int)))), (22, Bo (!decide ((chainCheck x1).1 = 0)))]) (L' := []) (by simp only [e1]) (by rfl) ?_
        clear e1
        refine runL_nil ?_
        exact tq_rnd (i + 1) ⟨(by omega), (by rw [hn]; exact checkAll_step hx1 (by assumption))⟩ (by (try dsimp only); omega)
    ·
      try simp only [decide_eq_true_eq, decide_eq_false_iff_not, Bool.and_eq_true, Bool.or_eq_true, Bool.and_eq_false_imp, Bool.or_eq_false_iff, Bool.not_eq_true', Bool.not_eq_false', Bool.not_eq_true, Bool.not_eq_false, beq_iff_eq, beq_eq_false_iff_ne, bne_iff_ne, ne_eq, Decidable.not_not, Int.not_lt, Int.not_le] at h2
      refine tc_exit ?_
      refine tq_then_exit ?_
      refine tq_rnd_exit ?_
      refine tq_block_here ?_
      refine tq_then ?_
      refine tc_rb [0] [(0, Sl a_l l.length c_l), (2, I 0), (9, Bo (decide (((l.length : Nat) : Int) > 8))), (10, Sl a_l l.length c_l), (11, I (((l.length : Nat) : Int))), (12, I ((i : Int))), (13, Bo (decide ((i : Int) < ((l.length : Nat) : Int))))] ?_
      refine tc_ret ?_
      refine tq_ret [0] [I 0] (bp_ret (Mem.le_refl _) ?_)
      have hf_ : (auditCheck l) = 0 := by
        unfold auditCheck; first | (rw [if_pos (by omega)]; done) | (rw [if_neg (by omega), hn]; first | exact checkAll_at hx1 (by assumption) | (rw [List.drop_eq_nil_of_le (by omega)]; rfl))
      (try rw [hf_]); first | with_reducible rfl | (simp only [packR]; done) | rfl

theorem auditFind_con (G : Mem) (a_l : Option Addr) (c_l : Nat) (l : List (List HeadD)) (h_l : RS ESlHead G a_l c_l l)  : Con Try.prog 48 #[Sl a_l l.length c_l] G [] (fun u G' L' => u = .tuple #[.agg #[I (((auditFind l).1).a), I (((auditFind l).1).b), I (((auditFind l).1).epoch)], Bo ((auditFind l).2.1), I ((auditFind l).2.2)]) := by
  refine con_of Try.func48 53 [(0, Sl a_l l.length c_l)] rfl (fun w0 G0 => ?_)
  refine tc_seq ?_
  refine tc_region ?_
  refine runL_box 2 #[I 0, I 0, I 0] 88 (fun b1 => ?_)
  refine runL_b [0,0] [(0, Sl a_l l.length c_l), (2, Pt b1 0), (3, Bo false), (4, I 0)] ?_
  refine runL_nil ?_
  refine tq_then ?_
  refine tc_seq ?_
  refine tc_seq ?_
  refine tc_region ?_
  refine runL_b [0] [(0, Sl a_l l.length c_l), (2, Pt b1 0), (3, Bo false), (4, I 0), (11, Sl a_l l.length c_l)] ?_
  refine runL_callV 12 (I (auditCheck l)) (auditCheck_con G a_l c_l l h_l) ?_
  refine runL_b [0] [(0, Sl a_l l.length c_l), (2, Pt b1 0), (3, Bo false), (4, I 0), (5, I (auditCheck l))] ?_
  refine runL_nil ?_
  refine tq_then ?_
  refine tc_rb [0,0] [(0, Sl a_l l.length c_l), (2, Pt b1 0), (3, Bo false), (4, I 0), (5, I (auditCheck l)), (14, Bo (!decide (auditCheck l = 0)))] ?_
  refine tc_cond (!decide (auditCheck l = 0)) (fun h1 => ?_) (fun h1 => ?_)
  ·
    try simp only [decide_eq_true_eq, decide_eq_false_iff_not, Bool.and_eq_true, Bool.or_eq_true, Bool.and_eq_false_imp, Bool.or_eq_false_iff, Bool.not_eq_true', Bool.not_eq_false', Bool.not_eq_true, Bool.not_eq_false, beq_iff_eq, beq_eq_false_iff_ne, bne_iff_ne, ne_eq, Decidable.not_not, Int.not_lt, Int.not_le] at h1
    refine tc_rb [0,0,3,0,0] [(0, Sl a_l l.length c_l), (2, Pt b1 0), (3, Bo false), (4, I (auditCheck l)), (5, I (auditCheck l)), (14, Bo (!decide (auditCheck l = 0)))] ?_
    refine tc_ret ?_
    refine tq_then_ret ?_
    refine tq_ret [0, 0, 0] [.agg #[I 0, I 0, I 0], Bo false, I (auditCheck l)] (bp_ret (Mem.le_refl _) ?_)
    have hf_ : (auditFind l) = ((⟨0, 0, 0⟩ : FoundD), false, (auditCheck l)) := by
      unfold auditFind; first | (simp_all [foundZ]; done) | (rw [if_neg (by omega), hn]; first | (rw [findAll_at hx1 (by rw [hm]; exact findIn_at hx2 (by unfold forkOk; rw [Bool.eq_iff_iff]; simp_all))]; rfl) | (rw [List.drop_eq_nil_of_le (by omega)]; rfl))
    (try rw [hf_]); first | with_reducible rfl | (simp only [packR]; done) | rfl
  ·
    try simp only [decide_eq_true_eq, decide_eq_false_iff_not, Bool.and_eq_true, Bool.or_eq_true, Bool.and_eq_false_imp, Bool.or_eq_false_iff, Bool.not_eq_true', Bool.not_eq_false', Bool.not_eq_true, Bool.not_eq_false, beq_iff_eq, beq_eq_false_iff_ne, bne_iff_ne, ne_eq, Decidable.not_not, Int.not_lt, Int.not_le] at h1
    refine tc_skip ?_
    refine tq_then ?_
    refine tc_seq ?_
    refine tc_rb [0,0,0] [(0, Sl a_l l.length c_l), (2, Pt b1 0), (3, Bo false), (4, I 0), (5, I (auditCheck l)), (14, Bo (!decide (auditCheck l = 0))), (17, Sl a_l l.length c_l), (18, I (((l.length : Nat) : Int))), (19, I 0)] ?_
    refine tc_block ?_
    have hlm_h_l : l.length ≤ 9223372036854775807 := Nat.le_trans (h_l).le (h_l).max
    refine tc_loop (σ := Nat) (fun q_ => (q_ ≤ l.length) ∧ (findAll l 0 = findAll (l.drop q_) q_)) (fun q_ => [(0, Sl a_l l.length c_l), (2, Pt b1 0), (5, I (auditCheck l)), (14, Bo (!decide (auditCheck l = 0))), (17, Sl a_l l.length c_l), (18, I (((l.length : Nat) : Int))), (19, I ((q_ : Int)))]) (fun q_ => G) (fun q_ => [[Sg b1 0 [I 0, I 0, I 0]]]) (fun q_ => l.length - q_) 0 ⟨(by (try dsimp only); first | exact Nat.zero_le _ | omega | simp), rfl⟩ (fun q_ hs => ?_)
    revert hs; revert q_; intro i hs
    obtain ⟨hi, hn⟩ := hs
    refine tc_eq (fr' := [(0, Sl a_l l.length c_l), (2, Pt b1 0), (5, I (auditCheck l)), (14, Bo (!decide (auditCheck l = 0))), (17, Sl a_l l.length c_l), (18, I (((l.length : Nat) : Int))), (19, I ((i : Int)))]) (L' := [[Sg b1 0 [I 0, I 0, I 0]]]) rfl rfl ?_
    refine tc_rb [0] [(0, Sl a_l l.length c_l), (2, Pt b1 0), (5, I (auditCheck l)), (14, Bo (!decide (auditCheck l = 0))), (17, Sl a_l l.length c_l), (18, I (((l.length : Nat) : Int))), (19, I ((i : Int))), (20, Bo (decide ((i : Int) < ((l.length : Nat) : Int))))] ?_
    refine tc_seq ?_
    refine tc_cond (decide ((i : Int) < ((l.length : Nat) : Int))) (fun h2 => ?_) (fun h2 => ?_)
    ·
      try simp only [decide_eq_true_eq, decide_eq_false_iff_not, Bool.and_eq_true, Bool.or_eq_true, Bool.and_eq_false_imp, Bool.or_eq_false_iff, Bool.not_eq_true', Bool.not_eq_false', Bool.not_eq_true, Bool.not_eq_false, beq_iff_eq, beq_eq_false_iff_ne, bne_iff_ne, ne_eq, Decidable.not_not, Int.not_lt, Int.not_le] at h2
      refine tc_skip ?_
      refine tq_then ?_
      refine tc_seq ?_
      refine tc_block ?_
      refine tc_seq ?_
      refine tc_region ?_
      refine runL_b [0] [(0, Sl a_l l.length c_l), (2, Pt b1 0), (5, I (auditCheck l)), (14, Bo (!decide (auditCheck l = 0))), (17, Sl a_l l.length c_l), (18, I (((l.length : Nat) : Int))), (19, I ((i : Int))), (20, Bo (decide ((i : Int) < ((l.length : Nat) : Int)))), (21, I ((i : Int)))] ?_
      obtain ⟨b2, o1, rfl⟩ := RS.addr h_l (k := i) (by omega)
      obtain ⟨x1, hx1⟩ := getX (l := l) (k := i) (by omega)
      obtain ⟨_, ⟨a1, c1, rfl, hs1⟩, hc1⟩ := RS.get h_l hx1
      refine runL_idx (b := b2) (off := o1) (len := l.length) (cap := c_l) (ik := .i64) 22 25 1 i (by omega) ?_
      refine runL_ldG 23 25 (cs := [Sl a1 x1.length c1]) 0 (Sl a1 x1.length c1) hc1 ?_
      refine runL_b [0,0] [(0, Sl (At b2 o1) l.length c_l), (2, Pt b1 0), (5, I (auditCheck l)), (6, I ((i : Int))), (7, Sl a1 x1.length c1), (14, Bo (!decide (auditCheck l = 0))), (17, Sl (At b2 o1) l.length c_l), (18, I (((l.length : Nat) : Int))), (19, I ((i : Int))), (20, Bo (decide ((i : Int) < ((l.length : Nat) : Int))))] ?_
      refine runL_nil ?_
      refine tq_then ?_
      refine tc_rb [0,0,0] [(0, Sl (At b2 o1) l.length c_l), (2, Pt b1 0), (5, I (auditCheck l)), (6, I ((i : Int))), (7, Sl a1 x1.length c1), (8, I (IntKind.i64.wrap (((i : Int)) + 1))), (14, Bo (!decide (auditCheck l = 0))), (17, Sl (At b2 o1) l.length c_l), (18, I (((l.length : Nat) : Int))), (19, I ((i : Int))), (20, Bo (decide ((i : Int) < ((l.length : Nat) : Int))))] ?_
      have e1 : IntKind.i64.wrap (((i : Int)) + 1) = ((i : Int)) + 1 := IntWalk.i64_in _ (by omega)
      refine tc_eq (fr' := [(0, Sl (At b2 o1) l.length c_l), (2, Pt b1 0), (5, I (auditCheck l)), (6, I ((i : Int))), (7, Sl a1 x1.length c1), (8, I (((i : Int)) + 1)), (14, Bo (!decide (auditCheck l = 0))), (17, Sl (At b2 o1) l.length c_l), (18, I (((l.length : Nat) : Int))), (19, I ((i : Int))), (20, Bo (decide ((i : Int) < ((l.length : Nat) : Int))))]) (L' := [[Sg b1 0 [I 0, I 0, I 0]]]) (by simp only [e1]) (by rfl) ?_
      clear e1
      refine tc_block ?_
      have hlm_h_l : l.length ≤ 9223372036854775807 := Nat.le_trans (h_l).le (h_l).max
      have hlm_hs1 : x1.length ≤ 9223372036854775807 := Nat.le_trans (hs1).le (hs1).max
      refine tc_loop (σ := Nat) (fun q_ => (i + 1 ≤ q_ ∧ (q_ ≤ l.length ∨ q_ = i + 1)) ∧ (findIn x1 i (i + 1) (l.drop (i + 1)) = findIn x1 i q_ (l.drop q_))) (fun q_ => [(0, Sl (At b2 o1) l.length c_l), (2, Pt b1 0), (5, I (auditCheck l)), (6, I ((i : Int))), (7, Sl a1 x1.length c1), (8, I ((q_ : Int))), (14, Bo (!decide (auditCheck l = 0))), (17, Sl (At b2 o1) l.length c_l), (18, I (((l.length : Nat) : Int))), (19, I ((i : Int))), (20, Bo (decide ((i : Int) < ((l.length : Nat) : Int))))]) (fun q_ => G) (fun q_ => [[Sg b1 0 [I 0, I 0, I 0]]]) (fun q_ => l.length - q_) (i + 1) ⟨⟨Nat.le_refl _, .inr rfl⟩, rfl⟩ (fun q_ hs => ?_)
      revert hs; revert q_; intro k hs
      obtain ⟨hk, hm⟩ := hs
      refine tc_eq (fr' := [(0, Sl (At b2 o1) l.length c_l), (2, Pt b1 0), (5, I (auditCheck l)), (6, I ((i : Int))), (7, Sl a1 x1.length c1), (8, I ((k : Int))), (14, Bo (!decide (auditCheck l = 0))), (17, Sl (At b2 o1) l.length c_l), (18, I (((l.length : Nat) : Int))), (19, I ((i : Int))), (20, Bo (decide ((i : Int) < ((l.length : Nat) : Int))))]) (L' := [[Sg b1 0 [I 0, I 0, I 0]]]) rfl rfl ?_
      refine tc_seq ?_
      refine tc_rb [0,0,0,0] [(0, Sl (At b2 o1) l.length c_l), (2, Pt b1 0), (5, I (auditCheck l)), (6, I ((i : Int))), (7, Sl a1 x1.length c1), (8, I ((k : Int))), (14, Bo (!decide (auditCheck l = 0))), (17, Sl (At b2 o1) l.length c_l), (18, I (((l.length : Nat) : Int))), (19, I ((i : Int))), (20, Bo (decide ((i : Int) < ((l.length : Nat) : Int)))), (29, Bo (decide ((k : Int) < ((l.length : Nat) : Int))))] ?_
      refine tc_cond (decide ((k : Int) < ((l.length : Nat) : Int))) (fun h3 => ?_) (fun h3 => ?_)
      ·
        try simp only [decide_eq_true_eq, decide_eq_false_iff_not, Bool.and_eq_true, Bool.or_eq_true, Bool.and_eq_false_imp, Bool.or_eq_false_iff, Bool.not_eq_true', Bool.not_eq_false', Bool.not_eq_true, Bool.not_eq_false, beq_iff_eq, beq_eq_false_iff_ne, bne_iff_ne, ne_eq, Decidable.not_not, Int.not_lt, Int.not_le] at h3
        refine tc_skip ?_
        refine tq_then ?_
        refine tc_seq ?_
        refine tc_block ?_
        refine tc_seq ?_
        refine tc_region ?_
        refine runL_b [0,0,0] [(0, Sl (At b2 o1) l.length c_l), (2, Pt b1 0), (5, I (auditCheck l)), (6, I ((i : Int))), (7, Sl a1 x1.length c1), (8, I ((k : Int))), (14, Bo (!decide (auditCheck l = 0))), (17, Sl (At b2 o1) l.length c_l), (18, I (((l.length : Nat) : Int))), (19, I ((i : Int))), (20, Bo (decide ((i : Int) < ((l.length : Nat) : Int)))), (29, Bo (decide ((k : Int) < ((l.length : Nat) : Int)))), (33, Sl a1 x1.length c1), (34, Sl (At b2 o1) l.length c_l), (35, I ((k : Int)))] ?_
        obtain ⟨x2, hx2⟩ := getX (l := l) (k := k) (by omega)
        obtain ⟨_, ⟨a2, c2, rfl, hs2⟩, hc2⟩ := RS.get h_l hx2
        refine runL_idx (b := b2) (off := o1) (len := l.length) (cap := c_l) (ik := .i64) 36 25 1 k (by omega) ?_
        refine runL_ldG 37 25 (cs := [Sl a2 x2.length c2]) 0 (Sl a2 x2.length c2) hc2 ?_
        refine runL_callV 38 (.tuple #[I ((chainFork x1 x2).1), I ((chainFork x1 x2).2)]) (chainFork_con G a1 c1 x1 hs1 a2 c2 x2 hs2) ?_
        refine runL_b [0,0,0,0,0] [(0, Sl (At b2 o1) l.length c_l), (2, Pt b1 0), (5, I (auditCheck l)), (6, I ((i : Int))), (7, Sl a1 x1.length c1), (8, I ((k : Int))), (9, I ((chainFork x1 x2).1)), (10, I ((chainFork x1 x2).2)), (14, Bo (!decide (auditCheck l = 0))), (17, Sl (At b2 o1) l.length c_l), (18, I (((l.length : Nat) : Int))), (19, I ((i : Int))), (20, Bo (decide ((i : Int) < ((l.length : Nat) : Int)))), (29, Bo (decide ((k : Int) < ((l.length : Nat) : Int))))] ?_
        refine runL_nil ?_
        refine tq_then ?_
        refine tc_seq ?_
        refine tc_region ?_
        refine runL_b [0,0,0] [(0, Sl (At b2 o1) l.length c_l), (2, Pt b1 0), (5, I (auditCheck l)), (6, I ((i : Int))), (7, Sl a1 x1.length c1), (8, I ((k : Int))), (9, I ((chainFork x1 x2).1)), (10, I ((chainFork x1 x2).2)), (14, Bo (!decide (auditCheck l = 0))), (17, Sl (At b2 o1) l.length c_l), (18, I (((l.length : Nat) : Int))), (19, I ((i : Int))), (20, Bo (decide ((i : Int) < ((l.length : Nat) : Int)))), (29, Bo (decide ((k : Int) < ((l.length : Nat) : Int)))), (43, Bo (decide ((chainFork x1 x2).2 = 0)))] ?_
        refine runL_b2 (decide ((chainFork x1 x2).2 = 0)) (fun bb => [(0, Sl (At b2 o1) l.length c_l), (2, Pt b1 0), (5, I (auditCheck l)), (6, I ((i : Int))), (7, Sl a1 x1.length c1), (8, I ((k : Int))), (9, I ((chainFork x1 x2).1)), (10, I ((chainFork x1 x2).2)), (14, Bo (!decide (auditCheck l = 0))), (17, Sl (At b2 o1) l.length c_l), (18, I (((l.length : Nat) : Int))), (19, I ((i : Int))), (20, Bo (decide ((i : Int) < ((l.length : Nat) : Int)))), (29, Bo (decide ((k : Int) < ((l.length : Nat) : Int)))), (43, Bo bb)]) [0,0,0] [1,1,0] (fun bb => [(0, Sl (At b2 o1) l.length c_l), (2, Pt b1 0), (5, I (auditCheck l)), (6, I ((i : Int))), (7, Sl a1 x1.length c1), (8, I ((k : Int))), (9, I ((chainFork x1 x2).1)), (10, I ((chainFork x1 x2).2)), (14, Bo (!decide (auditCheck l = 0))), (17, Sl (At b2 o1) l.length c_l), (18, I (((l.length : Nat) : Int))), (19, I ((i : Int))), (20, Bo (decide ((i : Int) < ((l.length : Nat) : Int)))), (29, Bo (decide ((k : Int) < ((l.length : Nat) : Int)))), (46, Bo (bb && (decide ((chainFork x1 x2).1 ≥ 0))))]) ?_
        refine runL_nil ?_
        refine tq_then ?_
        refine tc_cond ((decide ((chainFork x1 x2).2 = 0)) && (decide ((chainFork x1 x2).1 ≥ 0))) (fun h4 => ?_) (fun h4 => ?_)
        ·
          try simp only [decide_eq_true_eq, decide_eq_false_iff_not, Bool.and_eq_true, Bool.or_eq_true, Bool.and_eq_false_imp, Bool.or_eq_false_iff, Bool.not_eq_true', Bool.not_eq_false', Bool.not_eq_true, Bool.not_eq_false, beq_iff_eq, beq_eq_false_iff_ne, bne_iff_ne, ne_eq, Decidable.not_not, Int.not_lt, Int.not_le] at h4
          refine tc_rbs [0,0,0,0,3,0,0] [(0, Sl (At b2 o1) l.length c_l), (2, Pt b1 0), (3, Bo true), (4, I 0), (5, I (auditCheck l)), (6, I ((i : Int))), (7, Sl a1 x1.length c1), (8, I ((k : Int))), (9, I ((chainFork x1 x2).1)), (10, I ((chainFork x1 x2).2)), (14, Bo (!decide (auditCheck l = 0))), (17, Sl (At b2 o1) l.length c_l), (18, I (((l.length : Nat) : Int))), (19, I ((i : Int))), (20, Bo (decide ((i : Int) < ((l.length : Nat) : Int)))), (29, Bo (decide ((k : Int) < ((l.length : Nat) : Int)))), (46, Bo ((decide ((chainFork x1 x2).2 = 0)) && (decide ((chainFork x1 x2).1 ≥ 0))))] [[Sg b1 0 [I ((i : Int)), I ((k : Int)), I ((chainFork x1 x2).1)]]] ?_
          refine tc_ret ?_
          refine tq_block_ret ?_
          refine tq_then_ret ?_
          refine tq_rnd_ret ?_
          refine tq_block_ret ?_
          refine tq_block_ret ?_
          refine tq_then_ret ?_
          refine tq_rnd_ret ?_
          refine tq_block_ret ?_
          refine tq_then_ret ?_
          refine tq_ret [0, 0, 0] [.agg #[I ((i : Int)), I ((k : Int)), I ((chainFork x1 x2).1)], Bo true, I 0] (bp_ret (Mem.le_refl _) ?_)
          have hf_ : (auditFind l) = ((⟨(i : Int), (k : Int), (chainFork x1 x2).1⟩ : FoundD), true, 0) := by
            unfold auditFind; first | (simp_all [foundZ]; done) | (rw [if_neg (by omega), hn]; first | (rw [findAll_at hx1 (by rw [hm]; exact findIn_at hx2 (by unfold forkOk; rw [Bool.eq_iff_iff]; simp_all))]; rfl) | (rw [List.drop_eq_nil_of_le (by omega)]; rfl))
          (try rw [hf_]); first | with_reducible rfl | (simp only [packR]; done) | rfl
        ·
          try simp only [decide_eq_true_eq, decide_eq_false_iff_not, Bool.and_eq_true, Bool.or_eq_true, Bool.and_eq_false_imp, Bool.or_eq_false_iff, Bool.not_eq_true', Bool.not_eq_false', Bool.not_eq_true, Bool.not_eq_false, beq_iff_eq, beq_eq_false_iff_ne, bne_iff_ne, ne_eq, Decidable.not_not, Int.not_lt, Int.not_le] at h4
          refine tc_skip ?_
          refine tq_block ?_
          refine tq_then ?_
          refine tc_region ?_
          refine runL_b [0,0,0] [(0, Sl (At b2 o1) l.length c_l), (2, Pt b1 0), (5, I (auditCheck l)), (6, I ((i : Int))), (7, Sl a1 x1.length c1), (8, I (IntKind.i64.wrap (((k : Int)) + 1))), (9, I ((chainFork x1 x2).1)), (10, I ((chainFork x1 x2).2)), (14, Bo (!decide (auditCheck l = 0))), (17, Sl (At b2 o1) l.length c_l), (18, I (((l.length : Nat) : Int))), (19, I ((i : Int))), (20, Bo (decide ((i : Int) < ((l.length : Nat) : Int)))), (29, Bo (decide ((k : Int) < ((l.length : Nat) : Int)))), (46, Bo ((decide ((chainFork x1 x2).2 = 0)) && (decide ((chainFork x1 x2).1 ≥ 0))))] ?_
          have e2 : IntKind.i64.wrap (((k : Int)) + 1) = ((k : Int)) + 1 := IntWalk.i64_in _ (by omega)
          refine runL_eq (fr' := [(0, Sl (At b2 o1) l.length c_l), (2, Pt b1 0), (5, I (auditCheck l)), (6, I ((i : Int))), (7, Sl a1 x1.length c1), (8, I (((k : Int)) + 1)), (9, I ((chainFork x1 x2).1)), (10, I ((chainFork x1 x2).2)), (14, Bo (!decide (auditCheck l = 0))), (17, Sl (At b2 o1) l.length c_l), (18, I (((l.length : Nat) : Int))), (19, I ((i : Int))), (20, Bo (decide ((i : Int) < ((l.length : Nat) : Int)))), (29, Bo (decide ((k : Int) < ((l.length : Nat) : Int)))), (46, Bo ((decide ((chainFork x1 x2).2 = 0)) && (decide ((chainFork x1 x2).1 ≥ 0))))]) (L' := [[Sg b1 0 [I 0, I 0, I 0]]]) (by simp only [e2]) (by rfl) ?_
          clear e2
          refine runL_nil ?_
          exact tq_rnd (k + 1) ⟨⟨by (try dsimp only); omega, .inl (by (try dsimp only); omega)⟩, (by rw [hm]; exact findIn_step hx2 (by unfold forkOk; rw [Bool.eq_iff_iff]; simp_all))⟩ (by (try dsimp only); omega)
      ·
        try simp only [decide_eq_true_eq, decide_eq_false_iff_not, Bool.and_eq_true, Bool.or_eq_true, Bool.and_eq_false_imp, Bool.or_eq_false_iff, Bool.not_eq_true', Bool.not_eq_false', Bool.not_eq_true, Bool.not_eq_false, beq_iff_eq, beq_eq_false_iff_ne, bne_iff_ne, ne_eq, Decidable.not_not, Int.not_lt, Int.not_le] at h3
        refine tc_exit ?_
        refine tq_then_exit ?_
        refine tq_rnd_exit ?_
        refine tq_block_here ?_
        refine tq_block ?_
        refine tq_then ?_
        refine tc_region ?_
        refine runL_b [0,0] [(0, Sl (At b2 o1) l.length c_l), (2, Pt b1 0), (5, I (auditCheck l)), (6, I ((i : Int))), (7, Sl a1 x1.length c1), (8, I ((k : Int))), (14, Bo (!decide (auditCheck l = 0))), (17, Sl (At b2 o1) l.length c_l), (18, I (((l.length : Nat) : Int))), (19, I (IntKind.i64.wrap (((i : Int)) + 1))), (20, Bo (decide ((i : Int) < ((l.length : Nat) : Int)))), (29, Bo (decide ((k : Int) < ((l.length : Nat) : Int))))] ?_
        have e3 : IntKind.i64.wrap (((i : Int)) + 1) = ((i : Int)) + 1 := IntWalk.i64_in _ (by omega)
        refine runL_eq (fr' := [(0, Sl (At b2 o1) l.length c_l), (2, Pt b1 0), (5, I (auditCheck l)), (6, I ((i : Int))), (7, Sl a1 x1.length c1), (8, I ((k : Int))), (14, Bo (!decide (auditCheck l = 0))), (17, Sl (At b2 o1) l.length c_l), (18, I (((l.length : Nat) : Int))), (19, I (((i : Int)) + 1)), (20, Bo (decide ((i : Int) < ((l.length : Nat) : Int)))), (29, Bo (decide ((k : Int) < ((l.length : Nat) : Int))))]) (L' := [[Sg b1 0 [I 0, I 0, I 0]]]) (by simp only [e3]) (by rfl) ?_
        clear e3
        refine runL_nil ?_
        exact tq_rnd (i + 1) ⟨(by omega), (by rw [hn]; exact findAll_step hx1 (by rw [hm, List.drop_eq_nil_of_le (by omega)]; rfl))⟩ (by (try dsimp only); omega)
    ·
      try simp only [decide_eq_true_eq, decide_eq_false_iff_not, Bool.and_eq_true, Bool.or_eq_true, Bool.and_eq_false_imp, Bool.or_eq_false_iff, Bool.not_eq_true', Bool.not_eq_false', Bool.not_eq_true, Bool.not_eq_false, beq_iff_eq, beq_eq_false_iff_ne, bne_iff_ne, ne_eq, Decidable.not_not, Int.not_lt, Int.not_le] at h2
      refine tc_exit ?_
      refine tq_then_exit ?_
      refine tq_rnd_exit ?_
      refine tq_block_here ?_
      refine tq_then ?_
      refine tc_rb [0,3,0,0] [(0, Sl a_l l.length c_l), (2, Pt b1 0), (3, Bo false), (4, I 0), (5, I (auditCheck l)), (14, Bo (!decide (auditCheck l = 0))), (17, Sl a_l l.length c_l), (18, I (((l.length : Nat) : Int))), (19, I ((i : Int))), (20, Bo (decide ((i : Int) < ((l.length : Nat) : Int))))] ?_
      refine tc_ret ?_
      refine tq_ret [0, 0, 0] [.agg #[I 0, I 0, I 0], Bo false, I 0] (bp_ret (Mem.le_refl _) ?_)
      have hf_ : (auditFind l) = ((⟨0, 0, 0⟩ : FoundD), false, 0) := by
        unfold auditFind; first | (simp_all [foundZ]; done) | (rw [if_neg (by omega), hn]; first | (rw [findAll_at hx1 (by rw [hm]; exact findIn_at hx2 (by unfold forkOk; rw [Bool.eq_iff_iff]; simp_all))]; rfl) | (rw [List.drop_eq_nil_of_le (by omega)]; rfl))
      (try rw [hf_]); first | with_reducible rfl | (simp only [packR]; done) | rfl

theorem auditLongest0_con (G : Mem) (a_l : Option Addr) (c_l : Nat) (l : List (List HeadD)) (h_l : RS ESlHead G a_l c_l l) (h0 : l.length = 0) : Con Try.prog 95 #[Sl a_l l.length c_l] G [] (fun u G' L' => u = .tuple #[I ((auditLongest0 l).1), I ((auditLongest0 l).2)]) := by
  refine con_of Try.func95 32 [(0, Sl a_l l.length c_l)] rfl (fun w0 G0 => ?_)
  refine tc_seq ?_
  refine tc_region ?_
  refine runL_box 1 #[Sl a_l l.length c_l] 85 (fun b1 => ?_)
  refine runL_b [0,0] [(1, Pt b1 0), (2, I 0), (3, I 0)] ?_
  refine runL_nil ?_
  refine tq_then ?_
  refine tc_seq ?_
  refine tc_rb [2,0,0] [(1, Pt b1 0), (2, I 0), (3, I 0), (10, Bo (decide (((l.length : Nat) : Int) = 0)))] ?_
  refine tc_cond (decide (((l.length : Nat) : Int) = 0)) (fun h1 => ?_) (fun h1 => ?_)
  ·
    try simp only [decide_eq_true_eq, decide_eq_false_iff_not, Bool.and_eq_true, Bool.or_eq_true, Bool.and_eq_false_imp, Bool.or_eq_false_iff, Bool.not_eq_true', Bool.not_eq_false', Bool.not_eq_true, Bool.not_eq_false, beq_iff_eq, beq_eq_false_iff_ne, bne_iff_ne, ne_eq, Decidable.not_not, Int.not_lt, Int.not_le] at h1
    refine tc_rb [0,0] [(1, Pt b1 0), (2, I 0), (3, I 5), (10, Bo (decide (((l.length : Nat) : Int) = 0)))] ?_
    refine tc_ret ?_
    refine tq_then_ret ?_
    refine tq_ret [0, 0] [I 0, I 5] (bp_ret (Mem.le_refl _) ?_)
    have hf_ : (auditLongest0 l) = (0, 5) := by
      rfl
    (try rw [hf_]); first | with_reducible rfl | (simp only [packR]; done) | rfl
  ·
    try simp only [decide_eq_true_eq, decide_eq_false_iff_not, Bool.and_eq_true, Bool.or_eq_true, Bool.and_eq_false_imp, Bool.or_eq_false_iff, Bool.not_eq_true', Bool.not_eq_false', Bool.not_eq_true, Bool.not_eq_false, beq_iff_eq, beq_eq_false_iff_ne, bne_iff_ne, ne_eq, Decidable.not_not, Int.not_lt, Int.not_le] at h1
    refine tc_skip ?_
    refine tq_then ?_
    refine tc_seq ?_
    exfalso; omega

theorem audits_con (G : Mem)   : Con Try.prog 47 #[] G [] (fun u G' L' => u = Bo true) := by
  refine con_of Try.func47 9 [] rfl (fun w0 G0 => ?_)
  refine tc_rb [0] [(0, Bo false)] ?_
  refine tc_seq ?_
  refine tc_region ?_
  refine runL_callV 4 (.tuple #[I ((auditLongest0 ([])).1), I ((auditLongest0 ([])).2)]) (auditLongest0_con G none 0 ([]) (RS.nil' ESlHead G) (by rfl)) ?_
  refine runL_b [0,0,0,0,0] [(0, Bo false), (2, I ((auditLongest0 ([])).2))] ?_
  refine runL_nil ?_
  refine tq_then ?_
  refine tc_rb [0,0,0] [(0, Bo (decide ((auditLongest0 ([])).2 = 5)))] ?_
  refine tc_ret ?_
  refine tq_ret [0] [Bo (decide ((auditLongest0 ([])).2 = 5))] (bp_ret (Mem.le_refl _) ?_)
  have hf_ : (decide ((auditLongest0 ([])).2 = 5)) = true := by
    first | rfl | decide
  exact congrArg Bo hf_

theorem saidL_con (G : Mem) (a_l : Option Addr) (c_l : Nat) (l : List HeadD) (h_l : RS EHead G a_l c_l l)  : Con Try.prog 98 #[Sl a_l l.length c_l] G [] (fun u G' L' => ∃ (a1 : Option Addr) (c2 : Nat), u = .tuple #[Sl a1 (((saidL l).1).length) c2, I ((saidL l).2)] ∧ (RS ES G' a1 c2 ((saidL l).1)) ∧ L' = []) := by
  refine con_of Try.func98 36 [(0, Sl a_l l.length c_l)] rfl (fun w0 G0 => ?_)
  refine tc_rb [0,0] [(0, Sl a_l l.length c_l), (2, Sl none 0 0), (3, I 0)] ?_
  refine tc_seq ?_
  refine tc_seq ?_
  refine tc_region ?_
  refine runL_b [0] [(0, Sl a_l l.length c_l), (2, Sl none 0 0), (3, I 0), (12, Sl a_l l.length c_l)] ?_
  refine runL_callV 13 (.tuple #[I ((chainCheck l).1), I ((chainCheck l).2)]) (chainCheck_con G a_l c_l l h_l) ?_
  refine runL_b [0,0,0,0,0] [(0, Sl a_l l.length c_l), (2, Sl none 0 0), (3, I 0), (4, I ((chainCheck l).1))] ?_
  refine runL_nil ?_
  refine tq_then ?_
  refine tc_rb [0,0] [(0, Sl a_l l.length c_l), (2, Sl none 0 0), (3, I 0), (4, I ((chainCheck l).1)), (17, Bo (!decide ((chainCheck l).1 = 0)))] ?_
  refine tc_cond (!decide ((chainCheck l).1 = 0)) (fun h1 => ?_) (fun h1 => ?_)
  ·
    try simp only [decide_eq_true_eq, decide_eq_false_iff_not, Bool.and_eq_true, Bool.or_eq_true, Bool.and_eq_false_imp, Bool.or_eq_false_iff, Bool.not_eq_true', Bool.not_eq_false', Bool.not_eq_true, Bool.not_eq_false, beq_iff_eq, beq_eq_false_iff_ne, bne_iff_ne, ne_eq, Decidable.not_not, Int.not_lt, Int.not_le] at h1
    refine tc_rb [0,0,0] [(0, Sl a_l l.length c_l), (2, Sl none 0 0), (3, I ((chainCheck l).1)), (4, I ((chainCheck l).1)), (17, Bo (!decide ((chainCheck l).1 = 0)))] ?_
    refine tc_ret ?_
    refine tq_then_ret ?_
    have hf1 : saidL l = ([], (chainCheck l).1) := by
      unfold saidL; first | (simp_all; done) | (rw [if_neg (by omega), hxo, List.take_of_length_le (by omega)])
    refine tq_ret [0, 0] [Sl none 0 0, I ((chainCheck l).1)] (bp_rows [] .slnil (Mem.le_refl _) ?_)
    rw [hf1]
    try dsimp only
    exact ⟨none, 0, rfl, (RS.nil' ES G), rfl⟩
  ·
    try simp only [decide_eq_true_eq, decide_eq_false_iff_not, Bool.and_eq_true, Bool.or_eq_true, Bool.and_eq_false_imp, Bool.or_eq_false_iff, Bool.not_eq_true', Bool.not_eq_false', Bool.not_eq_true, Bool.not_eq_false, beq_iff_eq, beq_eq_false_iff_ne, bne_iff_ne, ne_eq, Decidable.not_not, Int.not_lt, Int.not_le] at h1
    refine tc_skip ?_
    refine tq_then ?_
    refine tc_rb [0] [(0, Sl a_l l.length c_l), (2, Sl none 0 0), (3, I 0), (4, I ((chainCheck l).1)), (6, Sl none 0 0), (17, Bo (!decide ((chainCheck l).1 = 0)))] ?_
    refine tc_seq ?_
    refine tc_rb [0,0,0] [(0, Sl a_l l.length c_l), (2, Sl none 0 0), (3, I 0), (4, I ((chainCheck l).1)), (6, Sl none 0 0), (17, Bo (!decide ((chainCheck l).1 = 0))), (19, Sl a_l l.length c_l), (20, I (((l.length : Nat) : Int))), (21, I 0)] ?_
    refine tc_block ?_
    refine tc_empty ?_
    have hlm_h_l : l.length ≤ 9223372036854775807 := Nat.le_trans (h_l).le (h_l).max
    refine tc_loop (σ := Nat × Option Addr × Nat × List Seg × List ((List UInt8)) × Mem) (fun q_ => (Mem.le G q_.2.2.2.2.2) ∧ (q_.1 ≤ l.length) ∧ (TRow ES q_.2.2.2.2.2 q_.2.1 q_.2.2.1 q_.2.2.2.2.1 q_.2.2.2.1) ∧ (q_.2.2.2.2.1 = (l.take q_.1).map fun h => (headSaid h).1)) (fun q_ => [(0, Sl a_l l.length c_l), (2, Sl none 0 0), (3, I 0), (4, I ((chainCheck l).1)), (6, Sl q_.2.1 q_.2.2.2.2.1.length q_.2.2.1), (17, Bo (!decide ((chainCheck l).1 = 0))), (19, Sl a_l l.length c_l), (20, I (((l.length : Nat) : Int))), (21, I ((q_.1 : Int)))]) (fun q_ => q_.2.2.2.2.2) (fun q_ => [q_.2.2.2.1]) (fun q_ => l.length - q_.1) ((0, none, 0, [], [], G)) ⟨(Mem.le_refl _), (by (try dsimp only); first | exact Nat.zero_le _ | omega | simp), (TRow.none ES _), (by (try dsimp only); first | rfl | simp)⟩ (fun q_ hs => ?_)
    obtain ⟨i, ao, co, ro, xo, g⟩ := q_
    obtain ⟨hle, hi, hro, hxo⟩ := hs
    dsimp only at hle hi hro hxo
    refine tc_eq (fr' := [(0, Sl a_l l.length c_l), (2, Sl none 0 0), (3, I 0), (4, I ((chainCheck l).1)), (6, Sl ao xo.length co), (17, Bo (!decide ((chainCheck l).1 = 0))), (19, Sl a_l l.length c_l), (20, I (((l.length : Nat) : Int))), (21, I ((i : Int)))]) (L' := [ro]) rfl rfl ?_
    refine tc_rb [0] [(0, Sl a_l l.length c_l), (2, Sl none 0 0), (3, I 0), (4, I ((chainCheck l).1)), (6, Sl ao xo.length co), (17, Bo (!decide ((chainCheck l).1 = 0))), (19, Sl a_l l.length c_l), (20, I (((l.length : Nat) : Int))), (21, I ((i : Int))), (22, Bo (decide ((i : Int) < ((l.length : Nat) : Int))))] ?_
    refine tc_seq ?_
    refine tc_cond (decide ((i : Int) < ((l.length : Nat) : Int))) (fun h2 => ?_) (fun h2 => ?_)
    ·
      try simp only [decide_eq_true_eq, decide_eq_false_iff_not, Bool.and_eq_true, Bool.or_eq_true, Bool.and_eq_false_imp, Bool.or_eq_false_iff, Bool.not_eq_true', Bool.not_eq_false', Bool.not_eq_true, Bool.not_eq_false, beq_iff_eq, beq_eq_false_iff_ne, bne_iff_ne, ne_eq, Decidable.not_not, Int.not_lt, Int.not_le] at h2
      refine tc_skip ?_
      refine tq_then ?_
      refine tc_seq ?_
      refine tc_block ?_
      refine tc_seq ?_
      refine tc_region ?_
      obtain ⟨b1, o1, rfl⟩ := RS.addr (h_l.mono hle) (k := i) (by omega)
      obtain ⟨x1, hx1⟩ := getX (l := l) (k := i) (by omega)
      obtain ⟨_, ⟨rfl, w1, w2, w3, w4⟩, hc1⟩ := RS.get (h_l.mono hle) hx1
      refine runL_idx (b := b1) (off := o1) (len := l.length) (cap := c_l) (ik := .i64) 23 28 4 i (by omega) ?_
      refine runL_ldG 24 28 (cs := [I x1.epoch, U x1.root, U x1.prev, I x1.at_]) 0 (.agg #[I x1.epoch, U x1.root, U x1.prev, I x1.at_]) hc1 ?_
      refine runL_box 8 #[I 0, U 0, U 0, I 0] 28 (fun b2 => ?_)
      refine runL_bs [3] [(0, Sl (At b1 o1) l.length c_l), (2, Sl none 0 0), (3, I 0), (4, I ((chainCheck l).1)), (6, Sl ao xo.length co), (8, Pt b2 0), (17, Bo (!decide ((chainCheck l).1 = 0))), (19, Sl (At b1 o1) l.length c_l), (20, I (((l.length : Nat) : Int))), (21, I ((i : Int))), (22, Bo (decide ((i : Int) < ((l.length : Nat) : Int))))] [[Sg b2 0 [I x1.epoch, U x1.root, U x1.prev, I x1.at_]], ro] ?_
      refine runL_nil ?_
      refine tq_then ?_
      refine tc_seq ?_
      refine tc_region ?_
      refine runL_b [2] [(0, Sl (At b1 o1) l.length c_l), (2, Sl none 0 0), (3, I 0), (4, I ((chainCheck l).1)), (6, Sl ao xo.length co), (8, Pt b2 0), (17, Bo (!decide ((chainCheck l).1 = 0))), (19, Sl (At b1 o1) l.length c_l), (20, I (((l.length : Nat) : Int))), (21, I ((i : Int))), (22, Bo (decide ((i : Int) < ((l.length : Nat) : Int)))), (26, .agg #[I x1.epoch, U x1.root, U x1.prev, I x1.at_])] ?_
      refine runL_callV 27 (.tuple #[Sr ((headSaid x1).1), I ((headSaid x1).2)]) (headSaid_con x1 g) ?_
      refine runL_b [0,0,0,0,0] [(0, Sl (At b1 o1) l.length c_l), (2, Sl none 0 0), (3, I 0), (4, I ((chainCheck l).1)), (6, Sl ao xo.length co), (8, Pt b2 0), (9, Sr ((headSaid x1).1)), (17, Bo (!decide ((chainCheck l).1 = 0))), (19, Sl (At b1 o1) l.length c_l), (20, I (((l.length : Nat) : Int))), (21, I ((i : Int))), (22, Bo (decide ((i : Int) < ((l.length : Nat) : Int))))] ?_
      refine runL_nil ?_
      refine tq_then ?_
      refine tc_region ?_
      refine runL_b [0,0] [(0, Sl (At b1 o1) l.length c_l), (2, Sl none 0 0), (3, I 0), (4, I ((chainCheck l).1)), (6, Sl ao xo.length co), (8, Pt b2 0), (9, Sr ((headSaid x1).1)), (17, Bo (!decide ((chainCheck l).1 = 0))), (19, Sl (At b1 o1) l.length c_l), (20, I (((l.length : Nat) : Int))), (21, I ((i : Int))), (22, Bo (decide ((i : Int) < ((l.length : Nat) : Int)))), (30, Sl ao xo.length co), (31, Sr ((headSaid x1).1))] ?_
      refine runL_bsl 32 1 #[Sr ((headSaid x1).1)] 9 (fun b3 => ?_)
      refine runL_app1' (b := b3) (cs := [Sr ((headSaid x1).1)]) 33 9 2 0 (E := ES) ((headSaid x1).1) hro ⟨rfl, (Nat.le_trans (headSaid_len x1) (by decide))⟩ (by have q_ := (chainCheck_iff.1 (by assumption)).len; have q1_ := congrArg List.length hxo; (try simp only [ES, List.length_append, List.length_cons, List.length_nil, List.length_map, List.length_take] at *); omega) (by have q_ := (chainCheck_iff.1 (by assumption)).len; have q1_ := congrArg List.length hxo; (try simp only [ES, List.length_append, List.length_cons, List.length_nil, List.length_map, List.length_take] at *); omega) (fun a1 c1 r1 hr1 => ?_)
      refine runL_b [0] [(0, Sl (At b1 o1) l.length c_l), (2, Sl none 0 0), (3, I 0), (4, I ((chainCheck l).1)), (6, Sl a1 ((xo ++ [(headSaid x1).1]).length) c1), (8, Pt b2 0), (9, Sr ((headSaid x1).1)), (17, Bo (!decide ((chainCheck l).1 = 0))), (19, Sl (At b1 o1) l.length c_l), (20, I (((l.length : Nat) : Int))), (21, I ((i : Int))), (22, Bo (decide ((i : Int) < ((l.length : Nat) : Int))))] ?_
      refine runL_nil ?_
      refine tq_block ?_
      refine tq_then ?_
      refine tc_region ?_
      refine runL_b [0,0] [(0, Sl (At b1 o1) l.length c_l), (2, Sl none 0 0), (3, I 0), (4, I ((chainCheck l).1)), (6, Sl a1 ((xo ++ [(headSaid x1).1]).length) c1), (8, Pt b2 0), (9, Sr ((headSaid x1).1)), (17, Bo (!decide ((chainCheck l).1 = 0))), (19, Sl (At b1 o1) l.length c_l), (20, I (((l.length : Nat) : Int))), (21, I (IntKind.i64.wrap (((i : Int)) + 1))), (22, Bo (decide ((i : Int) < ((l.length : Nat) : Int))))] ?_
      have e1 : IntKind.i64.wrap (((i : Int)) + 1) = ((i : Int)) + 1 := IntWalk.i64_in _ (by omega)
      refine runL_eq (fr' := [(0, Sl (At b1 o1) l.length c_l), (2, Sl none 0 0), (3, I 0), (4, I ((chainCheck l).1)), (6, Sl a1 ((xo ++ [(headSaid x1).1]).length) c1), (8, Pt b2 0), (9, Sr ((headSaid x1).1)), (17, Bo (!decide ((chainCheck l).1 = 0))), (19, Sl (At b1 o1) l.length c_l), (20, I (((l.length : Nat) : Int))), (21, I (((i : Int)) + 1)), (22, Bo (decide ((i : Int) < ((l.length : Nat) : Int))))]) (L' := [[Sg b3 0 [Sr ((headSaid x1).1)]], [Sg b2 0 [I x1.epoch, U x1.root, U x1.prev, I x1.at_]], r1]) (by simp only [e1]) (by rfl) ?_
      clear e1
      refine runL_nil ?_
      refine tq_owns [r1] ((.cons _ (.cons _ (.cons_cons _ .slnil)))) ?_
      exact tq_rnd ((i + 1, a1, c1, r1, xo ++ [(headSaid x1).1], g)) ⟨(Mem.le_trans hle (Mem.le_refl _)), (by omega), hr1, (by rw [hxo, List.take_add_one, hx1]; simp)⟩ (by (try dsimp only); omega)
    ·
      try simp only [decide_eq_true_eq, decide_eq_false_iff_not, Bool.and_eq_true, Bool.or_eq_true, Bool.and_eq_false_imp, Bool.or_eq_false_iff, Bool.not_eq_true', Bool.not_eq_false', Bool.not_eq_true, Bool.not_eq_false, beq_iff_eq, beq_eq_false_iff_ne, bne_iff_ne, ne_eq, Decidable.not_not, Int.not_lt, Int.not_le] at h2
      refine tc_exit ?_
      refine tq_then_exit ?_
      refine tq_rnd_exit ?_
      refine tq_block_here ?_
      refine tq_then ?_
      refine tc_rb [0,0,0] [(0, Sl a_l l.length c_l), (2, Sl ao xo.length co), (3, I 0), (4, I ((chainCheck l).1)), (6, Sl ao xo.length co), (17, Bo (!decide ((chainCheck l).1 = 0))), (19, Sl a_l l.length c_l), (20, I (((l.length : Nat) : Int))), (21, I ((i : Int))), (22, Bo (decide ((i : Int) < ((l.length : Nat) : Int))))] ?_
      refine tc_ret ?_
      refine tq_frzR (E := ES) 0 hro (by have q_ := (chainCheck_iff.1 (by assumption)).len; have q1_ := congrArg List.length hxo; (try simp only [ES, List.length_append, List.length_cons, List.length_nil, List.length_map, List.length_take] at *); omega) (fun G1 hl1 hs1 => ?_)
      have hf2 : saidL l = (xo, 0) := by
        unfold saidL; first | (simp_all; done) | (rw [if_neg (by omega), hxo, List.take_of_length_le (by omega)])
      refine tq_ret [0, 0] [Sl ao xo.length co, I 0] (bp_rows [] (.cons _ .slnil) (Mem.le_trans hle hl1) ?_)
      rw [hf2]
      try dsimp only
      exact ⟨ao, co, rfl, hs1, rfl⟩

theorem auditRolled_con (G : Mem) (a_l : Option Addr) (c_l : Nat) (l : List HeadD) (h_l : RS EHead G a_l c_l l)  : Con Try.prog 52 #[Sl a_l l.length c_l] G [] (fun u G' L' => u = .tuple #[U ((auditRolled l).1), I ((auditRolled l).2)]) := by
  refine con_of Try.func52 18 [(0, Sl a_l l.length c_l)] rfl (fun w0 G0 => ?_)
  refine tc_rb [0,0] [(0, Sl a_l l.length c_l), (2, U 0), (3, I 0)] ?_
  refine tc_seq ?_
  refine tc_region ?_
  refine runL_b [0] [(2, U 0), (3, I 0), (7, Sl a_l l.length c_l)] ?_
  refine runL_callR 8 (saidL_con G a_l c_l l h_l) (fun v G1 L1 hl1 hp => ?_)
  obtain ⟨a1, c1, rfl, hs1, rfl⟩ := hp
  refine runL_b [0,0,0,0,0] [(2, U 0), (3, I 0), (4, Sl a1 (((saidL l).1).length) c1), (5, I ((saidL l).2))] ?_
  refine runL_nil ?_
  refine tq_then ?_
  refine tc_seq ?_
  refine tc_rb [0,0] [(2, U 0), (3, I 0), (4, Sl a1 (((saidL l).1).length) c1), (5, I ((saidL l).2)), (12, Bo (!decide ((saidL l).2 = 0)))] ?_
  refine tc_cond (!decide ((saidL l).2 = 0)) (fun h1 => ?_) (fun h1 => ?_)
  ·
    try simp only [decide_eq_true_eq, decide_eq_false_iff_not, Bool.and_eq_true, Bool.or_eq_true, Bool.and_eq_false_imp, Bool.or_eq_false_iff, Bool.not_eq_true', Bool.not_eq_false', Bool.not_eq_true, Bool.not_eq_false, beq_iff_eq, beq_eq_false_iff_ne, bne_iff_ne, ne_eq, Decidable.not_not, Int.not_lt, Int.not_le] at h1
    refine tc_rb [0,0,0] [(2, U 0), (3, I ((saidL l).2)), (4, Sl a1 (((saidL l).1).length) c1), (5, I ((saidL l).2)), (12, Bo (!decide ((saidL l).2 = 0)))] ?_
    refine tc_ret ?_
    refine tq_then_ret ?_
    refine tq_ret [0, 0] [U 0, I ((saidL l).2)] (bp_ret hl1 ?_)
    have hf_ : (auditRolled l) = (0, ((saidL l).2)) := by
      unfold auditRolled; simp_all
    (try rw [hf_]); first | with_reducible rfl | (simp only [packR]; done) | rfl
  ·
    try simp only [decide_eq_true_eq, decide_eq_false_iff_not, Bool.and_eq_true, Bool.or_eq_true, Bool.and_eq_false_imp, Bool.or_eq_false_iff, Bool.not_eq_true', Bool.not_eq_false', Bool.not_eq_true, Bool.not_eq_false, beq_iff_eq, beq_eq_false_iff_ne, bne_iff_ne, ne_eq, Decidable.not_not, Int.not_lt, Int.not_le] at h1
    refine tc_skip ?_
    refine tq_then ?_
    refine tc_seq ?_
    refine tc_region ?_
    refine runL_b [0] [(2, U 0), (3, I 0), (5, I ((saidL l).2)), (12, Bo (!decide ((saidL l).2 = 0))), (14, Sl a1 (((saidL l).1).length) c1)] ?_
    refine runL_callV 15 (.tuple #[U ((rollRoot ((saidL l).1)).1), I ((rollRoot ((saidL l).1)).2)]) (rollRoot_con G1 a1 c1 ((saidL l).1) hs1) ?_
    refine runL_b [0,0,0,0] [(2, U ((rollRoot ((saidL l).1)).1)), (3, I ((rollRoot ((saidL l).1)).2)), (5, I ((saidL l).2)), (12, Bo (!decide ((saidL l).2 = 0)))] ?_
    refine runL_nil ?_
    refine tq_then ?_
    refine tc_ret ?_
    refine tq_ret [0, 0] [U ((rollRoot ((saidL l).1)).1), I ((rollRoot ((saidL l).1)).2)] (bp_ret hl1 ?_)
    have hf_ : (auditRolled l) = (((rollRoot ((saidL l).1)).1), ((rollRoot ((saidL l).1)).2)) := by
      unfold auditRolled; simp_all
    (try rw [hf_]); first | with_reducible rfl | (simp only [packR]; done) | rfl

theorem auditGrew_con (G : Mem) (a_l : Option Addr) (c_l : Nat) (l : List HeadD) (h_l : RS EHead G a_l c_l l) (m : Int)  : Con Try.prog 51 #[Sl a_l l.length c_l, I m] G [] (fun u G' L' => ∃ (a1 : Option Addr) (c2 : Nat), u = .tuple #[Sl a1 (((auditGrew l m).1).length) c2, I ((auditGrew l m).2)] ∧ (RS EU G' a1 c2 ((auditGrew l m).1)) ∧ L' = []) := by
  refine con_of Try.func51 21 [(0, Sl a_l l.length c_l), (1, I m)] rfl (fun w0 G0 => ?_)
  refine tc_rb [0,0] [(0, Sl a_l l.length c_l), (1, I m), (4, Sl none 0 0), (5, I 0)] ?_
  refine tc_seq ?_
  refine tc_region ?_
  refine runL_b [0] [(1, I m), (4, Sl none 0 0), (5, I 0), (9, Sl a_l l.length c_l)] ?_
  refine runL_callR 10 (saidL_con G a_l c_l l h_l) (fun v G1 L1 hl1 hp => ?_)
  obtain ⟨a1, c1, rfl, hs1, rfl⟩ := hp
  refine runL_b [0,0,0,0,0] [(1, I m), (4, Sl none 0 0), (5, I 0), (6, Sl a1 (((saidL l).1).length) c1), (7, I ((saidL l).2))] ?_
  refine runL_nil ?_
  refine tq_then ?_
  refine tc_seq ?_
  refine tc_rb [0,0] [(1, I m), (4, Sl none 0 0), (5, I 0), (6, Sl a1 (((saidL l).1).length) c1), (7, I ((saidL l).2)), (14, Bo (!decide ((saidL l).2 = 0)))] ?_
  refine tc_cond (!decide ((saidL l).2 = 0)) (fun h1 => ?_) (fun h1 => ?_)
  ·
    try simp only [decide_eq_true_eq, decide_eq_false_iff_not, Bool.and_eq_true, Bool.or_eq_true, Bool.and_eq_false_imp, Bool.or_eq_false_iff, Bool.not_eq_true', Bool.not_eq_false', Bool.not_eq_true, Bool.not_eq_false, beq_iff_eq, beq_eq_false_iff_ne, bne_iff_ne, ne_eq, Decidable.not_not, Int.not_lt, Int.not_le] at h1
    refine tc_rb [0,0,0] [(1, I m), (4, Sl none 0 0), (5, I ((saidL l).2)), (6, Sl a1 (((saidL l).1).length) c1), (7, I ((saidL l).2)), (14, Bo (!decide ((saidL l).2 = 0)))] ?_
    refine tc_ret ?_
    refine tq_then_ret ?_
    have hf1 : auditGrew l m = ([], (saidL l).2) := by
      unfold auditGrew; simp_all
    refine tq_ret [0, 0] [Sl none 0 0, I ((saidL l).2)] (bp_rows [] .slnil hl1 ?_)
    rw [hf1]
    try dsimp only
    exact ⟨none, 0, rfl, (RS.nil' EU G1), rfl⟩
  ·
    try simp only [decide_eq_true_eq, decide_eq_false_iff_not, Bool.and_eq_true, Bool.or_eq_true, Bool.and_eq_false_imp, Bool.or_eq_false_iff, Bool.not_eq_true', Bool.not_eq_false', Bool.not_eq_true, Bool.not_eq_false, beq_iff_eq, beq_eq_false_iff_ne, bne_iff_ne, ne_eq, Decidable.not_not, Int.not_lt, Int.not_le] at h1
    refine tc_skip ?_
    refine tq_then ?_
    refine tc_seq ?_
    refine tc_region ?_
    refine runL_b [0,0] [(4, Sl none 0 0), (5, I 0), (7, I ((saidL l).2)), (14, Bo (!decide ((saidL l).2 = 0))), (16, Sl a1 (((saidL l).1).length) c1), (17, I m)] ?_
    refine runL_callR 18 (rollGrew_con G1 a1 c1 ((saidL l).1) hs1 m) (fun v G2 L1 hl2 hp => ?_)
    obtain ⟨a2, c2, rfl, hs2, rfl⟩ := hp
    refine runL_b [0,0,0,0] [(4, Sl a2 (((rollGrew ((saidL l).1) m).1).length) c2), (5, I ((rollGrew ((saidL l).1) m).2)), (7, I ((saidL l).2)), (14, Bo (!decide ((saidL l).2 = 0)))] ?_
    refine runL_nil ?_
    refine tq_then ?_
    refine tc_ret ?_
    have hf2 : auditGrew l m = ((rollGrew ((saidL l).1) m).1, (rollGrew ((saidL l).1) m).2) := by
      unfold auditGrew; simp_all
    refine tq_ret [0, 0] [Sl a2 (((rollGrew ((saidL l).1) m).1).length) c2, I ((rollGrew ((saidL l).1) m).2)] (bp_rows [] .slnil (Mem.le_trans hl1 hl2) ?_)
    rw [hf2]
    try dsimp only
    exact ⟨a2, c2, rfl, hs2, rfl⟩

theorem auditGrew_law_con (G : Mem) (a_l : Option Addr) (c_l : Nat) (l : List HeadD) (h_l : RS EHead G a_l c_l l) (m : Int) (hw_m : -9223372036854775808 ≤ m ∧ m < 9223372036854775808) (hf_l : l.length * 32 ≤ 140737488351232) : Con Try.prog 14 #[Sl a_l l.length c_l, I m] G [] (fun u G' L' => u = Bo true) := by
  refine con_of Try.func14 56 [(0, Sl a_l l.length c_l), (1, I m)] rfl (fun w0 G0 => ?_)
  refine tc_rb [0] [(0, Sl a_l l.length c_l), (1, I m), (4, Bo false)] ?_
  refine tc_seq ?_
  refine tc_seq ?_
  refine tc_region ?_
  refine runL_callV 13 (Bo true) (audits_con G) ?_
  refine runL_b [0] [(0, Sl a_l l.length c_l), (1, I m), (4, Bo false), (14, Bo false)] ?_
  refine runL_nil ?_
  refine tq_then ?_
  refine tc_cond_false ?_
  refine tc_skip ?_
  refine tq_then ?_
  refine tc_seq ?_
  refine tc_region ?_
  refine runL_b [0,0] [(0, Sl a_l l.length c_l), (1, I m), (4, Bo false), (14, Bo false), (16, Sl a_l l.length c_l), (17, I m)] ?_
  refine runL_callR 18 (auditGrew_con G a_l c_l l h_l m) (fun v G1 L1 hl1 hp => ?_)
  obtain ⟨a1, c1, rfl, hs1, rfl⟩ := hp
  refine runL_b [0,0,0,0,0] [(0, Sl a_l l.length c_l), (1, I m), (4, Bo false), (5, Sl a1 (((auditGrew l m).1).length) c1), (6, I ((auditGrew l m).2)), (14, Bo false)] ?_
  refine runL_nil ?_
  refine tq_then ?_
  refine tc_seq ?_
  refine tc_rb [0,0] [(0, Sl a_l l.length c_l), (1, I m), (4, Bo false), (5, Sl a1 (((auditGrew l m).1).length) c1), (14, Bo false), (22, Bo (!decide ((auditGrew l m).2 = 0)))] ?_
  refine tc_cond (!decide ((auditGrew l m).2 = 0)) (fun h1 => ?_) (fun h1 => ?_)
  ·
    try simp only [decide_eq_true_eq, decide_eq_false_iff_not, Bool.and_eq_true, Bool.or_eq_true, Bool.and_eq_false_imp, Bool.or_eq_false_iff, Bool.not_eq_true', Bool.not_eq_false', Bool.not_eq_true, Bool.not_eq_false, beq_iff_eq, beq_eq_false_iff_ne, bne_iff_ne, ne_eq, Decidable.not_not, Int.not_lt, Int.not_le] at h1
    refine tc_rb [0,0,0,0] [(0, Sl a_l l.length c_l), (1, I m), (4, Bo (decide (((((auditGrew l m).1).length : Nat) : Int) = 0))), (5, Sl a1 (((auditGrew l m).1).length) c1), (14, Bo false), (22, Bo (!decide ((auditGrew l m).2 = 0)))] ?_
    refine tc_ret ?_
    refine tq_then_ret ?_
    refine tq_ret [0] [Bo (decide (((((auditGrew l m).1).length : Nat) : Int) = 0))] (bp_ret hl1 ?_)
    have hf_ : (decide (((((auditGrew l m).1).length : Nat) : Int) = 0)) = true := by
      first | (simp [auditGrew_err (by assumption)]; done) | (subst hkn1; have q_ := auditGrew_law (by assumption); simp [q_])
    exact congrArg Bo hf_
  ·
    try simp only [decide_eq_true_eq, decide_eq_false_iff_not, Bool.and_eq_true, Bool.or_eq_true, Bool.and_eq_false_imp, Bool.or_eq_false_iff, Bool.not_eq_true', Bool.not_eq_false', Bool.not_eq_true, Bool.not_eq_false, beq_iff_eq, beq_eq_false_iff_ne, bne_iff_ne, ne_eq, Decidable.not_not, Int.not_lt, Int.not_le] at h1
    refine tc_skip ?_
    refine tq_then ?_
    refine tc_seq ?_
    refine tc_region ?_
    refine runL_b [0,0] [(0, Sl a_l l.length c_l), (1, I m), (4, Bo false), (5, Sl a1 (((auditGrew l m).1).length) c1), (14, Bo false), (22, Bo (!decide ((auditGrew l m).2 = 0))), (27, Sl a_l l.length c_l), (28, I m)] ?_
    obtain ⟨kn1, hkn1⟩ : ∃ k_ : Nat, m = (k_ : Int) := ⟨(m).toNat, by first | omega | (have q_ := auditGrew_ok (by assumption); omega)⟩
    have e1 : m = (kn1 : Int) := hkn1
    refine runL_eq (fr' := [(0, Sl a_l l.length c_l), (1, I ((kn1 : Int))), (4, Bo false), (5, Sl a1 (((auditGrew l m).1).length) c1), (14, Bo false), (22, Bo (!decide ((auditGrew l m).2 = 0))), (27, Sl a_l l.length c_l), (28, I ((kn1 : Int)))]) (L' := []) (by first | rfl | simp only [e1]) (by first | rfl | simp only [e1]) ?_
    obtain ⟨a2, c2, ea1, ec1, en1, eh1, hs2⟩ := RS.reslXT (h_l.mono hl1) kn1 (by first | omega | (have q_ := auditGrew_ok (by assumption); omega))
    refine runL_reslE (a := a_l) (len := l.length) (cap := c_l) 29 4 none (some (I ((kn1 : Int)))) 0 kn1 (.inl ⟨rfl, rfl⟩) (.inr ⟨_, rfl⟩) (by exact Nat.zero_le _) ea1 ec1 en1 eh1 ?_
    refine runL_callV 30 (.tuple #[U ((auditRolled (l.take kn1)).1), I ((auditRolled (l.take kn1)).2)]) (auditRolled_con G1 a2 c2 (l.take kn1) hs2) ?_
    refine runL_b [0,0,0,0,0] [(0, Sl a_l l.length c_l), (1, I ((kn1 : Int))), (4, Bo false), (5, Sl a1 (((auditGrew l m).1).length) c1), (7, U ((auditRolled (l.take kn1)).1)), (8, I ((auditRolled (l.take kn1)).2)), (14, Bo false), (22, Bo (!decide ((auditGrew l m).2 = 0)))] ?_
    refine runL_nil ?_
    refine tq_then ?_
    refine tc_seq ?_
    refine tc_region ?_
    refine runL_b [0] [(0, Sl a_l l.length c_l), (1, I ((kn1 : Int))), (4, Bo false), (5, Sl a1 (((auditGrew l m).1).length) c1), (7, U ((auditRolled (l.take kn1)).1)), (8, I ((auditRolled (l.take kn1)).2)), (14, Bo false), (22, Bo (!decide ((auditGrew l m).2 = 0))), (34, Sl a_l l.length c_l)] ?_
    refine runL_callV 35 (.tuple #[U ((auditRolled l).1), I ((auditRolled l).2)]) (auditRolled_con G1 a_l c_l l (h_l.mono hl1)) ?_
    refine runL_b [0,0,0,0,0] [(0, Sl a_l l.length c_l), (1, I ((kn1 : Int))), (4, Bo false), (5, Sl a1 (((auditGrew l m).1).length) c1), (7, U ((auditRolled (l.take kn1)).1)), (8, I ((auditRolled (l.take kn1)).2)), (9, U ((auditRolled l).1)), (10, I ((auditRolled l).2)), (14, Bo false), (22, Bo (!decide ((auditGrew l m).2 = 0)))] ?_
    refine runL_nil ?_
    refine tq_then ?_
    refine tc_seq ?_
    refine tc_region ?_
    refine runL_b [0,0,0,0,0,0] [(0, Sl a_l l.length c_l), (1, I ((kn1 : Int))), (4, Bo false), (5, Sl a1 (((auditGrew l m).1).length) c1), (8, I ((auditRolled (l.take kn1)).2)), (10, I ((auditRolled l).2)), (14, Bo false), (22, Bo (!decide ((auditGrew l m).2 = 0))), (39, U ((auditRolled (l.take kn1)).1)), (40, I ((kn1 : Int))), (41, U ((auditRolled l).1)), (43, I (((l.length : Nat) : Int))), (44, Sl a1 (((auditGrew l m).1).length) c1)] ?_
    refine runL_callV 45 (.tuple #[Bo ((rollIsGrown ((auditRolled (l.take kn1)).1) ((kn1 : Int)) ((auditRolled l).1) (((l.length : Nat) : Int)) ((auditGrew l m).1)).1), I ((rollIsGrown ((auditRolled (l.take kn1)).1) ((kn1 : Int)) ((auditRolled l).1) (((l.length : Nat) : Int)) ((auditGrew l m).1)).2)]) (rollIsGrown_con G1 ((auditRolled (l.take kn1)).1) ((kn1 : Int)) ((auditRolled l).1) (((l.length : Nat) : Int)) a1 c1 ((auditGrew l m).1) hs1) ?_
    refine runL_b [0,0,0,0,0] [(0, Sl a_l l.length c_l), (1, I ((kn1 : Int))), (4, Bo false), (5, Sl a1 (((auditGrew l m).1).length) c1), (8, I ((auditRolled (l.take kn1)).2)), (10, I ((auditRolled l).2)), (11, Bo ((rollIsGrown ((auditRolled (l.take kn1)).1) ((kn1 : Int)) ((auditRolled l).1) (((l.length : Nat) : Int)) ((auditGrew l m).1)).1)), (12, I ((rollIsGrown ((auditRolled (l.take kn1)).1) ((kn1 : Int)) ((auditRolled l).1) (((l.length : Nat) : Int)) ((auditGrew l m).1)).2)), (14, Bo false), (22, Bo (!decide ((auditGrew l m).2 = 0)))] ?_
    refine runL_nil ?_
    refine tq_then ?_
    refine tc_seq ?_
    refine tc_region ?_
    refine runL_b [0,0,0] [(0, Sl a_l l.length c_l), (1, I ((kn1 : Int))), (4, Bo false), (5, Sl a1 (((auditGrew l m).1).length) c1), (11, Bo ((rollIsGrown ((auditRolled (l.take kn1)).1) ((kn1 : Int)) ((auditRolled l).1) (((l.length : Nat) : Int)) ((auditGrew l m).1)).1)), (14, Bo false), (22, Bo (!decide ((auditGrew l m).2 = 0))), (48, I ((auditRolled (l.take kn1)).2)), (49, I ((auditRolled l).2)), (50, I ((rollIsGrown ((auditRolled (l.take kn1)).1) ((kn1 : Int)) ((auditRolled l).1) (((l.length : Nat) : Int)) ((auditGrew l m).1)).2))] ?_
    refine runL_bsl 51 3 #[I ((auditRolled (l.take kn1)).2), I ((auditRolled l).2), I ((rollIsGrown ((auditRolled (l.take kn1)).1) ((kn1 : Int)) ((auditRolled l).1) (((l.length : Nat) : Int)) ((auditGrew l m).1)).2)] 41 (fun b1 => ?_)
    refine runL_frz1 (b := b1) (o := 0) (cs := [I ((auditRolled (l.take kn1)).2), I ((auditRolled l).2), I ((rollIsGrown ((auditRolled (l.take kn1)).1) ((kn1 : Int)) ((auditRolled l).1) (((l.length : Nat) : Int)) ((auditGrew l m).1)).2)]) 0 (fun G2 hl2 hz1 => ?_)
    have hs3 : RS EErr G2 (At b1 0) 3 [(auditRolled (l.take kn1)).2, (auditRolled l).2, (rollIsGrown ((auditRolled (l.take kn1)).1) ((kn1 : Int)) ((auditRolled l).1) (((l.length : Nat) : Int)) ((auditGrew l m).1)).2] := RS.lit [[I ((auditRolled (l.take kn1)).2)], [I ((auditRolled l).2)], [I ((rollIsGrown ((auditRolled (l.take kn1)).1) ((kn1 : Int)) ((auditRolled l).1) (((l.length : Nat) : Int)) ((auditGrew l m).1)).2)]] [(auditRolled (l.take kn1)).2, (auditRolled l).2, (rollIsGrown ((auditRolled (l.take kn1)).1) ((kn1 : Int)) ((auditRolled l).1) (((l.length : Nat) : Int)) ((auditGrew l m).1)).2] ⟨rfl, ⟨rfl, ⟨rfl, trivial⟩⟩⟩ hz1 (Nat.le_of_ble_eq_true rfl) (Nat.le_of_ble_eq_true rfl)
    refine runL_callV 52 (Bo (!(([(auditRolled (l.take kn1)).2, (auditRolled l).2, (rollIsGrown ((auditRolled (l.take kn1)).1) ((kn1 : Int)) ((auditRolled l).1) (((l.length : Nat) : Int)) ((auditGrew l m).1)).2]).any fun x0 => !decide (x0 = 0)))) (good_con G2 (At b1 0) 3 ([(auditRolled (l.take kn1)).2, (auditRolled l).2, (rollIsGrown ((auditRolled (l.take kn1)).1) ((kn1 : Int)) ((auditRolled l).1) (((l.length : Nat) : Int)) ((auditGrew l m).1)).2]) hs3) ?_
    refine runL_b [0] [(0, Sl a_l l.length c_l), (1, I ((kn1 : Int))), (4, Bo false), (5, Sl a1 (((auditGrew l m).1).length) c1), (11, Bo ((rollIsGrown ((auditRolled (l.take kn1)).1) ((kn1 : Int)) ((auditRolled l).1) (((l.length : Nat) : Int)) ((auditGrew l m).1)).1)), (14, Bo false), (22, Bo (!decide ((auditGrew l m).2 = 0))), (53, Bo (!(([(auditRolled (l.take kn1)).2, (auditRolled l).2, (rollIsGrown ((auditRolled (l.take kn1)).1) ((kn1 : Int)) ((auditRolled l).1) (((l.length : Nat) : Int)) ((auditGrew l m).1)).2]).any fun x0 => !decide (x0 = 0))))] ?_
    refine runL_b2 (!(([(auditRolled (l.take kn1)).2, (auditRolled l).2, (rollIsGrown ((auditRolled (l.take kn1)).1) ((kn1 : Int)) ((auditRolled l).1) (((l.length : Nat) : Int)) ((auditGrew l m).1)).2]).any fun x0 => !decide (x0 = 0))) (fun bb => [(0, Sl a_l l.length c_l), (1, I ((kn1 : Int))), (4, Bo false), (5, Sl a1 (((auditGrew l m).1).length) c1), (11, Bo ((rollIsGrown ((auditRolled (l.take kn1)).1) ((kn1 : Int)) ((auditRolled l).1) (((l.length : Nat) : Int)) ((auditGrew l m).1)).1)), (14, Bo false), (22, Bo (!decide ((auditGrew l m).2 = 0))), (53, Bo bb)]) [0,0] [1,0] (fun bb => [(0, Sl a_l l.length c_l), (1, I ((kn1 : Int))), (4, Bo false), (5, Sl a1 (((auditGrew l m).1).length) c1), (14, Bo false), (22, Bo (!decide ((auditGrew l m).2 = 0))), (55, Bo (bb && ((rollIsGrown ((auditRolled (l.take kn1)).1) ((kn1 : Int)) ((auditRolled l).1) (((l.length : Nat) : Int)) ((auditGrew l m).1)).1)))]) ?_
    refine runL_b [0] [(0, Sl a_l l.length c_l), (1, I ((kn1 : Int))), (4, Bo ((!(([(auditRolled (l.take kn1)).2, (auditRolled l).2, (rollIsGrown ((auditRolled (l.take kn1)).1) ((kn1 : Int)) ((auditRolled l).1) (((l.length : Nat) : Int)) ((auditGrew l m).1)).2]).any fun x0 => !decide (x0 = 0))) && ((rollIsGrown ((auditRolled (l.take kn1)).1) ((kn1 : Int)) ((auditRolled l).1) (((l.length : Nat) : Int)) ((auditGrew l m).1)).1))), (5, Sl a1 (((auditGrew l m).1).length) c1), (14, Bo false), (22, Bo (!decide ((auditGrew l m).2 = 0)))] ?_
    refine runL_nil ?_
    refine tq_then ?_
    refine tc_ret ?_
    refine tq_ret [0] [Bo ((!(([(auditRolled (l.take kn1)).2, (auditRolled l).2, (rollIsGrown ((auditRolled (l.take kn1)).1) ((kn1 : Int)) ((auditRolled l).1) (((l.length : Nat) : Int)) ((auditGrew l m).1)).2]).any fun x0 => !decide (x0 = 0))) && ((rollIsGrown ((auditRolled (l.take kn1)).1) ((kn1 : Int)) ((auditRolled l).1) (((l.length : Nat) : Int)) ((auditGrew l m).1)).1))] (bp_ret (Mem.le_trans hl1 hl2) ?_)
    have hf_ : ((!(([(auditRolled (l.take kn1)).2, (auditRolled l).2, (rollIsGrown ((auditRolled (l.take kn1)).1) ((kn1 : Int)) ((auditRolled l).1) (((l.length : Nat) : Int)) ((auditGrew l m).1)).2]).any fun x0 => !decide (x0 = 0))) && ((rollIsGrown ((auditRolled (l.take kn1)).1) ((kn1 : Int)) ((auditRolled l).1) (((l.length : Nat) : Int)) ((auditGrew l m).1)).1)) = true := by
      first | (simp [auditGrew_err (by assumption)]; done) | (subst hkn1; have q_ := auditGrew_law (by assumption); simp [q_])
    exact congrArg Bo hf_

theorem auditFinds_con (G : Mem) (a_l : Option Addr) (c_l : Nat) (l : List (List HeadD)) (h_l : RS ESlHead G a_l c_l l) (a_a : Option Addr) (c_a : Nat) (a : List HeadD) (h_a : RS EHead G a_a c_a a) (a_cuts : Option Addr) (c_cuts : Nat) (cuts : List IID) (h_cuts : RS EII G a_cuts c_cuts cuts) (hf_l : l.length * 24 ≤ 140737488351232) (hf_a : a.length * 32 ≤ 140737488351232) (hf_cuts : cuts.length * 16 ≤ 140737488351232) : Con Try.prog 12 #[Sl a_l l.length c_l, Sl a_a a.length c_a, Sl a_cuts cuts.length c_cuts] G [] (fun u G' L' => u = Bo true) := by
  refine con_of Try.func12 116 [(0, Sl a_l l.length c_l), (1, Sl a_a a.length c_a), (2, Sl a_cuts cuts.length c_cuts)] rfl (fun w0 G0 => ?_)
  refine tc_rb [0] [(0, Sl a_l l.length c_l), (1, Sl a_a a.length c_a), (2, Sl a_cuts cuts.length c_cuts), (6, Bo false)] ?_
  refine tc_seq ?_
  refine tc_seq ?_
  refine tc_region ?_
  refine runL_callV 20 (Bo true) (audits_con G) ?_
  refine runL_b [0] [(0, Sl a_l l.length c_l), (1, Sl a_a a.length c_a), (2, Sl a_cuts cuts.length c_cuts), (6, Bo false), (21, Bo false)] ?_
  refine runL_nil ?_
  refine tq_then ?_
  refine tc_cond_false ?_
  refine tc_skip ?_
  refine tq_then ?_
  refine tc_seq ?_
  refine tc_region ?_
  refine runL_b [0] [(0, Sl a_l l.length c_l), (1, Sl a_a a.length c_a), (2, Sl a_cuts cuts.length c_cuts), (6, Bo false), (21, Bo false), (23, Sl a_l l.length c_l)] ?_
  refine runL_callV 24 (.tuple #[.agg #[I (((auditFind l).1).a), I (((auditFind l).1).b), I (((auditFind l).1).epoch)], Bo ((auditFind l).2.1), I ((auditFind l).2.2)]) (auditFind_con G a_l c_l l h_l) ?_
  refine runL_b [0,0,0,0] [(0, Sl a_l l.length c_l), (1, Sl a_a a.length c_a), (2, Sl a_cuts cuts.length c_cuts), (6, Bo false), (21, Bo false), (25, .agg #[I (((auditFind l).1).a), I (((auditFind l).1).b), I (((auditFind l).1).epoch)]), (26, Bo ((auditFind l).2.1)), (27, I ((auditFind l).2.2))] ?_
  refine runL_box 7 #[I 0, I 0, I 0] 88 (fun b1 => ?_)
  refine runL_bs [3,0,0] [(0, Sl a_l l.length c_l), (1, Sl a_a a.length c_a), (2, Sl a_cuts cuts.length c_cuts), (6, Bo false), (7, Pt b1 0), (8, Bo ((auditFind l).2.1)), (9, I ((auditFind l).2.2)), (21, Bo false)] [[Sg b1 0 [I (((auditFind l).1).a), I (((auditFind l).1).b), I (((auditFind l).1).epoch)]]] ?_
  refine runL_nil ?_
  refine tq_then ?_
  refine tc_seq ?_
  refine tc_rb [0,0] [(0, Sl a_l l.length c_l), (1, Sl a_a a.length c_a), (2, Sl a_cuts cuts.length c_cuts), (6, Bo false), (7, Pt b1 0), (8, Bo ((auditFind l).2.1)), (21, Bo false), (29, Bo (!decide ((auditFind l).2.2 = 0)))] ?_
  refine tc_cond (!decide ((auditFind l).2.2 = 0)) (fun h1 => ?_) (fun h1 => ?_)
  ·
    try simp only [decide_eq_true_eq, decide_eq_false_iff_not, Bool.and_eq_true, Bool.or_eq_true, Bool.and_eq_false_imp, Bool.or_eq_false_iff, Bool.not_eq_true', Bool.not_eq_false', Bool.not_eq_true, Bool.not_eq_false, beq_iff_eq, beq_eq_false_iff_ne, bne_iff_ne, ne_eq, Decidable.not_not, Int.not_lt, Int.not_le] at h1
    refine tc_seq ?_
    refine tc_region ?_
    refine runL_b [2,0] [(0, Sl a_l l.length c_l), (1, Sl a_a a.length c_a), (2, Sl a_cuts cuts.length c_cuts), (6, Bo false), (7, Pt b1 0), (8, Bo ((auditFind l).2.1)), (21, Bo false), (29, Bo (!decide ((auditFind l).2.2 = 0))), (30, .agg #[I (((auditFind l).1).a), I (((auditFind l).1).b), I (((auditFind l).1).epoch)]), (31, .agg #[I 0, I 0, I 0])] ?_
    refine runL_eqv 32 (Bo ((decide (((auditFind l).1).a = 0) && (decide (((auditFind l).1).b = 0) && (decide (((auditFind l).1).epoch = 0) && true))))) (Bo (decide (((auditFind l).1).a = 0) && decide (((auditFind l).1).b = 0) && decide (((auditFind l).1).epoch = 0))) (by simp [B_toList, Bool.and_assoc]) ?_
    refine runL_b [0] [(0, Sl a_l l.length c_l), (1, Sl a_a a.length c_a), (2, Sl a_cuts cuts.length c_cuts), (6, Bo false), (7, Pt b1 0), (8, Bo ((auditFind l).2.1)), (21, Bo false), (29, Bo (!decide ((auditFind l).2.2 = 0))), (33, Bo (decide (((auditFind l).1).a = 0) && decide (((auditFind l).1).b = 0) && decide (((auditFind l).1).epoch = 0)))] ?_
    refine runL_b2 (decide (((auditFind l).1).a = 0) && decide (((auditFind l).1).b = 0) && decide (((auditFind l).1).epoch = 0)) (fun bb => [(0, Sl a_l l.length c_l), (1, Sl a_a a.length c_a), (2, Sl a_cuts cuts.length c_cuts), (6, Bo false), (7, Pt b1 0), (8, Bo ((auditFind l).2.1)), (21, Bo false), (29, Bo (!decide ((auditFind l).2.2 = 0))), (33, Bo bb)]) [0,0,0] [1,1,0] (fun bb => [(0, Sl a_l l.length c_l), (1, Sl a_a a.length c_a), (2, Sl a_cuts cuts.length c_cuts), (6, Bo false), (7, Pt b1 0), (8, Bo ((auditFind l).2.1)), (21, Bo false), (29, Bo (!decide ((auditFind l).2.2 = 0))), (36, Bo (bb && (!((auditFind l).2.1))))]) ?_
    refine runL_b [0] [(0, Sl a_l l.length c_l), (1, Sl a_a a.length c_a), (2, Sl a_cuts cuts.length c_cuts), (6, Bo ((decide (((auditFind l).1).a = 0) && decide (((auditFind l).1).b = 0) && decide (((auditFind l).1).epoch = 0)) && (!((auditFind l).2.1)))), (7, Pt b1 0), (8, Bo ((auditFind l).2.1)), (21, Bo false), (29, Bo (!decide ((auditFind l).2.2 = 0)))] ?_
    refine runL_nil ?_
    refine tq_then ?_
    refine tc_ret ?_
    refine tq_then_ret ?_
    refine tq_ret [0] [Bo ((decide (((auditFind l).1).a = 0) && decide (((auditFind l).1).b = 0) && decide (((auditFind l).1).epoch = 0)) && (!((auditFind l).2.1)))] (bp_ret (Mem.le_refl _) ?_)
    have hf_ : ((decide (((auditFind l).1).a = 0) && decide (((auditFind l).1).b = 0) && decide (((auditFind l).1).epoch = 0)) && (!((auditFind l).2.1))) = true := by
      first | (simp [auditFind_err (by assumption), foundZ]; done) | (have q_ := parts_end hxw; simp [q_]; done) | (have q_ := auditFind_bd (l := l) (by assumption) (by assumption); omega) | (have q_ := auditFind_fork (l := l) (by assumption) (by assumption) hkn1 hkn2 (by assumption) (by assumption); simp_all)
    exact congrArg Bo hf_
  ·
    try simp only [decide_eq_true_eq, decide_eq_false_iff_not, Bool.and_eq_true, Bool.or_eq_true, Bool.and_eq_false_imp, Bool.or_eq_false_iff, Bool.not_eq_true', Bool.not_eq_false', Bool.not_eq_true, Bool.not_eq_false, beq_iff_eq, beq_eq_false_iff_ne, bne_iff_ne, ne_eq, Decidable.not_not, Int.not_lt, Int.not_le] at h1
    refine tc_skip ?_
    refine tq_then ?_
    refine tc_seq ?_
    refine tc_rb [0] [(0, Sl a_l l.length c_l), (1, Sl a_a a.length c_a), (2, Sl a_cuts cuts.length c_cuts), (6, Bo false), (7, Pt b1 0), (8, Bo ((auditFind l).2.1)), (21, Bo false), (29, Bo (!decide ((auditFind l).2.2 = 0))), (37, Bo ((auditFind l).2.1))] ?_
    refine tc_cond ((auditFind l).2.1) (fun h2 => ?_) (fun h2 => ?_)
    ·
      try simp only [decide_eq_true_eq, decide_eq_false_iff_not, Bool.and_eq_true, Bool.or_eq_true, Bool.and_eq_false_imp, Bool.or_eq_false_iff, Bool.not_eq_true', Bool.not_eq_false', Bool.not_eq_true, Bool.not_eq_false, beq_iff_eq, beq_eq_false_iff_ne, bne_iff_ne, ne_eq, Decidable.not_not, Int.not_lt, Int.not_le] at h2
      refine tc_seq ?_
      refine tc_seq ?_
      refine tc_region ?_
      refine runL_b [0,2,0,0] [(0, Sl a_l l.length c_l), (1, Sl a_a a.length c_a), (2, Sl a_cuts cuts.length c_cuts), (6, Bo false), (7, Pt b1 0), (8, Bo ((auditFind l).2.1)), (21, Bo false), (29, Bo (!decide ((auditFind l).2.2 = 0))), (37, Bo ((auditFind l).2.1)), (41, Bo (decide (((auditFind l).1).a < 0)))] ?_
      refine runL_b2 (decide (((auditFind l).1).a < 0)) (fun bb => [(0, Sl a_l l.length c_l), (1, Sl a_a a.length c_a), (2, Sl a_cuts cuts.length c_cuts), (6, Bo false), (7, Pt b1 0), (8, Bo ((auditFind l).2.1)), (21, Bo false), (29, Bo (!decide ((auditFind l).2.2 = 0))), (37, Bo ((auditFind l).2.1)), (41, Bo bb)]) [1,1,1,1,1,0] [0,2,0,2,0,0] (fun bb => [(0, Sl a_l l.length c_l), (1, Sl a_a a.length c_a), (2, Sl a_cuts cuts.length c_cuts), (6, Bo false), (7, Pt b1 0), (8, Bo ((auditFind l).2.1)), (21, Bo false), (29, Bo (!decide ((auditFind l).2.2 = 0))), (37, Bo ((auditFind l).2.1)), (47, Bo (bb || (decide (((auditFind l).1).a ≥ ((auditFind l).1).b))))]) ?_
      refine runL_b [0] [(0, Sl a_l l.length c_l), (1, Sl a_a a.length c_a), (2, Sl a_cuts cuts.length c_cuts), (6, Bo false), (7, Pt b1 0), (8, Bo ((auditFind l).2.1)), (21, Bo false), (29, Bo (!decide ((auditFind l).2.2 = 0))), (37, Bo ((auditFind l).2.1)), (48, Bo ((decide (((auditFind l).1).a < 0)) || (decide (((auditFind l).1).a ≥ ((auditFind l).1).b))))] ?_
      refine runL_b2 ((decide (((auditFind l).1).a < 0)) || (decide (((auditFind l).1).a ≥ ((auditFind l).1).b))) (fun bb => [(0, Sl a_l l.length c_l), (1, Sl a_a a.length c_a), (2, Sl a_cuts cuts.length c_cuts), (6, Bo false), (7, Pt b1 0), (8, Bo ((auditFind l).2.1)), (21, Bo false), (29, Bo (!decide ((auditFind l).2.2 = 0))), (37, Bo ((auditFind l).2.1)), (48, Bo bb)]) [1,1,1,1,1,0] [0,2,0,0,0,0] (fun bb => [(0, Sl a_l l.length c_l), (1, Sl a_a a.length c_a), (2, Sl a_cuts cuts.length c_cuts), (6, Bo false), (7, Pt b1 0), (8, Bo ((auditFind l).2.1)), (21, Bo false), (29, Bo (!decide ((auditFind l).2.2 = 0))), (37, Bo ((auditFind l).2.1)), (54, Bo (bb || (decide (((auditFind l).1).b ≥ ((l.length : Nat) : Int)))))]) ?_
      refine runL_nil ?_
      refine tq_then ?_
      refine tc_cond (((decide (((auditFind l).1).a < 0)) || (decide (((auditFind l).1).a ≥ ((auditFind l).1).b))) || (decide (((auditFind l).1).b ≥ ((l.length : Nat) : Int)))) (fun h3 => ?_) (fun h3 => ?_)
      ·
        try simp only [decide_eq_true_eq, decide_eq_false_iff_not, Bool.and_eq_true, Bool.or_eq_true, Bool.and_eq_false_imp, Bool.or_eq_false_iff, Bool.not_eq_true', Bool.not_eq_false', Bool.not_eq_true, Bool.not_eq_false, beq_iff_eq, beq_eq_false_iff_ne, bne_iff_ne, ne_eq, Decidable.not_not, Int.not_lt, Int.not_le] at h3
        refine tc_rb [0] [(0, Sl a_l l.length c_l), (1, Sl a_a a.length c_a), (2, Sl a_cuts cuts.length c_cuts), (6, Bo false), (7, Pt b1 0), (8, Bo ((auditFind l).2.1)), (21, Bo false), (29, Bo (!decide ((auditFind l).2.2 = 0))), (37, Bo ((auditFind l).2.1)), (54, Bo (((decide (((auditFind l).1).a < 0)) || (decide (((auditFind l).1).a ≥ ((auditFind l).1).b))) || (decide (((auditFind l).1).b ≥ ((l.length : Nat) : Int)))))] ?_
        refine tc_ret ?_
        refine tq_then_ret ?_
        refine tq_then_ret ?_
        refine tq_ret [0] [Bo false] (bp_ret (Mem.le_refl _) ?_)
        exfalso
        first | (simp [auditFind_err (by assumption), foundZ]; done) | (have q_ := parts_end hxw; simp [q_]; done) | (have q_ := auditFind_bd (l := l) (by assumption) (by assumption); omega) | (have q_ := auditFind_fork (l := l) (by assumption) (by assumption) hkn1 hkn2 (by assumption) (by assumption); simp_all)
      ·
        try simp only [decide_eq_true_eq, decide_eq_false_iff_not, Bool.and_eq_true, Bool.or_eq_true, Bool.and_eq_false_imp, Bool.or_eq_false_iff, Bool.not_eq_true', Bool.not_eq_false', Bool.not_eq_true, Bool.not_eq_false, beq_iff_eq, beq_eq_false_iff_ne, bne_iff_ne, ne_eq, Decidable.not_not, Int.not_lt, Int.not_le] at h3
        refine tc_skip ?_
        refine tq_then ?_
        obtain ⟨kn1, hkn1⟩ : ∃ k_ : Nat, ((auditFind l).1).a = (k_ : Int) := ⟨(((auditFind l).1).a).toNat, by first | omega | (have q_ := auditFind_bd (l := l) (by assumption) (by assumption); omega)⟩
        have e1 : ((auditFind l).1).a = (kn1 : Int) := hkn1
        refine tc_eq (fr' := [(0, Sl a_l l.length c_l), (1, Sl a_a a.length c_a), (2, Sl a_cuts cuts.length c_cuts), (6, Bo false), (7, Pt b1 0), (8, Bo ((auditFind l).2.1)), (21, Bo false), (29, Bo (!decide ((auditFind l).2.2 = 0))), (37, Bo ((auditFind l).2.1)), (54, Bo (((decide (((auditFind l).1).a < 0)) || (decide (((auditFind l).1).a ≥ ((auditFind l).1).b))) || (decide (((auditFind l).1).b ≥ ((l.length : Nat) : Int)))))]) (L' := [[Sg b1 0 [I ((kn1 : Int)), I (((auditFind l).1).b), I (((auditFind l).1).epoch)]]]) (by first | rfl | simp only [e1]) (by first | rfl | simp only [e1]) ?_
        obtain ⟨kn2, hkn2⟩ : ∃ k_ : Nat, ((auditFind l).1).b = (k_ : Int) := ⟨(((auditFind l).1).b).toNat, by first | omega | (have q_ := auditFind_bd (l := l) (by assumption) (by assumption); omega)⟩
        have e2 : ((auditFind l).1).b = (kn2 : Int) := hkn2
        refine tc_eq (fr' := [(0, Sl a_l l.length c_l), (1, Sl a_a a.length c_a), (2, Sl a_cuts cuts.length c_cuts), (6, Bo false), (7, Pt b1 0), (8, Bo ((auditFind l).2.1)), (21, Bo false), (29, Bo (!decide ((auditFind l).2.2 = 0))), (37, Bo ((auditFind l).2.1)), (54, Bo (((decide (((auditFind l).1).a < 0)) || (decide (((auditFind l).1).a ≥ ((auditFind l).1).b))) || (decide (((auditFind l).1).b ≥ ((l.length : Nat) : Int)))))]) (L' := [[Sg b1 0 [I ((kn1 : Int)), I ((kn2 : Int)), I (((auditFind l).1).epoch)]]]) (by first | rfl | simp only [e2]) (by first | rfl | simp only [e2]) ?_
        refine tc_seq ?_
        obtain ⟨b2, o1, rfl⟩ := RS.addr h_l (k := kn1) (by first | omega | (have q_ := auditFind_bd (l := l) (by assumption) (by assumption); omega))
        obtain ⟨x1, hx1⟩ := getX (l := l) (k := kn1) (by first | omega | (have q_ := auditFind_bd (l := l) (by assumption) (by assumption); omega))
        obtain ⟨_, ⟨a1, c1, rfl, hs1⟩, hc1⟩ := RS.get h_l hx1
        obtain ⟨x2, hx2⟩ := getX (l := l) (k := kn2) (by first | omega | (have q_ := auditFind_bd (l := l) (by assumption) (by assumption); omega))
        obtain ⟨_, ⟨a2, c2, rfl, hs2⟩, hc2⟩ := RS.get h_l hx2
        refine tc_draw [] ?_
        refine dr_V [(0, Sl (At b2 o1) l.length c_l), (1, Pt b1 0), (2, I ((kn1 : Int))), (3, Pt b2 (o1 + kn1 * 1)), (4, Sl a1 x1.length c1), (5, Sl (At b2 o1) l.length c_l), (6, Pt b1 1), (7, I ((kn2 : Int))), (8, Pt b2 (o1 + kn2 * 1)), (9, Sl a2 x2.length c2), (10, .tuple #[I ((chainFork x1 x2).1), I ((chainFork x1 x2).2)]), (11, .tuple #[I ((chainFork x1 x2).1), I ((chainFork x1 x2).2)]), (12, I ((chainFork x1 x2).1)), (13, I ((chainFork x1 x2).2)), (14, I ((chainFork x1 x2).1)), (15, I ((chainFork x1 x2).2))] ?_
        refine dr_end [] [(0,0), (1,0), (2,2), (5,0), (6,0), (7,2), (11,0), (12,0), (13,0), (14,0), (15,0)] [3, 4, 8, 9, 10] [(0, Sl (At b2 o1) l.length c_l), (1, Sl a_a a.length c_a), (2, Sl a_cuts cuts.length c_cuts), (6, Bo false), (7, Pt b1 0), (8, Bo ((auditFind l).2.1)), (10, I ((chainFork x1 x2).1)), (11, I ((chainFork x1 x2).2)), (21, Bo false), (29, Bo (!decide ((auditFind l).2.2 = 0))), (37, Bo ((auditFind l).2.1)), (54, Bo (((decide (((auditFind l).1).a < 0)) || (decide (((auditFind l).1).a ≥ ((auditFind l).1).b))) || (decide (((auditFind l).1).b ≥ ((l.length : Nat) : Int)))))] (List.forall_mem_cons.2 ⟨?_, (List.forall_mem_cons.2 ⟨?_, (List.forall_mem_cons.2 ⟨?_, (List.forall_mem_cons.2 ⟨?_, (List.forall_mem_cons.2 ⟨?_, List.forall_mem_nil _⟩)⟩)⟩)⟩)⟩) ?_
        · refine stab_of 3 59 (Pt b2 (o1 + kn1 * 1)) [(56, Sl (At b2 o1) l.length c_l), (58, I ((kn1 : Int)))] (fun X => ?_)
          exact runL_idx (b := b2) (off := o1) (len := l.length) (cap := c_l) (ik := .i64) 59 25 1 kn1 (by first | omega | (have q_ := auditFind_bd (l := l) (by assumption) (by assumption); omega)) stab_end
        · refine stab_of 4 60 (Sl a1 x1.length c1) [(59, Pt b2 (o1 + kn1 * 1))] (fun X => ?_)
          exact runL_ldG 60 25 (cs := [Sl a1 x1.length c1]) 0 (Sl a1 x1.length c1) hc1 stab_end
        · refine stab_of 8 64 (Pt b2 (o1 + kn2 * 1)) [(61, Sl (At b2 o1) l.length c_l), (63, I ((kn2 : Int)))] (fun X => ?_)
          exact runL_idx (b := b2) (off := o1) (len := l.length) (cap := c_l) (ik := .i64) 64 25 1 kn2 (by first | omega | (have q_ := auditFind_bd (l := l) (by assumption) (by assumption); omega)) stab_end
        · refine stab_of 9 65 (Sl a2 x2.length c2) [(64, Pt b2 (o1 + kn2 * 1))] (fun X => ?_)
          exact runL_ldG 65 25 (cs := [Sl a2 x2.length c2]) 0 (Sl a2 x2.length c2) hc2 stab_end
        · refine stab_of 10 66 (.tuple #[I ((chainFork x1 x2).1), I ((chainFork x1 x2).2)]) [(60, Sl a1 x1.length c1), (65, Sl a2 x2.length c2)] (fun X => ?_)
          exact runL_callV 66 (.tuple #[I ((chainFork x1 x2).1), I ((chainFork x1 x2).2)]) (chainFork_con G a1 c1 x1 hs1 a2 c2 x2 hs2) stab_end
        refine tq_then ?_
        refine tc_seq ?_
        refine tc_region ?_
        refine runL_b [0,0,0] [(0, Sl (At b2 o1) l.length c_l), (1, Sl a_a a.length c_a), (2, Sl a_cuts cuts.length c_cuts), (6, Bo false), (7, Pt b1 0), (8, Bo ((auditFind l).2.1)), (10, I ((chainFork x1 x2).1)), (21, Bo false), (29, Bo (!decide ((auditFind l).2.2 = 0))), (37, Bo ((auditFind l).2.1)), (54, Bo (((decide (((auditFind l).1).a < 0)) || (decide (((auditFind l).1).a ≥ ((auditFind l).1).b))) || (decide (((auditFind l).1).b ≥ ((l.length : Nat) : Int))))), (71, Bo (!decide ((chainFork x1 x2).2 = 0)))] ?_
        refine runL_b2 (!decide ((chainFork x1 x2).2 = 0)) (fun bb => [(0, Sl (At b2 o1) l.length c_l), (1, Sl a_a a.length c_a), (2, Sl a_cuts cuts.length c_cuts), (6, Bo false), (7, Pt b1 0), (8, Bo ((auditFind l).2.1)), (10, I ((chainFork x1 x2).1)), (21, Bo false), (29, Bo (!decide ((auditFind l).2.2 = 0))), (37, Bo ((auditFind l).2.1)), (54, Bo (((decide (((auditFind l).1).a < 0)) || (decide (((auditFind l).1).a ≥ ((auditFind l).1).b))) || (decide (((auditFind l).1).b ≥ ((l.length : Nat) : Int))))), (71, Bo bb)]) [1,1,1,1,0] [0,0,2,0,0] (fun bb => [(0, Sl (At b2 o1) l.length c_l), (1, Sl a_a a.length c_a), (2, Sl a_cuts cuts.length c_cuts), (6, Bo false), (7, Pt b1 0), (8, Bo ((auditFind l).2.1)), (21, Bo false), (29, Bo (!decide ((auditFind l).2.2 = 0))), (37, Bo ((auditFind l).2.1)), (54, Bo (((decide (((auditFind l).1).a < 0)) || (decide (((auditFind l).1).a ≥ ((auditFind l).1).b))) || (decide (((auditFind l).1).b ≥ ((l.length : Nat) : Int))))), (76, Bo (bb || (!decide ((chainFork x1 x2).1 = ((auditFind l).1).epoch))))]) ?_
        refine runL_nil ?_
        refine tq_then ?_
        refine tc_cond ((!decide ((chainFork x1 x2).2 = 0)) || (!decide ((chainFork x1 x2).1 = ((auditFind l).1).epoch))) (fun h4 => ?_) (fun h4 => ?_)
        ·
          try simp only [decide_eq_true_eq, decide_eq_false_iff_not, Bool.and_eq_true, Bool.or_eq_true, Bool.and_eq_false_imp, Bool.or_eq_false_iff, Bool.not_eq_true', Bool.not_eq_false', Bool.not_eq_true, Bool.not_eq_false, beq_iff_eq, beq_eq_false_iff_ne, bne_iff_ne, ne_eq, Decidable.not_not, Int.not_lt, Int.not_le] at h4
          refine tc_rb [0] [(0, Sl (At b2 o1) l.length c_l), (1, Sl a_a a.length c_a), (2, Sl a_cuts cuts.length c_cuts), (6, Bo false), (7, Pt b1 0), (8, Bo ((auditFind l).2.1)), (21, Bo false), (29, Bo (!decide ((auditFind l).2.2 = 0))), (37, Bo ((auditFind l).2.1)), (54, Bo (((decide (((auditFind l).1).a < 0)) || (decide (((auditFind l).1).a ≥ ((auditFind l).1).b))) || (decide (((auditFind l).1).b ≥ ((l.length : Nat) : Int))))), (76, Bo ((!decide ((chainFork x1 x2).2 = 0)) || (!decide ((chainFork x1 x2).1 = ((auditFind l).1).epoch))))] ?_
          refine tc_ret ?_
          refine tq_then_ret ?_
          refine tq_ret [0] [Bo false] (bp_ret (Mem.le_refl _) ?_)
          exfalso
          first | (simp [auditFind_err (by assumption), foundZ]; done) | (have q_ := parts_end hxw; simp [q_]; done) | (have q_ := auditFind_bd (l := l) (by assumption) (by assumption); omega) | (have q_ := auditFind_fork (l := l) (by assumption) (by assumption) hkn1 hkn2 (by assumption) (by assumption); simp_all)
        ·
          try simp only [decide_eq_true_eq, decide_eq_false_iff_not, Bool.and_eq_true, Bool.or_eq_true, Bool.and_eq_false_imp, Bool.or_eq_false_iff, Bool.not_eq_true', Bool.not_eq_false', Bool.not_eq_true, Bool.not_eq_false, beq_iff_eq, beq_eq_false_iff_ne, bne_iff_ne, ne_eq, Decidable.not_not, Int.not_lt, Int.not_le] at h4
          refine tc_skip ?_
          refine tq_then ?_
          refine tc_rb [0] [(0, Sl (At b2 o1) l.length c_l), (1, Sl a_a a.length c_a), (2, Sl a_cuts cuts.length c_cuts), (6, Bo false), (7, Pt b1 0), (8, Bo ((auditFind l).2.1)), (12, Sl none 0 0), (21, Bo false), (29, Bo (!decide ((auditFind l).2.2 = 0))), (37, Bo ((auditFind l).2.1)), (54, Bo (((decide (((auditFind l).1).a < 0)) || (decide (((auditFind l).1).a ≥ ((auditFind l).1).b))) || (decide (((auditFind l).1).b ≥ ((l.length : Nat) : Int))))), (76, Bo ((!decide ((chainFork x1 x2).2 = 0)) || (!decide ((chainFork x1 x2).1 = ((auditFind l).1).epoch))))] ?_
          refine tc_seq ?_
          refine tc_rb [0,0,0] [(0, Sl (At b2 o1) l.length c_l), (1, Sl a_a a.length c_a), (6, Bo false), (7, Pt b1 0), (8, Bo ((auditFind l).2.1)), (12, Sl none 0 0), (21, Bo false), (29, Bo (!decide ((auditFind l).2.2 = 0))), (37, Bo ((auditFind l).2.1)), (54, Bo (((decide (((auditFind l).1).a < 0)) || (decide (((auditFind l).1).a ≥ ((auditFind l).1).b))) || (decide (((auditFind l).1).b ≥ ((l.length : Nat) : Int))))), (76, Bo ((!decide ((chainFork x1 x2).2 = 0)) || (!decide ((chainFork x1 x2).1 = ((auditFind l).1).epoch)))), (77, Sl a_cuts cuts.length c_cuts), (78, I (((cuts.length : Nat) : Int))), (79, I 0)] ?_
          refine tc_block ?_
          refine tc_empty ?_
          have hlm_h_l : l.length ≤ 9223372036854775807 := Nat.le_trans (h_l).le (h_l).max
          have hlm_h_a : a.length ≤ 9223372036854775807 := Nat.le_trans (h_a).le (h_a).max
          have hlm_h_cuts : cuts.length ≤ 9223372036854775807 := Nat.le_trans (h_cuts).le (h_cuts).max
          refine tc_loop (σ := Nat × Option Addr × Nat × List Seg × List (List HeadD) × Mem) (fun q_ => (Mem.le G q_.2.2.2.2.2) ∧ (q_.1 ≤ cuts.length) ∧ (TRow ESlHead q_.2.2.2.2.2 q_.2.1 q_.2.2.1 q_.2.2.2.2.1 q_.2.2.2.1) ∧ (PartsInv a q_.1 q_.2.2.2.2.1)) (fun q_ => [(0, Sl (At b2 o1) l.length c_l), (1, Sl a_a a.length c_a), (6, Bo false), (7, Pt b1 0), (8, Bo ((auditFind l).2.1)), (12, Sl q_.2.1 q_.2.2.2.2.1.length q_.2.2.1), (21, Bo false), (29, Bo (!decide ((auditFind l).2.2 = 0))), (37, Bo ((auditFind l).2.1)), (54, Bo (((decide (((auditFind l).1).a < 0)) || (decide (((auditFind l).1).a ≥ ((auditFind l).1).b))) || (decide (((auditFind l).1).b ≥ ((l.length : Nat) : Int))))), (76, Bo ((!decide ((chainFork x1 x2).2 = 0)) || (!decide ((chainFork x1 x2).1 = ((auditFind l).1).epoch)))), (77, Sl a_cuts cuts.length c_cuts), (78, I (((cuts.length : Nat) : Int))), (79, I ((q_.1 : Int)))]) (fun q_ => q_.2.2.2.2.2) (fun q_ => [q_.2.2.2.1, [Sg b1 0 [I ((kn1 : Int)), I ((kn2 : Int)), I (((auditFind l).1).epoch)]]]) (fun q_ => cuts.length - q_.1) ((0, none, 0, [], [], G)) ⟨(Mem.le_refl _), (by (try dsimp only); first | exact Nat.zero_le _ | omega | simp), (TRow.none ESlHead _), (parts_start _)⟩ (fun q_ hs => ?_)
          obtain ⟨i, aw, cw, rw, xw, g⟩ := q_
          obtain ⟨hle, hi, hrw, hxw⟩ := hs
          dsimp only at hle hi hrw hxw
          refine tc_eq (fr' := [(0, Sl (At b2 o1) l.length c_l), (1, Sl a_a a.length c_a), (6, Bo false), (7, Pt b1 0), (8, Bo ((auditFind l).2.1)), (12, Sl aw xw.length cw), (21, Bo false), (29, Bo (!decide ((auditFind l).2.2 = 0))), (37, Bo ((auditFind l).2.1)), (54, Bo (((decide (((auditFind l).1).a < 0)) || (decide (((auditFind l).1).a ≥ ((auditFind l).1).b))) || (decide (((auditFind l).1).b ≥ ((l.length : Nat) : Int))))), (76, Bo ((!decide ((chainFork x1 x2).2 = 0)) || (!decide ((chainFork x1 x2).1 = ((auditFind l).1).epoch)))), (77, Sl a_cuts cuts.length c_cuts), (78, I (((cuts.length : Nat) : Int))), (79, I ((i : Int)))]) (L' := [rw, [Sg b1 0 [I ((kn1 : Int)), I ((kn2 : Int)), I (((auditFind l).1).epoch)]]]) rfl rfl ?_
          refine tc_rb [0] [(0, Sl (At b2 o1) l.length c_l), (1, Sl a_a a.length c_a), (6, Bo false), (7, Pt b1 0), (8, Bo ((auditFind l).2.1)), (12, Sl aw xw.length cw), (21, Bo false), (29, Bo (!decide ((auditFind l).2.2 = 0))), (37, Bo ((auditFind l).2.1)), (54, Bo (((decide (((auditFind l).1).a < 0)) || (decide (((auditFind l).1).a ≥ ((auditFind l).1).b))) || (decide (((auditFind l).1).b ≥ ((l.length : Nat) : Int))))), (76, Bo ((!decide ((chainFork x1 x2).2 = 0)) || (!decide ((chainFork x1 x2).1 = ((auditFind l).1).epoch)))), (77, Sl a_cuts cuts.length c_cuts), (78, I (((cuts.length : Nat) : Int))), (79, I ((i : Int))), (80, Bo (decide ((i : Int) < ((cuts.length : Nat) : Int))))] ?_
          refine tc_seq ?_
          refine tc_cond (decide ((i : Int) < ((cuts.length : Nat) : Int))) (fun h5 => ?_) (fun h5 => ?_)
          ·
            try simp only [decide_eq_true_eq, decide_eq_false_iff_not, Bool.and_eq_true, Bool.or_eq_true, Bool.and_eq_false_imp, Bool.or_eq_false_iff, Bool.not_eq_true', Bool.not_eq_false', Bool.not_eq_true, Bool.not_eq_false, beq_iff_eq, beq_eq_false_iff_ne, bne_iff_ne, ne_eq, Decidable.not_not, Int.not_lt, Int.not_le] at h5
            refine tc_skip ?_
            refine tq_then ?_
            refine tc_seq ?_
            refine tc_block ?_
            refine tc_seq ?_
            refine tc_region ?_
            refine runL_b [0] [(0, Sl (At b2 o1) l.length c_l), (1, Sl a_a a.length c_a), (6, Bo false), (7, Pt b1 0), (8, Bo ((auditFind l).2.1)), (12, Sl aw xw.length cw), (21, Bo false), (29, Bo (!decide ((auditFind l).2.2 = 0))), (37, Bo ((auditFind l).2.1)), (54, Bo (((decide (((auditFind l).1).a < 0)) || (decide (((auditFind l).1).a ≥ ((auditFind l).1).b))) || (decide (((auditFind l).1).b ≥ ((l.length : Nat) : Int))))), (76, Bo ((!decide ((chainFork x1 x2).2 = 0)) || (!decide ((chainFork x1 x2).1 = ((auditFind l).1).epoch)))), (77, Sl a_cuts cuts.length c_cuts), (78, I (((cuts.length : Nat) : Int))), (79, I ((i : Int))), (80, Bo (decide ((i : Int) < ((cuts.length : Nat) : Int)))), (81, I ((i : Int)))] ?_
            obtain ⟨b3, o2, rfl⟩ := RS.addr (h_cuts.mono hle) (k := i) (by first | omega | (have q_ := auditFind_bd (l := l) (by assumption) (by assumption); omega))
            obtain ⟨x3, hx3⟩ := getX (l := cuts) (k := i) (by first | omega | (have q_ := auditFind_bd (l := l) (by assumption) (by assumption); omega))
            obtain ⟨_, ⟨rfl, w1, w2⟩, hc3⟩ := RS.get (h_cuts.mono hle) hx3
            refine runL_idx (b := b3) (off := o2) (len := cuts.length) (cap := c_cuts) (ik := .i64) 82 91 2 i (by first | omega | (have q_ := auditFind_bd (l := l) (by assumption) (by assumption); omega)) ?_
            refine runL_ldG 83 91 (cs := [I x3.x, I x3.y]) 0 (.agg #[I x3.x, I x3.y]) hc3 ?_
            refine runL_box 14 #[I 0, I 0] 91 (fun b4 => ?_)
            refine runL_bs [0,3] [(0, Sl (At b2 o1) l.length c_l), (1, Sl a_a a.length c_a), (6, Bo false), (7, Pt b1 0), (8, Bo ((auditFind l).2.1)), (12, Sl aw xw.length cw), (13, I ((i : Int))), (14, Pt b4 0), (21, Bo false), (29, Bo (!decide ((auditFind l).2.2 = 0))), (37, Bo ((auditFind l).2.1)), (54, Bo (((decide (((auditFind l).1).a < 0)) || (decide (((auditFind l).1).a ≥ ((auditFind l).1).b))) || (decide (((auditFind l).1).b ≥ ((l.length : Nat) : Int))))), (76, Bo ((!decide ((chainFork x1 x2).2 = 0)) || (!decide ((chainFork x1 x2).1 = ((auditFind l).1).epoch)))), (77, Sl (At b3 o2) cuts.length c_cuts), (78, I (((cuts.length : Nat) : Int))), (79, I ((i : Int))), (80, Bo (decide ((i : Int) < ((cuts.length : Nat) : Int))))] [[Sg b4 0 [I x3.x, I x3.y]], rw, [Sg b1 0 [I ((kn1 : Int)), I ((kn2 : Int)), I (((auditFind l).1).epoch)]]] ?_
            refine runL_nil ?_
            refine tq_then ?_
            refine tc_seq ?_
            refine tc_region ?_
            refine runL_b [0,0,2,0,2] [(0, Sl (At b2 o1) l.length c_l), (1, Sl a_a a.length c_a), (6, Bo false), (7, Pt b1 0), (8, Bo ((auditFind l).2.1)), (12, Sl aw xw.length cw), (13, I ((i : Int))), (14, Pt b4 0), (21, Bo false), (29, Bo (!decide ((auditFind l).2.2 = 0))), (37, Bo ((auditFind l).2.1)), (54, Bo (((decide (((auditFind l).1).a < 0)) || (decide (((auditFind l).1).a ≥ ((auditFind l).1).b))) || (decide (((auditFind l).1).b ≥ ((l.length : Nat) : Int))))), (76, Bo ((!decide ((chainFork x1 x2).2 = 0)) || (!decide ((chainFork x1 x2).1 = ((auditFind l).1).epoch)))), (77, Sl (At b3 o2) cuts.length c_cuts), (78, I (((cuts.length : Nat) : Int))), (79, I ((i : Int))), (80, Bo (decide ((i : Int) < ((cuts.length : Nat) : Int)))), (85, Sl a_a a.length c_a), (87, I x3.x), (89, I x3.y)] ?_
            refine runL_callR 90 (chainPart_con g a_a c_a a (h_a.mono hle) x3.x w1 x3.y w2) (fun v G1 L1 hl1 hp => ?_)
            obtain ⟨a3, c3, rfl, hs3, rfl⟩ := hp
            refine runL_b [0,0,0,0,0] [(0, Sl (At b2 o1) l.length c_l), (1, Sl a_a a.length c_a), (6, Bo false), (7, Pt b1 0), (8, Bo ((auditFind l).2.1)), (12, Sl aw xw.length cw), (13, I ((i : Int))), (14, Pt b4 0), (15, Sl a3 (((chainPart a x3.x x3.y).1).length) c3), (16, I ((chainPart a x3.x x3.y).2)), (21, Bo false), (29, Bo (!decide ((auditFind l).2.2 = 0))), (37, Bo ((auditFind l).2.1)), (54, Bo (((decide (((auditFind l).1).a < 0)) || (decide (((auditFind l).1).a ≥ ((auditFind l).1).b))) || (decide (((auditFind l).1).b ≥ ((l.length : Nat) : Int))))), (76, Bo ((!decide ((chainFork x1 x2).2 = 0)) || (!decide ((chainFork x1 x2).1 = ((auditFind l).1).epoch)))), (77, Sl (At b3 o2) cuts.length c_cuts), (78, I (((cuts.length : Nat) : Int))), (79, I ((i : Int))), (80, Bo (decide ((i : Int) < ((cuts.length : Nat) : Int))))] ?_
            refine runL_nil ?_
            refine tq_then ?_
            refine tc_seq ?_
            refine tc_region ?_
            refine runL_b [0,0,0] [(0, Sl (At b2 o1) l.length c_l), (1, Sl a_a a.length c_a), (6, Bo false), (7, Pt b1 0), (8, Bo ((auditFind l).2.1)), (12, Sl aw xw.length cw), (13, I ((i : Int))), (14, Pt b4 0), (15, Sl a3 (((chainPart a x3.x x3.y).1).length) c3), (16, I ((chainPart a x3.x x3.y).2)), (21, Bo false), (29, Bo (!decide ((auditFind l).2.2 = 0))), (37, Bo ((auditFind l).2.1)), (54, Bo (((decide (((auditFind l).1).a < 0)) || (decide (((auditFind l).1).a ≥ ((auditFind l).1).b))) || (decide (((auditFind l).1).b ≥ ((l.length : Nat) : Int))))), (76, Bo ((!decide ((chainFork x1 x2).2 = 0)) || (!decide ((chainFork x1 x2).1 = ((auditFind l).1).epoch)))), (77, Sl (At b3 o2) cuts.length c_cuts), (78, I (((cuts.length : Nat) : Int))), (79, I ((i : Int))), (80, Bo (decide ((i : Int) < ((cuts.length : Nat) : Int)))), (95, Bo (decide ((chainPart a x3.x x3.y).2 = 0)))] ?_
            refine runL_b2 (decide ((chainPart a x3.x x3.y).2 = 0)) (fun bb => [(0, Sl (At b2 o1) l.length c_l), (1, Sl a_a a.length c_a), (6, Bo false), (7, Pt b1 0), (8, Bo ((auditFind l).2.1)), (12, Sl aw xw.length cw), (13, I ((i : Int))), (14, Pt b4 0), (15, Sl a3 (((chainPart a x3.x x3.y).1).length) c3), (16, I ((chainPart a x3.x x3.y).2)), (21, Bo false), (29, Bo (!decide ((auditFind l).2.2 = 0))), (37, Bo ((auditFind l).2.1)), (54, Bo (((decide (((auditFind l).1).a < 0)) || (decide (((auditFind l).1).a ≥ ((auditFind l).1).b))) || (decide (((auditFind l).1).b ≥ ((l.length : Nat) : Int))))), (76, Bo ((!decide ((chainFork x1 x2).2 = 0)) || (!decide ((chainFork x1 x2).1 = ((auditFind l).1).epoch)))), (77, Sl (At b3 o2) cuts.length c_cuts), (78, I (((cuts.length : Nat) : Int))), (79, I ((i : Int))), (80, Bo (decide ((i : Int) < ((cuts.length : Nat) : Int)))), (95, Bo bb)]) [0,0,0] [1,1,0] (fun bb => [(0, Sl (At b2 o1) l.length c_l), (1, Sl a_a a.length c_a), (6, Bo false), (7, Pt b1 0), (8, Bo ((auditFind l).2.1)), (12, Sl aw xw.length cw), (13, I ((i : Int))), (14, Pt b4 0), (15, Sl a3 (((chainPart a x3.x x3.y).1).length) c3), (16, I ((chainPart a x3.x x3.y).2)), (21, Bo false), (29, Bo (!decide ((auditFind l).2.2 = 0))), (37, Bo ((auditFind l).2.1)), (54, Bo (((decide (((auditFind l).1).a < 0)) || (decide (((auditFind l).1).a ≥ ((auditFind l).1).b))) || (decide (((auditFind l).1).b ≥ ((l.length : Nat) : Int))))), (76, Bo ((!decide ((chainFork x1 x2).2 = 0)) || (!decide ((chainFork x1 x2).1 = ((auditFind l).1).epoch)))), (77, Sl (At b3 o2) cuts.length c_cuts), (78, I (((cuts.length : Nat) : Int))), (79, I ((i : Int))), (80, Bo (decide ((i : Int) < ((cuts.length : Nat) : Int)))), (98, Bo (bb && (decide ((i : Int) < 8))))]) ?_
            refine runL_nil ?_
            refine tq_then ?_
            refine tc_cond ((decide ((chainPart a x3.x x3.y).2 = 0)) && (decide ((i : Int) < 8))) (fun h6 => ?_) (fun h6 => ?_)
            ·
              try simp only [decide_eq_true_eq, decide_eq_false_iff_not, Bool.and_eq_true, Bool.or_eq_true, Bool.and_eq_false_imp, Bool.or_eq_false_iff, Bool.not_eq_true', Bool.not_eq_false', Bool.not_eq_true, Bool.not_eq_false, beq_iff_eq, beq_eq_false_iff_ne, bne_iff_ne, ne_eq, Decidable.not_not, Int.not_lt, Int.not_le] at h6
              refine tc_region ?_
              refine runL_b [0,0] [(0, Sl (At b2 o1) l.length c_l), (1, Sl a_a a.length c_a), (6, Bo false), (7, Pt b1 0), (8, Bo ((auditFind l).2.1)), (12, Sl aw xw.length cw), (13, I ((i : Int))), (14, Pt b4 0), (15, Sl a3 (((chainPart a x3.x x3.y).1).length) c3), (16, I ((chainPart a x3.x x3.y).2)), (21, Bo false), (29, Bo (!decide ((auditFind l).2.2 = 0))), (37, Bo ((auditFind l).2.1)), (54, Bo (((decide (((auditFind l).1).a < 0)) || (decide (((auditFind l).1).a ≥ ((auditFind l).1).b))) || (decide (((auditFind l).1).b ≥ ((l.length : Nat) : Int))))), (76, Bo ((!decide ((chainFork x1 x2).2 = 0)) || (!decide ((chainFork x1 x2).1 = ((auditFind l).1).epoch)))), (77, Sl (At b3 o2) cuts.length c_cuts), (78, I (((cuts.length : Nat) : Int))), (79, I ((i : Int))), (80, Bo (decide ((i : Int) < ((cuts.length : Nat) : Int)))), (98, Bo ((decide ((chainPart a x3.x x3.y).2 = 0)) && (decide ((i : Int) < 8)))), (99, Sl aw xw.length cw), (100, Sl a3 (((chainPart a x3.x x3.y).1).length) c3)] ?_
              refine runL_bsl 101 1 #[Sl a3 (((chainPart a x3.x x3.y).1).length) c3] 25 (fun b5 => ?_)
              refine runL_app1' (b := b5) (cs := [Sl a3 (((chainPart a x3.x x3.y).1).length) c3]) 102 25 2 0 (E := ESlHead) ((chainPart a x3.x x3.y).1) (hrw.mono hl1) ⟨a3, c3, rfl, hs3⟩ (by have q_ := hxw.len8; (try simp only [ESlHead, List.length_append, List.length_cons, List.length_nil] at *); omega) (by have q_ := hxw.len8; (try simp only [ESlHead, List.length_append, List.length_cons, List.length_nil] at *); omega) (fun a4 c4 r1 hr1 => ?_)
              refine runL_b [0] [(0, Sl (At b2 o1) l.length c_l), (1, Sl a_a a.length c_a), (6, Bo false), (7, Pt b1 0), (8, Bo ((auditFind l).2.1)), (12, Sl a4 ((xw ++ [(chainPart a x3.x x3.y).1]).length) c4), (13, I ((i : Int))), (14, Pt b4 0), (15, Sl a3 (((chainPart a x3.x x3.y).1).length) c3), (16, I ((chainPart a x3.x x3.y).2)), (21, Bo false), (29, Bo (!decide ((auditFind l).2.2 = 0))), (37, Bo ((auditFind l).2.1)), (54, Bo (((decide (((auditFind l).1).a < 0)) || (decide (((auditFind l).1).a ≥ ((auditFind l).1).b))) || (decide (((auditFind l).1).b ≥ ((l.length : Nat) : Int))))), (76, Bo ((!decide ((chainFork x1 x2).2 = 0)) || (!decide ((chainFork x1 x2).1 = ((auditFind l).1).epoch)))), (77, Sl (At b3 o2) cuts.length c_cuts), (78, I (((cuts.length : Nat) : Int))), (79, I ((i : Int))), (80, Bo (decide ((i : Int) < ((cuts.length : Nat) : Int)))), (98, Bo ((decide ((chainPart a x3.x x3.y).2 = 0)) && (decide ((i : Int) < 8))))] ?_
              refine runL_nil ?_
              refine tq_block ?_
              refine tq_then ?_
              refine tc_region ?_
              refine runL_b [0,0] [(0, Sl (At b2 o1) l.length c_l), (1, Sl a_a a.length c_a), (6, Bo false), (7, Pt b1 0), (8, Bo ((auditFind l).2.1)), (12, Sl a4 ((xw ++ [(chainPart a x3.x x3.y).1]).length) c4), (13, I ((i : Int))), (14, Pt b4 0), (15, Sl a3 (((chainPart a x3.x x3.y).1).length) c3), (16, I ((chainPart a x3.x x3.y).2)), (21, Bo false), (29, Bo (!decide ((auditFind l).2.2 = 0))), (37, Bo ((auditFind l).2.1)), (54, Bo (((decide (((auditFind l).1).a < 0)) || (decide (((auditFind l).1).a ≥ ((auditFind l).1).b))) || (decide (((auditFind l).1).b ≥ ((l.length : Nat) : Int))))), (76, Bo ((!decide ((chainFork x1 x2).2 = 0)) || (!decide ((chainFork x1 x2).1 = ((auditFind l).1).epoch)))), (77, Sl (At b3 o2) cuts.length c_cuts), (78, I (((cuts.length : Nat) : Int))), (79, I (IntKind.i64.wrap (((i : Int)) + 1))), (80, Bo (decide ((i : Int) < ((cuts.length : Nat) : Int)))), (98, Bo ((decide ((chainPart a x3.x x3.y).2 = 0)) && (decide ((i : Int) < 8))))] ?_
              have e3 : IntKind.i64.wrap (((i : Int)) + 1) = ((i : Int)) + 1 := IntWalk.i64_in _ (by first | omega | (have q_ := auditFind_bd (l := l) (by assumption) (by assumption); omega))
              refine runL_eq (fr' := [(0, Sl (At b2 o1) l.length c_l), (1, Sl a_a a.length c_a), (6, Bo false), (7, Pt b1 0), (8, Bo ((auditFind l).2.1)), (12, Sl a4 ((xw ++ [(chainPart a x3.x x3.y).1]).length) c4), (13, I ((i : Int))), (14, Pt b4 0), (15, Sl a3 (((chainPart a x3.x x3.y).1).length) c3), (16, I ((chainPart a x3.x x3.y).2)), (21, Bo false), (29, Bo (!decide ((auditFind l).2.2 = 0))), (37, Bo ((auditFind l).2.1)), (54, Bo (((decide (((auditFind l).1).a < 0)) || (decide (((auditFind l).1).a ≥ ((auditFind l).1).b))) || (decide (((auditFind l).1).b ≥ ((l.length : Nat) : Int))))), (76, Bo ((!decide ((chainFork x1 x2).2 = 0)) || (!decide ((chainFork x1 x2).1 = ((auditFind l).1).epoch)))), (77, Sl (At b3 o2) cuts.length c_cuts), (78, I (((cuts.length : Nat) : Int))), (79, I (((i : Int)) + 1)), (80, Bo (decide ((i : Int) < ((cuts.length : Nat) : Int)))), (98, Bo ((decide ((chainPart a x3.x x3.y).2 = 0)) && (decide ((i : Int) < 8))))]) (L' := [[Sg b5 0 [Sl a3 (((chainPart a x3.x x3.y).1).length) c3]], [Sg b4 0 [I x3.x, I x3.y]], r1, [Sg b1 0 [I ((kn1 : Int)), I ((kn2 : Int)), I (((auditFind l).1).epoch)]]]) (by simp only [e3]) (by rfl) ?_
              clear e3
              refine runL_nil ?_
              refine tq_owns [r1, [Sg b1 0 [I ((kn1 : Int)), I ((kn2 : Int)), I (((auditFind l).1).epoch)]]] ((.cons _ (.cons _ (.cons_cons _ (.cons_cons _ .slnil))))) ?_
              exact tq_rnd ((i + 1, a4, c4, r1, xw ++ [(chainPart a x3.x x3.y).1], G1)) ⟨(Mem.le_trans hle hl1), (by omega), hr1, (by first | exact parts_add hxw (by simp_all) (by omega) | exact parts_skip hxw)⟩ (by (try dsimp only); omega)
            ·
              try simp only [decide_eq_true_eq, decide_eq_false_iff_not, Bool.and_eq_true, Bool.or_eq_true, Bool.and_eq_false_imp, Bool.or_eq_false_iff, Bool.not_eq_true', Bool.not_eq_false', Bool.not_eq_true, Bool.not_eq_false, beq_iff_eq, beq_eq_false_iff_ne, bne_iff_ne, ne_eq, Decidable.not_not, Int.not_lt, Int.not_le] at h6
              refine tc_skip ?_
              refine tq_block ?_
              refine tq_then ?_
              refine tc_region ?_
              refine runL_b [0,0] [(0, Sl (At b2 o1) l.length c_l), (1, Sl a_a a.length c_a), (6, Bo false), (7, Pt b1 0), (8, Bo ((auditFind l).2.1)), (12, Sl aw xw.length cw), (13, I ((i : Int))), (14, Pt b4 0), (15, Sl a3 (((chainPart a x3.x x3.y).1).length) c3), (16, I ((chainPart a x3.x x3.y).2)), (21, Bo false), (29, Bo (!decide ((auditFind l).2.2 = 0))), (37, Bo ((auditFind l).2.1)), (54, Bo (((decide (((auditFind l).1).a < 0)) || (decide (((auditFind l).1).a ≥ ((auditFind l).1).b))) || (decide (((auditFind l).1).b ≥ ((l.length : Nat) : Int))))), (76, Bo ((!decide ((chainFork x1 x2).2 = 0)) || (!decide ((chainFork x1 x2).1 = ((auditFind l).1).epoch)))), (77, Sl (At b3 o2) cuts.length c_cuts), (78, I (((cuts.length : Nat) : Int))), (79, I (IntKind.i64.wrap (((i : Int)) + 1))), (80, Bo (decide ((i : Int) < ((cuts.length : Nat) : Int)))), (98, Bo ((decide ((chainPart a x3.x x3.y).2 = 0)) && (decide ((i : Int) < 8))))] ?_
              have e4 : IntKind.i64.wrap (((i : Int)) + 1) = ((i : Int)) + 1 := IntWalk.i64_in _ (by first | omega | (have q_ := auditFind_bd (l := l) (by assumption) (by assumption); omega))
              refine runL_eq (fr' := [(0, Sl (At b2 o1) l.length c_l), (1, Sl a_a a.length c_a), (6, Bo false), (7, Pt b1 0), (8, Bo ((auditFind l).2.1)), (12, Sl aw xw.length cw), (13, I ((i : Int))), (14, Pt b4 0), (15, Sl a3 (((chainPart a x3.x x3.y).1).length) c3), (16, I ((chainPart a x3.x x3.y).2)), (21, Bo false), (29, Bo (!decide ((auditFind l).2.2 = 0))), (37, Bo ((auditFind l).2.1)), (54, Bo (((decide (((auditFind l).1).a < 0)) || (decide (((auditFind l).1).a ≥ ((auditFind l).1).b))) || (decide (((auditFind l).1).b ≥ ((l.length : Nat) : Int))))), (76, Bo ((!decide ((chainFork x1 x2).2 = 0)) || (!decide ((chainFork x1 x2).1 = ((auditFind l).1).epoch)))), (77, Sl (At b3 o2) cuts.length c_cuts), (78, I (((cuts.length : Nat) : Int))), (79, I (((i : Int)) + 1)), (80, Bo (decide ((i : Int) < ((cuts.length : Nat) : Int)))), (98, Bo ((decide ((chainPart a x3.x x3.y).2 = 0)) && (decide ((i : Int) < 8))))]) (L' := [[Sg b4 0 [I x3.x, I x3.y]], rw, [Sg b1 0 [I ((kn1 : Int)), I ((kn2 : Int)), I (((auditFind l).1).epoch)]]]) (by simp only [e4]) (by rfl) ?_
              clear e4
              refine runL_nil ?_
              refine tq_owns [rw, [Sg b1 0 [I ((kn1 : Int)), I ((kn2 : Int)), I (((auditFind l).1).epoch)]]] ((.cons _ (.cons_cons _ (.cons_cons _ .slnil)))) ?_
              exact tq_rnd ((i + 1, aw, cw, rw, xw, G1)) ⟨(Mem.le_trans hle hl1), (by omega), (hrw.mono hl1), (by first | exact parts_add hxw (by simp_all) (by omega) | exact parts_skip hxw)⟩ (by (try dsimp only); omega)
          ·
            try simp only [decide_eq_true_eq, decide_eq_false_iff_not, Bool.and_eq_true, Bool.or_eq_true, Bool.and_eq_false_imp, Bool.or_eq_false_iff, Bool.not_eq_true', Bool.not_eq_false', Bool.not_eq_true, Bool.not_eq_false, beq_iff_eq, beq_eq_false_iff_ne, bne_iff_ne, ne_eq, Decidable.not_not, Int.not_lt, Int.not_le] at h5
            refine tc_exit ?_
            refine tq_then_exit ?_
            refine tq_rnd_exit ?_
            refine tq_block_here ?_
            refine tq_then ?_
            refine tc_seq ?_
            refine tc_region ?_
            refine runL_b [0] [(0, Sl (At b2 o1) l.length c_l), (1, Sl a_a a.length c_a), (6, Bo false), (7, Pt b1 0), (8, Bo ((auditFind l).2.1)), (12, Sl aw xw.length cw), (21, Bo false), (29, Bo (!decide ((auditFind l).2.2 = 0))), (37, Bo ((auditFind l).2.1)), (54, Bo (((decide (((auditFind l).1).a < 0)) || (decide (((auditFind l).1).a ≥ ((auditFind l).1).b))) || (decide (((auditFind l).1).b ≥ ((l.length : Nat) : Int))))), (76, Bo ((!decide ((chainFork x1 x2).2 = 0)) || (!decide ((chainFork x1 x2).1 = ((auditFind l).1).epoch)))), (77, Sl a_cuts cuts.length c_cuts), (78, I (((cuts.length : Nat) : Int))), (79, I ((i : Int))), (80, Bo (decide ((i : Int) < ((cuts.length : Nat) : Int)))), (105, Sl aw xw.length cw)] ?_
            refine runL_frzR (E := ESlHead) 0 hrw (by have q_ := hxw.len8; (try simp only [ESlHead, List.length_append, List.length_cons, List.length_nil] at *); omega) (fun G2 hl2 hs4 => ?_)
            refine runL_callV 106 (.tuple #[.agg #[I (((auditFind xw).1).a), I (((auditFind xw).1).b), I (((auditFind xw).1).epoch)], Bo ((auditFind xw).2.1), I ((auditFind xw).2.2)]) (auditFind_con G2 aw cw xw hs4) ?_
            refine runL_b [0,0,0,0] [(0, Sl (At b2 o1) l.length c_l), (1, Sl a_a a.length c_a), (6, Bo false), (7, Pt b1 0), (8, Bo ((auditFind l).2.1)), (12, Sl aw xw.length cw), (21, Bo false), (29, Bo (!decide ((auditFind l).2.2 = 0))), (37, Bo ((auditFind l).2.1)), (54, Bo (((decide (((auditFind l).1).a < 0)) || (decide (((auditFind l).1).a ≥ ((auditFind l).1).b))) || (decide (((auditFind l).1).b ≥ ((l.length : Nat) : Int))))), (76, Bo ((!decide ((chainFork x1 x2).2 = 0)) || (!decide ((chainFork x1 x2).1 = ((auditFind l).1).epoch)))), (77, Sl a_cuts cuts.length c_cuts), (78, I (((cuts.length : Nat) : Int))), (79, I ((i : Int))), (80, Bo (decide ((i : Int) < ((cuts.length : Nat) : Int)))), (107, .agg #[I (((auditFind xw).1).a), I (((auditFind xw).1).b), I (((auditFind xw).1).epoch)]), (108, Bo ((auditFind xw).2.1)), (109, I ((auditFind xw).2.2))] ?_
            refine runL_box 17 #[I 0, I 0, I 0] 88 (fun b6 => ?_)
            refine runL_bs [3,0,0] [(0, Sl (At b2 o1) l.length c_l), (1, Sl a_a a.length c_a), (6, Bo false), (7, Pt b1 0), (8, Bo ((auditFind l).2.1)), (12, Sl aw xw.length cw), (18, Bo ((auditFind xw).2.1)), (19, I ((auditFind xw).2.2)), (21, Bo false), (29, Bo (!decide ((auditFind l).2.2 = 0))), (37, Bo ((auditFind l).2.1)), (54, Bo (((decide (((auditFind l).1).a < 0)) || (decide (((auditFind l).1).a ≥ ((auditFind l).1).b))) || (decide (((auditFind l).1).b ≥ ((l.length : Nat) : Int))))), (76, Bo ((!decide ((chainFork x1 x2).2 = 0)) || (!decide ((chainFork x1 x2).1 = ((auditFind l).1).epoch)))), (77, Sl a_cuts cuts.length c_cuts), (78, I (((cuts.length : Nat) : Int))), (79, I ((i : Int))), (80, Bo (decide ((i : Int) < ((cuts.length : Nat) : Int))))] [[Sg b6 0 [I (((auditFind xw).1).a), I (((auditFind xw).1).b), I (((auditFind xw).1).epoch)]], [], [Sg b1 0 [I ((kn1 : Int)), I ((kn2 : Int)), I (((auditFind l).1).epoch)]]] ?_
            refine runL_nil ?_
            refine tq_then ?_
            refine tc_seq ?_
            refine tc_region ?_
            refine runL_b [0,0,0] [(0, Sl (At b2 o1) l.length c_l), (1, Sl a_a a.length c_a), (6, Bo false), (7, Pt b1 0), (8, Bo ((auditFind l).2.1)), (12, Sl aw xw.length cw), (18, Bo ((auditFind xw).2.1)), (21, Bo false), (29, Bo (!decide ((auditFind l).2.2 = 0))), (37, Bo ((auditFind l).2.1)), (54, Bo (((decide (((auditFind l).1).a < 0)) || (decide (((auditFind l).1).a ≥ ((auditFind l).1).b))) || (decide (((auditFind l).1).b ≥ ((l.length : Nat) : Int))))), (76, Bo ((!decide ((chainFork x1 x2).2 = 0)) || (!decide ((chainFork x1 x2).1 = ((auditFind l).1).epoch)))), (77, Sl a_cuts cuts.length c_cuts), (78, I (((cuts.length : Nat) : Int))), (79, I ((i : Int))), (80, Bo (decide ((i : Int) < ((cuts.length : Nat) : Int)))), (112, Bo (decide ((auditFind xw).2.2 = 0)))] ?_
            refine runL_b2 (decide ((auditFind xw).2.2 = 0)) (fun bb => [(0, Sl (At b2 o1) l.length c_l), (1, Sl a_a a.length c_a), (6, Bo false), (7, Pt b1 0), (8, Bo ((auditFind l).2.1)), (12, Sl aw xw.length cw), (18, Bo ((auditFind xw).2.1)), (21, Bo false), (29, Bo (!decide ((auditFind l).2.2 = 0))), (37, Bo ((auditFind l).2.1)), (54, Bo (((decide (((auditFind l).1).a < 0)) || (decide (((auditFind l).1).a ≥ ((auditFind l).1).b))) || (decide (((auditFind l).1).b ≥ ((l.length : Nat) : Int))))), (76, Bo ((!decide ((chainFork x1 x2).2 = 0)) || (!decide ((chainFork x1 x2).1 = ((auditFind l).1).epoch)))), (77, Sl a_cuts cuts.length c_cuts), (78, I (((cuts.length : Nat) : Int))), (79, I ((i : Int))), (80, Bo (decide ((i : Int) < ((cuts.length : Nat) : Int)))), (112, Bo bb)]) [0,0,0] [1,1,0] (fun bb => [(0, Sl (At b2 o1) l.length c_l), (1, Sl a_a a.length c_a), (6, Bo false), (7, Pt b1 0), (8, Bo ((auditFind l).2.1)), (12, Sl aw xw.length cw), (21, Bo false), (29, Bo (!decide ((auditFind l).2.2 = 0))), (37, Bo ((auditFind l).2.1)), (54, Bo (((decide (((auditFind l).1).a < 0)) || (decide (((auditFind l).1).a ≥ ((auditFind l).1).b))) || (decide (((auditFind l).1).b ≥ ((l.length : Nat) : Int))))), (76, Bo ((!decide ((chainFork x1 x2).2 = 0)) || (!decide ((chainFork x1 x2).1 = ((auditFind l).1).epoch)))), (77, Sl a_cuts cuts.length c_cuts), (78, I (((cuts.length : Nat) : Int))), (79, I ((i : Int))), (80, Bo (decide ((i : Int) < ((cuts.length : Nat) : Int)))), (115, Bo (bb && (!((auditFind xw).2.1))))]) ?_
            refine runL_b [0] [(0, Sl (At b2 o1) l.length c_l), (1, Sl a_a a.length c_a), (6, Bo ((decide ((auditFind xw).2.2 = 0)) && (!((auditFind xw).2.1)))), (7, Pt b1 0), (8, Bo ((auditFind l).2.1)), (12, Sl aw xw.length cw), (21, Bo false), (29, Bo (!decide ((auditFind l).2.2 = 0))), (37, Bo ((auditFind l).2.1)), (54, Bo (((decide (((auditFind l).1).a < 0)) || (decide (((auditFind l).1).a ≥ ((auditFind l).1).b))) || (decide (((auditFind l).1).b ≥ ((l.length : Nat) : Int))))), (76, Bo ((!decide ((chainFork x1 x2).2 = 0)) || (!decide ((chainFork x1 x2).1 = ((auditFind l).1).epoch)))), (77, Sl a_cuts cuts.length c_cuts), (78, I (((cuts.length : Nat) : Int))), (79, I ((i : Int))), (80, Bo (decide ((i : Int) < ((cuts.length : Nat) : Int))))] ?_
            refine runL_nil ?_
            refine tq_then ?_
            refine tc_ret ?_
            refine tq_ret [0] [Bo ((decide ((auditFind xw).2.2 = 0)) && (!((auditFind xw).2.1)))] (bp_ret (Mem.le_trans hle hl2) ?_)
            have hf_ : ((decide ((auditFind xw).2.2 = 0)) && (!((auditFind xw).2.1))) = true := by
              first | (simp [auditFind_err (by assumption), foundZ]; done) | (have q_ := parts_end hxw; simp [q_]; done) | (have q_ := auditFind_bd (l := l) (by assumption) (by assumption); omega) | (have q_ := auditFind_fork (l := l) (by assumption) (by assumption) hkn1 hkn2 (by assumption) (by assumption); simp_all)
            exact congrArg Bo hf_
    ·
      try simp only [decide_eq_true_eq, decide_eq_false_iff_not, Bool.and_eq_true, Bool.or_eq_true, Bool.and_eq_false_imp, Bool.or_eq_false_iff, Bool.not_eq_true', Bool.not_eq_false', Bool.not_eq_true, Bool.not_eq_false, beq_iff_eq, beq_eq_false_iff_ne, bne_iff_ne, ne_eq, Decidable.not_not, Int.not_lt, Int.not_le] at h2
      refine tc_skip ?_
      refine tq_then ?_
      refine tc_rb [0] [(0, Sl a_l l.length c_l), (1, Sl a_a a.length c_a), (2, Sl a_cuts cuts.length c_cuts), (6, Bo false), (7, Pt b1 0), (8, Bo ((auditFind l).2.1)), (12, Sl none 0 0), (21, Bo false), (29, Bo (!decide ((auditFind l).2.2 = 0))), (37, Bo ((auditFind l).2.1))] ?_
      refine tc_seq ?_
      refine tc_rb [0,0,0] [(0, Sl a_l l.length c_l), (1, Sl a_a a.length c_a), (6, Bo false), (7, Pt b1 0), (8, Bo ((auditFind l).2.1)), (12, Sl none 0 0), (21, Bo false), (29, Bo (!decide ((auditFind l).2.2 = 0))), (37, Bo ((auditFind l).2.1)), (77, Sl a_cuts cuts.length c_cuts), (78, I (((cuts.length : Nat) : Int))), (79, I 0)] ?_
      refine tc_block ?_
      refine tc_empty ?_
      have hlm_h_l : l.length ≤ 9223372036854775807 := Nat.le_trans (h_l).le (h_l).max
      have hlm_h_a : a.length ≤ 9223372036854775807 := Nat.le_trans (h_a).le (h_a).max
      have hlm_h_cuts : cuts.length ≤ 9223372036854775807 := Nat.le_trans (h_cuts).le (h_cuts).max
      refine tc_loop (σ := Nat × Option Addr × Nat × List Seg × List (List HeadD) × Mem) (fun q_ => (Mem.le G q_.2.2.2.2.2) ∧ (q_.1 ≤ cuts.length) ∧ (TRow ESlHead q_.2.2.2.2.2 q_.2.1 q_.2.2.1 q_.2.2.2.2.1 q_.2.2.2.1) ∧ (PartsInv a q_.1 q_.2.2.2.2.1)) (fun q_ => [(0, Sl a_l l.length c_l), (1, Sl a_a a.length c_a), (6, Bo false), (7, Pt b1 0), (8, Bo ((auditFind l).2.1)), (12, Sl q_.2.1 q_.2.2.2.2.1.length q_.2.2.1), (21, Bo false), (29, Bo (!decide ((auditFind l).2.2 = 0))), (37, Bo ((auditFind l).2.1)), (77, Sl a_cuts cuts.length c_cuts), (78, I (((cuts.length : Nat) : Int))), (79, I ((q_.1 : Int)))]) (fun q_ => q_.2.2.2.2.2) (fun q_ => [q_.2.2.2.1, [Sg b1 0 [I (((auditFind l).1).a), I (((auditFind l).1).b), I (((auditFind l).1).epoch)]]]) (fun q_ => cuts.length - q_.1) ((0, none, 0, [], [], G)) ⟨(Mem.le_refl _), (by (try dsimp only); first | exact Nat.zero_le _ | omega | simp), (TRow.none ESlHead _), (parts_start _)⟩ (fun q_ hs => ?_)
      obtain ⟨i, aw, cw, rw, xw, g⟩ := q_
      obtain ⟨hle, hi, hrw, hxw⟩ := hs
      dsimp only at hle hi hrw hxw
      refine tc_eq (fr' := [(0, Sl a_l l.length c_l), (1, Sl a_a a.length c_a), (6, Bo false), (7, Pt b1 0), (8, Bo ((auditFind l).2.1)), (12, Sl aw xw.length cw), (21, Bo false), (29, Bo (!decide ((auditFind l).2.2 = 0))), (37, Bo ((auditFind l).2.1)), (77, Sl a_cuts cuts.length c_cuts), (78, I (((cuts.length : Nat) : Int))), (79, I ((i : Int)))]) (L' := [rw, [Sg b1 0 [I (((auditFind l).1).a), I (((auditFind l).1).b), I (((auditFind l).1).epoch)]]]) rfl rfl ?_
      refine tc_rb [0] [(0, Sl a_l l.length c_l), (1, Sl a_a a.length c_a), (6, Bo false), (7, Pt b1 0), (8, Bo ((auditFind l).2.1)), (12, Sl aw xw.length cw), (21, Bo false), (29, Bo (!decide ((auditFind l).2.2 = 0))), (37, Bo ((auditFind l).2.1)), (77, Sl a_cuts cuts.length c_cuts), (78, I (((cuts.length : Nat) : Int))), (79, I ((i : Int))), (80, Bo (decide ((i : Int) < ((cuts.length : Nat) : Int))))] ?_
      refine tc_seq ?_
      refine tc_cond (decide ((i : Int) < ((cuts.length : Nat) : Int))) (fun h7 => ?_) (fun h7 => ?_)
      ·
        try simp only [decide_eq_true_eq, decide_eq_false_iff_not, Bool.and_eq_true, Bool.or_eq_true, Bool.and_eq_false_imp, Bool.or_eq_false_iff, Bool.not_eq_true', Bool.not_eq_false', Bool.not_eq_true, Bool.not_eq_false, beq_iff_eq, beq_eq_false_iff_ne, bne_iff_ne, ne_eq, Decidable.not_not, Int.not_lt, Int.not_le] at h7
        refine tc_skip ?_
        refine tq_then ?_
        refine tc_seq ?_
        refine tc_block ?_
        refine tc_seq ?_
        refine tc_region ?_
        refine runL_b [0] [(0, Sl a_l l.length c_l), (1, Sl a_a a.length c_a), (6, Bo false), (7, Pt b1 0), (8, Bo ((auditFind l).2.1)), (12, Sl aw xw.length cw), (21, Bo false), (29, Bo (!decide ((auditFind l).2.2 = 0))), (37, Bo ((auditFind l).2.1)), (77, Sl a_cuts cuts.length c_cuts), (78, I (((cuts.length : Nat) : Int))), (79, I ((i : Int))), (80, Bo (decide ((i : Int) < ((cuts.length : Nat) : Int)))), (81, I ((i : Int)))] ?_
        obtain ⟨b7, o3, rfl⟩ := RS.addr (h_cuts.mono hle) (k := i) (by first | omega | (have q_ := auditFind_bd (l := l) (by assumption) (by assumption); omega))
        obtain ⟨x4, hx4⟩ := getX (l := cuts) (k := i) (by first | omega | (have q_ := auditFind_bd (l := l) (by assumption) (by assumption); omega))
        obtain ⟨_, ⟨rfl, w3, w4⟩, hc4⟩ := RS.get (h_cuts.mono hle) hx4
        refine runL_idx (b := b7) (off := o3) (len := cuts.length) (cap := c_cuts) (ik := .i64) 82 91 2 i (by first | omega | (have q_ := auditFind_bd (l := l) (by assumption) (by assumption); omega)) ?_
        refine runL_ldG 83 91 (cs := [I x4.x, I x4.y]) 0 (.agg #[I x4.x, I x4.y]) hc4 ?_
        refine runL_box 14 #[I 0, I 0] 91 (fun b8 => ?_)
        refine runL_bs [0,3] [(0, Sl a_l l.length c_l), (1, Sl a_a a.length c_a), (6, Bo false), (7, Pt b1 0), (8, Bo ((auditFind l).2.1)), (12, Sl aw xw.length cw), (13, I ((i : Int))), (14, Pt b8 0), (21, Bo false), (29, Bo (!decide ((auditFind l).2.2 = 0))), (37, Bo ((auditFind l).2.1)), (77, Sl (At b7 o3) cuts.length c_cuts), (78, I (((cuts.length : Nat) : Int))), (79, I ((i : Int))), (80, Bo (decide ((i : Int) < ((cuts.length : Nat) : Int))))] [[Sg b8 0 [I x4.x, I x4.y]], rw, [Sg b1 0 [I (((auditFind l).1).a), I (((auditFind l).1).b), I (((auditFind l).1).epoch)]]] ?_
        refine runL_nil ?_
        refine tq_then ?_
        refine tc_seq ?_
        refine tc_region ?_
        refine runL_b [0,0,2,0,2] [(0, Sl a_l l.length c_l), (1, Sl a_a a.length c_a), (6, Bo false), (7, Pt b1 0), (8, Bo ((auditFind l).2.1)), (12, Sl aw xw.length cw), (13, I ((i : Int))), (14, Pt b8 0), (21, Bo false), (29, Bo (!decide ((auditFind l).2.2 = 0))), (37, Bo ((auditFind l).2.1)), (77, Sl (At b7 o3) cuts.length c_cuts), (78, I (((cuts.length : Nat) : Int))), (79, I ((i : Int))), (80, Bo (decide ((i : Int) < ((cuts.length : Nat) : Int)))), (85, Sl a_a a.length c_a), (87, I x4.x), (89, I x4.y)] ?_
        refine runL_callR 90 (chainPart_con g a_a c_a a (h_a.mono hle) x4.x w3 x4.y w4) (fun v G3 L1 hl3 hp => ?_)
        obtain ⟨a5, c5, rfl, hs5, rfl⟩ := hp
        refine runL_b [0,0,0,0,0] [(0, Sl a_l l.length c_l), (1, Sl a_a a.length c_a), (6, Bo false), (7, Pt b1 0), (8, Bo ((auditFind l).2.1)), (12, Sl aw xw.length cw), (13, I ((i : Int))), (14, Pt b8 0), (15, Sl a5 (((chainPart a x4.x x4.y).1).length) c5), (16, I ((chainPart a x4.x x4.y).2)), (21, Bo false), (29, Bo (!decide ((auditFind l).2.2 = 0))), (37, Bo ((auditFind l).2.1)), (77, Sl (At b7 o3) cuts.length c_cuts), (78, I (((cuts.length : Nat) : Int))), (79, I ((i : Int))), (80, Bo (decide ((i : Int) < ((cuts.length : Nat) : Int))))] ?_
        refine runL_nil ?_
        refine tq_then ?_
        refine tc_seq ?_
        refine tc_region ?_
        refine runL_b [0,0,0] [(0, Sl a_l l.length c_l), (1, Sl a_a a.length c_a), (6, Bo false), (7, Pt b1 0), (8, Bo ((auditFind l).2.1)), (12, Sl aw xw.length cw), (13, I ((i : Int))), (14, Pt b8 0), (15, Sl a5 (((chainPart a x4.x x4.y).1).length) c5), (16, I ((chainPart a x4.x x4.y).2)), (21, Bo false), (29, Bo (!decide ((auditFind l).2.2 = 0))), (37, Bo ((auditFind l).2.1)), (77, Sl (At b7 o3) cuts.length c_cuts), (78, I (((cuts.length : Nat) : Int))), (79, I ((i : Int))), (80, Bo (decide ((i : Int) < ((cuts.length : Nat) : Int)))), (95, Bo (decide ((chainPart a x4.x x4.y).2 = 0)))] ?_
        refine runL_b2 (decide ((chainPart a x4.x x4.y).2 = 0)) (fun bb => [(0, Sl a_l l.length c_l), (1, Sl a_a a.length c_a), (6, Bo false), (7, Pt b1 0), (8, Bo ((auditFind l).2.1)), (12, Sl aw xw.length cw), (13, I ((i : Int))), (14, Pt b8 0), (15, Sl a5 (((chainPart a x4.x x4.y).1).length) c5), (16, I ((chainPart a x4.x x4.y).2)), (21, Bo false), (29, Bo (!decide ((auditFind l).2.2 = 0))), (37, Bo ((auditFind l).2.1)), (77, Sl (At b7 o3) cuts.length c_cuts), (78, I (((cuts.length : Nat) : Int))), (79, I ((i : Int))), (80, Bo (decide ((i : Int) < ((cuts.length : Nat) : Int)))), (95, Bo bb)]) [0,0,0] [1,1,0] (fun bb => [(0, Sl a_l l.length c_l), (1, Sl a_a a.length c_a), (6, Bo false), (7, Pt b1 0), (8, Bo ((auditFind l).2.1)), (12, Sl aw xw.length cw), (13, I ((i : Int))), (14, Pt b8 0), (15, Sl a5 (((chainPart a x4.x x4.y).1).length) c5), (16, I ((chainPart a x4.x x4.y).2)), (21, Bo false), (29, Bo (!decide ((auditFind l).2.2 = 0))), (37, Bo ((auditFind l).2.1)), (77, Sl (At b7 o3) cuts.length c_cuts), (78, I (((cuts.length : Nat) : Int))), (79, I ((i : Int))), (80, Bo (decide ((i : Int) < ((cuts.length : Nat) : Int)))), (98, Bo (bb && (decide ((i : Int) < 8))))]) ?_
        refine runL_nil ?_
        refine tq_then ?_
        refine tc_cond ((decide ((chainPart a x4.x x4.y).2 = 0)) && (decide ((i : Int) < 8))) (fun h8 => ?_) (fun h8 => ?_)
        ·
          try simp only [decide_eq_true_eq, decide_eq_false_iff_not, Bool.and_eq_true, Bool.or_eq_true, Bool.and_eq_false_imp, Bool.or_eq_false_iff, Bool.not_eq_true', Bool.not_eq_false', Bool.not_eq_true, Bool.not_eq_false, beq_iff_eq, beq_eq_false_iff_ne, bne_iff_ne, ne_eq, Decidable.not_not, Int.not_lt, Int.not_le] at h8
          refine tc_region ?_
          refine runL_b [0,0] [(0, Sl a_l l.length c_l), (1, Sl a_a a.length c_a), (6, Bo false), (7, Pt b1 0), (8, Bo ((auditFind l).2.1)), (12, Sl aw xw.length cw), (13, I ((i : Int))), (14, Pt b8 0), (15, Sl a5 (((chainPart a x4.x x4.y).1).length) c5), (16, I ((chainPart a x4.x x4.y).2)), (21, Bo false), (29, Bo (!decide ((auditFind l).2.2 = 0))), (37, Bo ((auditFind l).2.1)), (77, Sl (At b7 o3) cuts.length c_cuts), (78, I (((cuts.length : Nat) : Int))), (79, I ((i : Int))), (80, Bo (decide ((i : Int) < ((cuts.length : Nat) : Int)))), (98, Bo ((decide ((chainPart a x4.x x4.y).2 = 0)) && (decide ((i : Int) < 8)))), (99, Sl aw xw.length cw), (100, Sl a5 (((chainPart a x4.x x4.y).1).length) c5)] ?_
          refine runL_bsl 101 1 #[Sl a5 (((chainPart a x4.x x4.y).1).length) c5] 25 (fun b9 => ?_)
          refine runL_app1' (b := b9) (cs := [Sl a5 (((chainPart a x4.x x4.y).1).length) c5]) 102 25 2 0 (E := ESlHead) ((chainPart a x4.x x4.y).1) (hrw.mono hl3) ⟨a5, c5, rfl, hs5⟩ (by have q_ := hxw.len8; (try simp only [ESlHead, List.length_append, List.length_cons, List.length_nil] at *); omega) (by have q_ := hxw.len8; (try simp only [ESlHead, List.length_append, List.length_cons, List.length_nil] at *); omega) (fun a6 c6 r2 hr2 => ?_)
          refine runL_b [0] [(0, Sl a_l l.length c_l), (1, Sl a_a a.length c_a), (6, Bo false), (7, Pt b1 0), (8, Bo ((auditFind l).2.1)), (12, Sl a6 ((xw ++ [(chainPart a x4.x x4.y).1]).length) c6), (13, I ((i : Int))), (14, Pt b8 0), (15, Sl a5 (((chainPart a x4.x x4.y).1).length) c5), (16, I ((chainPart a x4.x x4.y).2)), (21, Bo false), (29, Bo (!decide ((auditFind l).2.2 = 0))), (37, Bo ((auditFind l).2.1)), (77, Sl (At b7 o3) cuts.length c_cuts), (78, I (((cuts.length : Nat) : Int))), (79, I ((i : Int))), (80, Bo (decide ((i : Int) < ((cuts.length : Nat) : Int)))), (98, Bo ((decide ((chainPart a x4.x x4.y).2 = 0)) && (decide ((i : Int) < 8))))] ?_
          refine runL_nil ?_
          refine tq_block ?_
          refine tq_then ?_
          refine tc_region ?_
          refine runL_b [0,0] [(0, Sl a_l l.length c_l), (1, Sl a_a a.length c_a), (6, Bo false), (7, Pt b1 0), (8, Bo ((auditFind l).2.1)), (12, Sl a6 ((xw ++ [(chainPart a x4.x x4.y).1]).length) c6), (13, I ((i : Int))), (14, Pt b8 0), (15, Sl a5 (((chainPart a x4.x x4.y).1).length) c5), (16, I ((chainPart a x4.x x4.y).2)), (21, Bo false), (29, Bo (!decide ((auditFind l).2.2 = 0))), (37, Bo ((auditFind l).2.1)), (77, Sl (At b7 o3) cuts.length c_cuts), (78, I (((cuts.length : Nat) : Int))), (79, I (IntKind.i64.wrap (((i : Int)) + 1))), (80, Bo (decide ((i : Int) < ((cuts.length : Nat) : Int)))), (98, Bo ((decide ((chainPart a x4.x x4.y).2 = 0)) && (decide ((i : Int) < 8))))] ?_
          have e5 : IntKind.i64.wrap (((i : Int)) + 1) = ((i : Int)) + 1 := IntWalk.i64_in _ (by first | omega | (have q_ := auditFind_bd (l := l) (by assumption) (by assumption); omega))
          refine runL_eq (fr' := [(0, Sl a_l l.length c_l), (1, Sl a_a a.length c_a), (6, Bo false), (7, Pt b1 0), (8, Bo ((auditFind l).2.1)), (12, Sl a6 ((xw ++ [(chainPart a x4.x x4.y).1]).length) c6), (13, I ((i : Int))), (14, Pt b8 0), (15, Sl a5 (((chainPart a x4.x x4.y).1).length) c5), (16, I ((chainPart a x4.x x4.y).2)), (21, Bo false), (29, Bo (!decide ((auditFind l).2.2 = 0))), (37, Bo ((auditFind l).2.1)), (77, Sl (At b7 o3) cuts.length c_cuts), (78, I (((cuts.length : Nat) : Int))), (79, I (((i : Int)) + 1)), (80, Bo (decide ((i : Int) < ((cuts.length : Nat) : Int)))), (98, Bo ((decide ((chainPart a x4.x x4.y).2 = 0)) && (decide ((i : Int) < 8))))]) (L' := [[Sg b9 0 [Sl a5 (((chainPart a x4.x x4.y).1).length) c5]], [Sg b8 0 [I x4.x, I x4.y]], r2, [Sg b1 0 [I (((auditFind l).1).a), I (((auditFind l).1).b), I (((auditFind l).1).epoch)]]]) (by simp only [e5]) (by rfl) ?_
          clear e5
          refine runL_nil ?_
          refine tq_owns [r2, [Sg b1 0 [I (((auditFind l).1).a), I (((auditFind l).1).b), I (((auditFind l).1).epoch)]]] ((.cons _ (.cons _ (.cons_cons _ (.cons_cons _ .slnil))))) ?_
          exact tq_rnd ((i + 1, a6, c6, r2, xw ++ [(chainPart a x4.x x4.y).1], G3)) ⟨(Mem.le_trans hle hl3), (by omega), hr2, (by first | exact parts_add hxw (by simp_all) (by omega) | exact parts_skip hxw)⟩ (by (try dsimp only); omega)
        ·
          try simp only [decide_eq_true_eq, decide_eq_false_iff_not, Bool.and_eq_true, Bool.or_eq_true, Bool.and_eq_false_imp, Bool.or_eq_false_iff, Bool.not_eq_true', Bool.not_eq_false', Bool.not_eq_true, Bool.not_eq_false, beq_iff_eq, beq_eq_false_iff_ne, bne_iff_ne, ne_eq, Decidable.not_not, Int.not_lt, Int.not_le] at h8
          refine tc_skip ?_
          refine tq_block ?_
          refine tq_then ?_
          refine tc_region ?_
          refine runL_b [0,0] [(0, Sl a_l l.length c_l), (1, Sl a_a a.length c_a), (6, Bo false), (7, Pt b1 0), (8, Bo ((auditFind l).2.1)), (12, Sl aw xw.length cw), (13, I ((i : Int))), (14, Pt b8 0), (15, Sl a5 (((chainPart a x4.x x4.y).1).length) c5), (16, I ((chainPart a x4.x x4.y).2)), (21, Bo false), (29, Bo (!decide ((auditFind l).2.2 = 0))), (37, Bo ((auditFind l).2.1)), (77, Sl (At b7 o3) cuts.length c_cuts), (78, I (((cuts.length : Nat) : Int))), (79, I (IntKind.i64.wrap (((i : Int)) + 1))), (80, Bo (decide ((i : Int) < ((cuts.length : Nat) : Int)))), (98, Bo ((decide ((chainPart a x4.x x4.y).2 = 0)) && (decide ((i : Int) < 8))))] ?_
          have e6 : IntKind.i64.wrap (((i : Int)) + 1) = ((i : Int)) + 1 := IntWalk.i64_in _ (by first | omega | (have q_ := auditFind_bd (l := l) (by assumption) (by assumption); omega))
          refine runL_eq (fr' := [(0, Sl a_l l.length c_l), (1, Sl a_a a.length c_a), (6, Bo false), (7, Pt b1 0), (8, Bo ((auditFind l).2.1)), (12, Sl aw xw.length cw), (13, I ((i : Int))), (14, Pt b8 0), (15, Sl a5 (((chainPart a x4.x x4.y).1).length) c5), (16, I ((chainPart a x4.x x4.y).2)), (21, Bo false), (29, Bo (!decide ((auditFind l).2.2 = 0))), (37, Bo ((auditFind l).2.1)), (77, Sl (At b7 o3) cuts.length c_cuts), (78, I (((cuts.length : Nat) : Int))), (79, I (((i : Int)) + 1)), (80, Bo (decide ((i : Int) < ((cuts.length : Nat) : Int)))), (98, Bo ((decide ((chainPart a x4.x x4.y).2 = 0)) && (decide ((i : Int) < 8))))]) (L' := [[Sg b8 0 [I x4.x, I x4.y]], rw, [Sg b1 0 [I (((auditFind l).1).a), I (((auditFind l).1).b), I (((auditFind l).1).epoch)]]]) (by simp only [e6]) (by rfl) ?_
          clear e6
          refine runL_nil ?_
          refine tq_owns [rw, [Sg b1 0 [I (((auditFind l).1).a), I (((auditFind l).1).b), I (((auditFind l).1).epoch)]]] ((.cons _ (.cons_cons _ (.cons_cons _ .slnil)))) ?_
          exact tq_rnd ((i + 1, aw, cw, rw, xw, G3)) ⟨(Mem.le_trans hle hl3), (by omega), (hrw.mono hl3), (by first | exact parts_add hxw (by simp_all) (by omega) | exact parts_skip hxw)⟩ (by (try dsimp only); omega)
      ·
        try simp only [decide_eq_true_eq, decide_eq_false_iff_not, Bool.and_eq_true, Bool.or_eq_true, Bool.and_eq_false_imp, Bool.or_eq_false_iff, Bool.not_eq_true', Bool.not_eq_false', Bool.not_eq_true, Bool.not_eq_false, beq_iff_eq, beq_eq_false_iff_ne, bne_iff_ne, ne_eq, Decidable.not_not, Int.not_lt, Int.not_le] at h7
        refine tc_exit ?_
        refine tq_then_exit ?_
        refine tq_rnd_exit ?_
        refine tq_block_here ?_
        refine tq_then ?_
        refine tc_seq ?_
        refine tc_region ?_
        refine runL_b [0] [(0, Sl a_l l.length c_l), (1, Sl a_a a.length c_a), (6, Bo false), (7, Pt b1 0), (8, Bo ((auditFind l).2.1)), (12, Sl aw xw.length cw), (21, Bo false), (29, Bo (!decide ((auditFind l).2.2 = 0))), (37, Bo ((auditFind l).2.1)), (77, Sl a_cuts cuts.length c_cuts), (78, I (((cuts.length : Nat) : Int))), (79, I ((i : Int))), (80, Bo (decide ((i : Int) < ((cuts.length : Nat) : Int)))), (105, Sl aw xw.length cw)] ?_
        refine runL_frzR (E := ESlHead) 0 hrw (by have q_ := hxw.len8; (try simp only [ESlHead, List.length_append, List.length_cons, List.length_nil] at *); omega) (fun G4 hl4 hs6 => ?_)
        refine runL_callV 106 (.tuple #[.agg #[I (((auditFind xw).1).a), I (((auditFind xw).1).b), I (((auditFind xw).1).epoch)], Bo ((auditFind xw).2.1), I ((auditFind xw).2.2)]) (auditFind_con G4 aw cw xw hs6) ?_
        refine runL_b [0,0,0,0] [(0, Sl a_l l.length c_l), (1, Sl a_a a.length c_a), (6, Bo false), (7, Pt b1 0), (8, Bo ((auditFind l).2.1)), (12, Sl aw xw.length cw), (21, Bo false), (29, Bo (!decide ((auditFind l).2.2 = 0))), (37, Bo ((auditFind l).2.1)), (77, Sl a_cuts cuts.length c_cuts), (78, I (((cuts.length : Nat) : Int))), (79, I ((i : Int))), (80, Bo (decide ((i : Int) < ((cuts.length : Nat) : Int)))), (107, .agg #[I (((auditFind xw).1).a), I (((auditFind xw).1).b), I (((auditFind xw).1).epoch)]), (108, Bo ((auditFind xw).2.1)), (109, I ((auditFind xw).2.2))] ?_
        refine runL_box 17 #[I 0, I 0, I 0] 88 (fun b10 => ?_)
        refine runL_bs [3,0,0] [(0, Sl a_l l.length c_l), (1, Sl a_a a.length c_a), (6, Bo false), (7, Pt b1 0), (8, Bo ((auditFind l).2.1)), (12, Sl aw xw.length cw), (18, Bo ((auditFind xw).2.1)), (19, I ((auditFind xw).2.2)), (21, Bo false), (29, Bo (!decide ((auditFind l).2.2 = 0))), (37, Bo ((auditFind l).2.1)), (77, Sl a_cuts cuts.length c_cuts), (78, I (((cuts.length : Nat) : Int))), (79, I ((i : Int))), (80, Bo (decide ((i : Int) < ((cuts.length : Nat) : Int))))] [[Sg b10 0 [I (((auditFind xw).1).a), I (((auditFind xw).1).b), I (((auditFind xw).1).epoch)]], [], [Sg b1 0 [I (((auditFind l).1).a), I (((auditFind l).1).b), I (((auditFind l).1).epoch)]]] ?_
        refine runL_nil ?_
        refine tq_then ?_
        refine tc_seq ?_
        refine tc_region ?_
        refine runL_b [0,0,0] [(0, Sl a_l l.length c_l), (1, Sl a_a a.length c_a), (6, Bo false), (7, Pt b1 0), (8, Bo ((auditFind l).2.1)), (12, Sl aw xw.length cw), (18, Bo ((auditFind xw).2.1)), (21, Bo false), (29, Bo (!decide ((auditFind l).2.2 = 0))), (37, Bo ((auditFind l).2.1)), (77, Sl a_cuts cuts.length c_cuts), (78, I (((cuts.length : Nat) : Int))), (79, I ((i : Int))), (80, Bo (decide ((i : Int) < ((cuts.length : Nat) : Int)))), (112, Bo (decide ((auditFind xw).2.2 = 0)))] ?_
        refine runL_b2 (decide ((auditFind xw).2.2 = 0)) (fun bb => [(0, Sl a_l l.length c_l), (1, Sl a_a a.length c_a), (6, Bo false), (7, Pt b1 0), (8, Bo ((auditFind l).2.1)), (12, Sl aw xw.length cw), (18, Bo ((auditFind xw).2.1)), (21, Bo false), (29, Bo (!decide ((auditFind l).2.2 = 0))), (37, Bo ((auditFind l).2.1)), (77, Sl a_cuts cuts.length c_cuts), (78, I (((cuts.length : Nat) : Int))), (79, I ((i : Int))), (80, Bo (decide ((i : Int) < ((cuts.length : Nat) : Int)))), (112, Bo bb)]) [0,0,0] [1,1,0] (fun bb => [(0, Sl a_l l.length c_l), (1, Sl a_a a.length c_a), (6, Bo false), (7, Pt b1 0), (8, Bo ((auditFind l).2.1)), (12, Sl aw xw.length cw), (21, Bo false), (29, Bo (!decide ((auditFind l).2.2 = 0))), (37, Bo ((auditFind l).2.1)), (77, Sl a_cuts cuts.length c_cuts), (78, I (((cuts.length : Nat) : Int))), (79, I ((i : Int))), (80, Bo (decide ((i : Int) < ((cuts.length : Nat) : Int)))), (115, Bo (bb && (!((auditFind xw).2.1))))]) ?_
        refine runL_b [0] [(0, Sl a_l l.length c_l), (1, Sl a_a a.length c_a), (6, Bo ((decide ((auditFind xw).2.2 = 0)) && (!((auditFind xw).2.1)))), (7, Pt b1 0), (8, Bo ((auditFind l).2.1)), (12, Sl aw xw.length cw), (21, Bo false), (29, Bo (!decide ((auditFind l).2.2 = 0))), (37, Bo ((auditFind l).2.1)), (77, Sl a_cuts cuts.length c_cuts), (78, I (((cuts.length : Nat) : Int))), (79, I ((i : Int))), (80, Bo (decide ((i : Int) < ((cuts.length : Nat) : Int))))] ?_
        refine runL_nil ?_
        refine tq_then ?_
        refine tc_ret ?_
        refine tq_ret [0] [Bo ((decide ((auditFind xw).2.2 = 0)) && (!((auditFind xw).2.1)))] (bp_ret (Mem.le_trans hle hl4) ?_)
        have hf_ : ((decide ((auditFind xw).2.2 = 0)) && (!((auditFind xw).2.1))) = true := by
          first | (simp [auditFind_err (by assumption), foundZ]; done) | (have q_ := parts_end hxw; simp [q_]; done) | (have q_ := auditFind_bd (l := l) (by assumption) (by assumption); omega) | (have q_ := auditFind_fork (l := l) (by assumption) (by assumption) hkn1 hkn2 (by assumption) (by assumption); simp_all)
        exact congrArg Bo hf_
end Go.Proofs.Ytggljibhfbgmpaa
