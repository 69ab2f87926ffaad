import Derived.Test.YtngoijkcbmchdaaGreatDoorTree
namespace Go.Proofs.YtngoijkcbmchdaaGreatDoor
open Go.Tx
set_option linter.unusedVariables false
set_option linter.unusedSimpArgs false

def entT (x : EntD) : List UInt8 := (wPut [x.name, x.value]).1
def treeSaid (l : List EntD) : List UInt8 := if l.length = 0 then [0] else [1] ++ (l.map entT).flatten
theorem entT_len (x : EntD) : (entT x).length ≤ 600 := wPut_len2 _
theorem ents_len (l : List EntD) : ((l.map entT).flatten).length ≤ 600 * l.length := by
  induction l with
  | nil => simp
  | cons x l ih => simp only [List.map_cons, List.flatten_cons, List.length_append, List.length_cons]; have := entT_len x; omega
theorem treeSaid_len {l : List EntD} (h : l.length ≤ 24) : (treeSaid l).length ≤ 14401 := by
  unfold treeSaid; split
  · simp
  · rw [List.length_append]; have := ents_len l; simp only [List.length_cons, List.length_nil]; omega
theorem ents_take {l : List EntD} {i : Nat} {x : EntD} (h : l[i]? = some x) : ([1] ++ ((l.take i).map entT).flatten) ++ (wPut [x.name, x.value]).1 = [1] ++ ((l.take (i + 1)).map entT).flatten := by rw [List.take_add_one, h]; simp [entT]
def entZ : EntD := ⟨[], []⟩
def firstN (l : List EntD) : EntD := l[0]?.getD entZ
def lastN (l : List EntD) : EntD := l[l.length - 1]?.getD entZ
theorem firstN_get {l : List EntD} {x : EntD} (h : l[0]? = some x) : x = firstN l := by unfold firstN; rw [h]; rfl
theorem lastN_get {l : List EntD} {x : EntD} (h : l[l.length - 1]? = some x) : x = lastN l := by unfold lastN; rw [h]; rfl
def treeLeaf (l : List EntD) : List UInt8 × Int := if treeCheck l ≠ 0 then ([], treeCheck l) else if 0 < (l.length : Int) ∧ ¬ way (firstN l).name = way (lastN l).name then ([], 3) else (treeSaid l, 0)
theorem treeLeaf_len (l : List EntD) : (treeLeaf l).1.length ≤ 14401 := by
  unfold treeLeaf; split
  · simp
  split
  · simp
  · rename_i h _; exact treeSaid_len (treeCheck_iff.1 (Decidable.not_not.1 h)).len
theorem treeLeaf_nil : treeLeaf [] = ([0], 0) := by decide +kernel
def pOther (x : EntD) (w : List UInt8) : Bool := !(way x.name == w)
def pGreat (m : Int) : Bool := decide (m ≥ 2305843009213693951)
def proofRight (p : ProofD) : Int := if pathName p.name = false then 3 else if treeCheck p.entries ≠ 0 then treeCheck p.entries else if ((p.entries.any fun x0 => pOther x0 (way p.name)) = true ∨ ¬ (p.sides.length : Int) = 16) ∨ (p.sides.any fun x0 => pGreat x0) = true then 3 else 0
def noneT : List UInt8 := (treeLeaf []).1
def pSay (a b : Int) : List UInt8 := if a = markOf noneT ∧ b = markOf noneT then noneT else markSaid 2 a b
def pStep (w : List UInt8) (i : Nat) (s : List UInt8) (side : Int) : List UInt8 := if w[15 - i]? = some 49 then pSay side (markOf s) else pSay (markOf s) side
def pOut (w : List UInt8) : Nat → List UInt8 → List Int → List (List UInt8)
  | _, s, [] => [s]
  | i, s, q :: qs => s :: pOut w (i + 1) (pStep w i s q) qs
theorem pSay_len (a b : Int) : (pSay a b).length ≤ 17 := by
  unfold pSay; split
  · unfold noneT; rw [treeLeaf_nil]; decide
  · rw [markSaid_length]; exact Nat.le_refl _
theorem pStep_len (w : List UInt8) (i : Nat) (s : List UInt8) (q : Int) : (pStep w i s q).length ≤ 17 := by unfold pStep; split <;> exact pSay_len _ _
theorem pOut_len (w : List UInt8) : ∀ (qs : List Int) (i : Nat) (s : List UInt8), (pOut w i s qs).length = qs.length + 1
  | [], _, _ => rfl
  | q :: qs, i, s => by show (pOut w (i + 1) _ qs).length + 1 = _; rw [pOut_len w qs]; rfl
theorem pOut_0 (w : List UInt8) (qs : List Int) (i : Nat) (s : List UInt8) : (pOut w i s qs)[0]? = some s := by cases qs <;> rfl
theorem pOut_take1 (w : List UInt8) (qs : List Int) (i : Nat) (s : List UInt8) : [s] = (pOut w i s qs).take 1 := by cases qs <;> rfl
theorem pOut_step (w : List UInt8) : ∀ (qs : List Int) (i k : Nat) (s a : List UInt8) (q : Int), (pOut w i s qs)[k]? = some a → qs[k]? = some q → (pOut w i s qs)[k + 1]? = some (pStep w (i + k) a q)
  | [], _, _, _, _, _, _, h => by simp at h
  | q :: qs, i, 0, s, a, q', h1, h2 => by
    have h1 : some s = some a := h1
    have h2 : some q = some q' := h2
    rw [← Option.some.inj h1, ← Option.some.inj h2]
    exact pOut_0 w qs (i + 1) _
  | q :: qs, i, k + 1, s, a, q', h1, h2 => by
    have := pOut_step w qs (i + 1) k (pStep w i s q) a q' h1 h2
    rw [show i + (k + 1) = i + 1 + k by omega]; exact this
theorem pOut_next {w : List UInt8} {qs : List Int} {s0 s : List UInt8} {xo : List (List UInt8)} {i : Nat} {q : Int} (ho : xo = (pOut w 0 s0 qs).take (i + 1)) (hs : (pOut w 0 s0 qs)[i]? = some s) (hq : qs[i]? = some q) : xo ++ [pStep w i s q] = (pOut w 0 s0 qs).take (i + 1 + 1) ∧ (pOut w 0 s0 qs)[i + 1]? = some (pStep w i s q) := by
  have := pOut_step w qs 0 i s0 s q hs hq
  rw [Nat.zero_add] at this
  refine ⟨?_, this⟩
  rw [ho]
  conv => rhs; rw [List.take_add_one, this]
  rfl
def proofSaid (p : ProofD) : List (List UInt8) × Int := if proofRight p ≠ 0 then ([], proofRight p) else (pOut (way p.name) 0 (treeLeaf p.entries).1 p.sides, 0)
theorem way_16 {name : List UInt8} (h : pathName name = true) : (way name).length = 16 := by unfold way pathOf; rw [if_neg (by rw [h]; simp)]; exact pathBits_len name
structure ProofOk (p : ProofD) : Prop where
  name : pathName p.name = true
  ents : TreeOk p.entries
  ways : ∀ x ∈ p.entries, way x.name = way p.name
  sides : p.sides.length = 16
  marks : ∀ m ∈ p.sides, m < 2305843009213693951
theorem proofRight_iff {p : ProofD} : proofRight p = 0 ↔ ProofOk p := by
  unfold proofRight
  constructor
  · intro h
    split at h
    · cases h
    split at h
    · contradiction
    split at h
    · cases h
    · rename_i h1 h2 h3
      refine ⟨by simpa using h1, treeCheck_iff.1 (Decidable.not_not.1 h2), fun x hx => ?_, ?_, fun m hm => ?_⟩
      · apply Classical.byContradiction; intro hc
        exact h3 (.inl (.inl (List.any_eq_true.2 ⟨x, hx, by unfold pOther; simpa using hc⟩)))
      · apply Classical.byContradiction; intro hc
        exact h3 (.inl (.inr (by omega)))
      · apply Classical.byContradiction; intro hc
        exact h3 (.inr (List.any_eq_true.2 ⟨m, hm, by unfold pGreat; simp; omega⟩))
  · rintro ⟨h1, h2, h3, h4, h5⟩
    rw [if_neg (by rw [h1]; simp), if_neg (by have := treeCheck_iff.2 h2; omega), if_neg]
    rintro ((hc | hc) | hc)
    · obtain ⟨x, hx, e⟩ := List.any_eq_true.1 hc
      unfold pOther at e; simp at e
      exact e (h3 x hx)
    · omega
    · obtain ⟨m, hm, e⟩ := List.any_eq_true.1 hc
      have := h5 m hm
      unfold pGreat at e; simp at e; omega
theorem pSay_if {a b : Int} (h : (if b > a then b else a) = markOf (treeLeaf []).1 ∧ a = b) : pSay a b = (treeLeaf []).1 := by
  unfold pSay noneT; obtain ⟨h1, rfl⟩ := h; rw [if_pos]; split at h1 <;> exact ⟨h1, h1⟩
theorem pSay_ne {a b : Int} (h : ¬ (if b > a then b else a) = markOf (treeLeaf []).1 ∨ ¬ a = b) : pSay a b = markSaid 2 a b := by
  unfold pSay noneT; rw [if_neg]; rintro ⟨rfl, h2⟩
  rcases h with h | h
  · exact h (by split <;> omega)
  · exact h h2.symm
theorem pStep_a {w s : List UInt8} {i k : Nat} {q : Int} {y : UInt8} (h : 15 - i = k) (hy : w[k]? = some y) (e : (y.toNat : Int) = 49) : pStep w i s q = pSay q (markOf s) := by
  have : y = 49 := byte_eq.1 e
  unfold pStep; rw [h, hy, this, if_pos rfl]
theorem pStep_b {w s : List UInt8} {i k : Nat} {q : Int} {y : UInt8} (h : 15 - i = k) (hy : w[k]? = some y) (e : ¬ (y.toNat : Int) = 49) : pStep w i s q = pSay (markOf s) q := by
  unfold pStep; rw [h, hy, if_neg]
  intro hc; apply e; rw [Option.some.inj hc]; rfl

theorem treeSaid_con (G : Mem) (a_l : Option Addr) (c_l : Nat) (l : List EntD) (h_l : RS EEnt G a_l c_l l) (h24 : l.length ≤ 24) : ConV 64 #[Sl a_l l.length c_l] G (Sr (treeSaid l)) := by
  refine con_of Tryz.func64 35 [(0, Sl a_l l.length c_l)] rfl (fun w0 G0 => ?_)
  refine tc_rbn [0] [] ?_
  refine tc_seq ?_
  refine tc_rbn [0,0,0] [(10, Bo (decide (((l.length : Nat) : Int) = 0)))] ?_
  refine tc_condP (decide (((l.length : Nat) : Int) = 0)) (fun h1 => ?_) (fun h1 => ?_)
  ·
    refine tc_seq ?_
    refine tc_region ?_
    refine runL_bsl 11 1 #[Y 0] 5 (fun b1 => ?_)
    refine runL_b2s (b := b1) (off := 0) (len := 1) (cap := 1) (cs := List.map (Value.int .u8) [0]) 12 0 [0] rfl (lit_bytes (ns := [0]) rfl) ?_
    refine runL_bn [0] [(2, Sr (([0] : List Int).map fun n => UInt8.ofNat n.toNat))] ?_
    refine runL_nil ?_
    refine tq_then ?_
    refine tc_ret ?_
    refine tq_then_ret ?_
    refine tq_ret [0] [Sr (([0] : List Int).map fun n => UInt8.ofNat n.toNat)] (bp_ret (Mem.le_refl _) (congrArg Sr (?_ : (treeSaid l) = (([0] : List Int).map fun n => UInt8.ofNat n.toNat)).symm))
    unfold treeSaid; first | (rw [if_pos (by omega)]; rfl) | (rw [if_neg (by omega), ho, List.take_of_length_le (by omega)])
  ·
    refine tc_skip ?_
    refine tq_then ?_
    refine tc_seq ?_
    refine tc_region ?_
    refine runL_bsl 13 1 #[Y 1] 5 (fun b2 => ?_)
    refine runL_b2s (b := b2) (off := 0) (len := 1) (cap := 1) (cs := List.map (Value.int .u8) [1]) 14 0 [1] rfl (lit_bytes (ns := [1]) rfl) ?_
    refine runL_bn [0] [(3, Sr (([1] : List Int).map fun n => UInt8.ofNat n.toNat))] ?_
    refine runL_nil ?_
    refine tq_then ?_
    refine tc_seq ?_
    refine tc_rbn [0,0,0] [(15, Sl a_l l.length c_l), (16, I (((l.length : Nat) : Int))), (17, I 0)] ?_
    refine tc_block ?_
    have hlm_h_l : l.length ≤ 9223372036854775807 := Nat.le_trans (h_l).le (h_l).max
    refine tc_loop (σ := Nat × List UInt8 × Mem) (fun q_ => (Mem.le G q_.2.2) ∧ (q_.1 ≤ l.length) ∧ (q_.2.1 = [1] ++ ((l.take q_.1).map entT).flatten)) (fun q_ => [(3, Sr q_.2.1), (15, Sl a_l l.length c_l), (16, I (((l.length : Nat) : Int))), (17, I ((q_.1 : Int)))]) (fun q_ => q_.2.2) (fun q_ => [[Sg b2 0 [Y 1]]]) (fun q_ => l.length - q_.1) ((0, ([1] : List Int).map fun n => UInt8.ofNat n.toNat, G)) ⟨(Mem.le_refl _), (by (try dsimp only); first | exact Nat.zero_le _ | omega | simp), (by (try dsimp only); simp)⟩ (fun q_ hs => ?_)
    obtain ⟨i, o, g⟩ := q_
    obtain ⟨hle, hi, ho⟩ := hs
    dsimp only at hle hi ho
    refine tc_eq (fr' := [(3, Sr o), (15, Sl a_l l.length c_l), (16, I (((l.length : Nat) : Int))), (17, I ((i : Int)))]) (L' := [[Sg b2 0 [Y 1]]]) rfl rfl ?_
    refine tc_rbn [0] [(18, Bo (decide ((i : Int) < ((l.length : Nat) : Int))))] ?_
    refine tc_seq ?_
    refine tc_condP (decide ((i : Int) < ((l.length : Nat) : Int))) (fun h2 => ?_) (fun h2 => ?_)
    ·
      refine tc_skip ?_
      refine tq_then ?_
      refine tc_seq ?_
      refine tc_block ?_
      refine tc_seq ?_
      refine tc_region ?_
      obtain ⟨b3, o1, rfl⟩ := RS.addr (h_l.mono hle) (k := i) (by omega)
      obtain ⟨x1, hx1⟩ := getX (l := l) (k := i) (by omega)
      obtain ⟨_, ⟨rfl, w1, w2⟩, hc1⟩ := RS.get (h_l.mono hle) hx1
      refine runL_idx (b := b3) (off := o1) (len := l.length) (cap := c_l) (ik := .i64) 19 106 2 i (by omega) ?_
      refine runL_ldG 20 106 (cs := [Sr x1.name, Sr x1.value]) 0 (.agg #[Sr x1.name, Sr x1.value]) hc1 ?_
      refine runL_box 5 #[Sr ([]), Sr ([])] 106 (fun b4 => ?_)
      refine runL_bsn [3] [] [[Sg b4 0 [Sr x1.name, Sr x1.value]], [Sg b2 0 [Y 1]]] ?_
      refine runL_nil ?_
      refine tq_then ?_
      refine tc_seq ?_
      refine tc_region ?_
      refine runL_bn [0,2,0,2] [(23, Sr x1.name), (25, Sr x1.value)] ?_
      refine runL_bsl 26 2 #[Sr x1.name, Sr x1.value] 9 (fun b5 => ?_)
      refine runL_frz1 (b := b5) (o := 0) (cs := [Sr x1.name, Sr x1.value]) 0 (fun G1 hl1 hz1 => ?_)
      have hs1 : RS ES G1 (At b5 0) 2 [x1.name, x1.value] := RS.lit [[Sr x1.name], [Sr x1.value]] [x1.name, x1.value] ⟨⟨rfl, w1⟩, ⟨⟨rfl, w2⟩, trivial⟩⟩ hz1 (Nat.le_of_ble_eq_true rfl) (Nat.le_of_ble_eq_true rfl)
      refine runL_callV 27 (.tuple #[Sr ((wPut ([x1.name, x1.value])).1), I ((wPut ([x1.name, x1.value])).2)]) (wPut_con G1 (At b5 0) 2 ([x1.name, x1.value]) hs1) ?_
      refine runL_bn [0,0,0,0,0] [(6, Sr ((wPut ([x1.name, x1.value])).1))] ?_
      refine runL_nil ?_
      refine tq_then ?_
      refine tc_region ?_
      refine runL_bn [0,0] [(30, Sr o), (31, Sr ((wPut ([x1.name, x1.value])).1))] ?_
      refine runL_cat 32 o ((wPut ([x1.name, x1.value])).1) (by have q_ := congrArg List.length ho; have q1_ := ents_len (l.take i); have q2_ := wPut_len2 [x1.name, x1.value]; rw [List.length_take] at q1_; simp only [List.length_append, List.length_cons, List.length_nil] at q_; omega) ?_
      refine runL_bn [0] [(3, Sr (o ++ ((wPut ([x1.name, x1.value])).1)))] ?_
      refine runL_nil ?_
      refine tq_block ?_
      refine tq_then ?_
      refine tc_region ?_
      refine runL_bn [0,0] [(17, I (IntKind.i64.wrap (((i : Int)) + 1)))] ?_
      refine runL_wi64 17 (((i : Int)) + 1) (by omega) ?_
      refine runL_nil ?_
      refine tq_ownsA [[Sg b2 0 [Y 1]]] ?_
      exact tq_rnd ((i + 1, o ++ ((wPut ([x1.name, x1.value])).1), G1)) ⟨(Mem.le_trans hle hl1), (by omega), (by (try dsimp only); rw [ho]; exact ents_take hx1)⟩ (by (try dsimp only); omega)
    ·
      refine tc_exit ?_
      refine tq_then_exit ?_
      refine tq_rnd_exit ?_
      refine tq_block_here ?_
      refine tq_then ?_
      refine tc_rbn [0,0] [(2, Sr o)] ?_
      refine tc_ret ?_
      refine tq_ret [0] [Sr o] (bp_ret hle (congrArg Sr (?_ : (treeSaid l) = o).symm))
      unfold treeSaid; first | (rw [if_pos (by omega)]; rfl) | (rw [if_neg (by omega), ho, List.take_of_length_le (by omega)])

theorem treeLeaf_con (G : Mem) (a_l : Option Addr) (c_l : Nat) (l : List EntD) (h_l : RS EEnt G a_l c_l l)  : ConV 105 #[Sl a_l l.length c_l] G (.tuple #[Sr ((treeLeaf l).1), I ((treeLeaf l).2)]) := by
  refine con_of Tryz.func105 31 [(0, Sl a_l l.length c_l)] rfl (fun w0 G0 => ?_)
  refine tc_rbn [0,0] [] ?_
  refine tc_seq ?_
  refine tc_seq ?_
  refine tc_region ?_
  refine runL_bn [0] [(5, Sl a_l l.length c_l)] ?_
  refine runL_callV 6 (I (treeCheck l)) (treeCheck_con G a_l c_l l h_l) ?_
  refine runL_bn [0] [(4, I (treeCheck l))] ?_
  refine runL_nil ?_
  refine tq_then ?_
  refine tc_rbn [0,0] [(8, Bo (!decide (treeCheck l = 0)))] ?_
  refine tc_condP (!decide (treeCheck l = 0)) (fun h1 => ?_) (fun h1 => ?_)
  ·
    refine tc_rbn [0,0,0] [(2, Sr ([])), (3, I (treeCheck l))] ?_
    refine tc_ret ?_
    refine tq_then_ret ?_
    refine tq_ret [0, 0] [Sr ([]), I (treeCheck l)] (bp_ret (Mem.le_refl _) ?_)
    have hf_ : (treeLeaf l) = ([], (treeCheck l)) := by
      unfold treeLeaf; first | (rw [if_pos (by assumption)]; done) | (rw [if_neg (by omega), if_neg (by intro hc_; omega)]; done) | (have hf_ := firstN_get hx1; first | (have hl_ := lastN_get hx2; subst hf_; subst hl_; rw [if_neg (by omega)]; first | (rw [if_pos (by simp_all)]; done) | (rw [if_neg (by simp_all)]; done)) | (have e_ : l.length - 1 = 0 := (by omega); have hl_ := lastN_get (by rw [e_]; exact hx1); rw [if_neg (by omega), if_neg (by rw [← hf_, ← hl_]; simp)]; done))
    (try rw [hf_]); first | with_reducible rfl | (simp only [packR]; done) | rfl
  ·
    refine tc_skip ?_
    refine tq_then ?_
    refine tc_seq ?_
    refine tc_seq ?_
    rcases Bool.eq_false_or_eq_true (decide (((l.length : Nat) : Int) > 0)) with h2 | h2
    ·
      have h2d := h2
      try simp only [decide_eq_true_eq, decide_eq_false_iff_not, Bool.and_eq_true, Bool.or_eq_true, Bool.and_eq_false_imp, Bool.or_eq_false_iff, Bool.not_eq_true', Bool.not_eq_false', Bool.not_eq_true, Bool.not_eq_false, beq_iff_eq, beq_eq_false_iff_ne, bne_iff_ne, ne_eq, Decidable.not_not, Int.not_lt, Int.not_le] at h2d
      obtain ⟨b1, o1, rfl⟩ := RS.addr h_l (k := 0) (by first | omega | (have q_ := (treeCheck_iff.1 (by assumption)).len; omega))
      obtain ⟨x1, hx1⟩ := getX (l := l) (k := 0) (by first | omega | (have q_ := (treeCheck_iff.1 (by assumption)).len; omega))
      obtain ⟨_, ⟨rfl, w1, w2⟩, hc1⟩ := RS.get h_l hx1
      have e1 : IntKind.i64.wrap ((((l.length : Nat) : Int)) - 1) = ((l.length - 1 : Nat) : Int) := (IntWalk.i64_in _ (by first | omega | (have q_ := (treeCheck_iff.1 (by assumption)).len; omega))).trans (show (((l.length : Nat) : Int)) - 1 = ((l.length - 1 : Nat) : Int) by omega)
      obtain ⟨x2, hx2⟩ := getX (l := l) (k := l.length - 1) (by first | omega | (have q_ := (treeCheck_iff.1 (by assumption)).len; omega))
      obtain ⟨_, ⟨rfl, w3, w4⟩, hc2⟩ := RS.get h_l hx2
      refine tc_draw [] ?_
      refine dr_V [(0, Sl (At b1 o1) l.length c_l), (1, I (((l.length : Nat) : Int))), (2, Bo true), (3, Bo true), (4, Sl (At b1 o1) l.length c_l), (5, Pt b1 (o1 + 0 * 2)), (6, Pt b1 (o1 + 0 * 2)), (7, Sr x1.name), (8, Sr (way x1.name)), (9, Sl (At b1 o1) l.length c_l), (10, Sl (At b1 o1) l.length c_l), (11, I (((l.length : Nat) : Int))), (12, I (((l.length - 1 : Nat) : Int))), (13, Pt b1 (o1 + (l.length - 1) * 2)), (14, Pt b1 (o1 + (l.length - 1) * 2)), (15, Sr x2.name), (16, Sr (way x2.name)), (17, Bo (!((B (way x1.name)).toList == (B (way x2.name)).toList))), (18, Bo (!((B (way x1.name)).toList == (B (way x2.name)).toList)))] ?_
      refine dr_end [] [(0,0), (1,0), (3,0), (4,0), (6,0), (9,0), (10,0), (11,0), (14,0), (17,0), (18,0)] [2, 5, 7, 8, 12, 13, 15, 16] [(0, Sl (At b1 o1) l.length c_l), (28, Bo (!((B (way x1.name)).toList == (B (way x2.name)).toList)))] (fmc ?_ (fmc ?_ (fmc ?_ (fmc ?_ (fmc ?_ (fmc ?_ (fmc ?_ (fmc ?_ fm0)))))))) ?_
      · refine stab_of 2 12 (Bo true) [(11, I (((l.length : Nat) : Int)))] (fun X => ?_)
        exact runL_p1 12 (Bo (decide (((l.length : Nat) : Int) > 0))) (Bo true) (by rw [h2]) stab_end
      · refine stab_of 5 15 (Pt b1 (o1 + 0 * 2)) [(13, Bo true), (14, Sl (At b1 o1) l.length c_l)] (fun X => ?_)
        exact runL_idx (b := b1) (off := o1) (len := l.length) (cap := c_l) (ik := .i64) 15 106 2 0 (by first | omega | (have q_ := (treeCheck_iff.1 (by assumption)).len; omega)) stab_end
      · refine stab_of 7 17 (Sr x1.name) [(13, Bo true), (16, Pt b1 (o1 + 0 * 2))] (fun X => ?_)
        exact runL_ldG 17 9 (cs := [Sr x1.name, Sr x1.value]) 0 (Sr x1.name) hc1 stab_end
      · refine stab_of 8 18 (Sr (way x1.name)) [(13, Bo true), (17, Sr x1.name)] (fun X => ?_)
        exact runL_callV 18 (Sr (way x1.name)) (way_con G x1.name w1) stab_end
      · refine stab_of 12 22 (I (((l.length - 1 : Nat) : Int))) [(13, Bo true), (21, I (((l.length : Nat) : Int)))] (fun X => ?_)
        exact runL_p1 22 (I (IntKind.i64.wrap ((((l.length : Nat) : Int)) - 1))) (I (((l.length - 1 : Nat) : Int))) (by simp only [e1]) stab_end
      · refine stab_of 13 23 (Pt b1 (o1 + (l.length - 1) * 2)) [(13, Bo true), (19, Sl (At b1 o1) l.length c_l), (22, I (((l.length - 1 : Nat) : Int)))] (fun X => ?_)
        exact runL_idx (b := b1) (off := o1) (len := l.length) (cap := c_l) (ik := .i64) 23 106 2 (l.length - 1) (by first | omega | (have q_ := (treeCheck_iff.1 (by assumption)).len; omega)) stab_end
      · refine stab_of 15 25 (Sr x2.name) [(13, Bo true), (24, Pt b1 (o1 + (l.length - 1) * 2))] (fun X => ?_)
        exact runL_ldG 25 9 (cs := [Sr x2.name, Sr x2.value]) 0 (Sr x2.name) hc2 stab_end
      · refine stab_of 16 26 (Sr (way x2.name)) [(13, Bo true), (25, Sr x2.name)] (fun X => ?_)
        exact runL_callV 26 (Sr (way x2.name)) (way_con G x2.name w3) stab_end
      refine tq_put 28 (Bo (!(way x1.name == way x2.name))) ((show (Bo (!((B (way x1.name)).toList == (B (way x2.name)).toList)) : Value) = Bo (!(way x1.name == way x2.name)) by simp only [B_toList])) ?_
      refine tq_then ?_
      refine tc_condP (!(way x1.name == way x2.name)) (fun h3 => ?_) (fun h3 => ?_)
      ·
        refine tc_rbn [0,0] [(2, Sr ([])), (3, I 3)] ?_
        refine tc_ret ?_
        refine tq_then_ret ?_
        refine tq_ret [0, 0] [Sr ([]), I 3] (bp_ret (Mem.le_refl _) ?_)
        have hf_ : (treeLeaf l) = ([], 3) := by
          unfold treeLeaf; first | (rw [if_pos (by assumption)]; done) | (rw [if_neg (by omega), if_neg (by intro hc_; omega)]; done) | (have hf_ := firstN_get hx1; first | (have hl_ := lastN_get hx2; subst hf_; subst hl_; rw [if_neg (by omega)]; first | (rw [if_pos (by simp_all)]; done) | (rw [if_neg (by simp_all)]; done)) | (have e_ : l.length - 1 = 0 := (by omega); have hl_ := lastN_get (by rw [e_]; exact hx1); rw [if_neg (by omega), if_neg (by rw [← hf_, ← hl_]; simp)]; done))
        (try rw [hf_]); first | with_reducible rfl | (simp only [packR]; done) | rfl
      ·
        refine tc_skip ?_
        refine tq_then ?_
        refine tc_seq ?_
        refine tc_region ?_
        refine runL_bn [0] [(29, Sl (At b1 o1) l.length c_l)] ?_
        refine runL_callV 30 (Sr (treeSaid l)) (treeSaid_con G (At b1 o1) c_l l h_l (by first | assumption | exact (treeCheck_iff.1 (by assumption)).len)) ?_
        refine runL_bn [0,0] [(2, Sr (treeSaid l)), (3, I 0)] ?_
        refine runL_nil ?_
        refine tq_then ?_
        refine tc_ret ?_
        refine tq_ret [0, 0] [Sr (treeSaid l), I 0] (bp_ret (Mem.le_refl _) ?_)
        have hf_ : (treeLeaf l) = (treeSaid l, 0) := by
          unfold treeLeaf; first | (rw [if_pos (by assumption)]; done) | (rw [if_neg (by omega), if_neg (by intro hc_; omega)]; done) | (have hf_ := firstN_get hx1; first | (have hl_ := lastN_get hx2; subst hf_; subst hl_; rw [if_neg (by omega)]; first | (rw [if_pos (by simp_all)]; done) | (rw [if_neg (by simp_all)]; done)) | (have e_ : l.length - 1 = 0 := (by omega); have hl_ := lastN_get (by rw [e_]; exact hx1); rw [if_neg (by omega), if_neg (by rw [← hf_, ← hl_]; simp)]; done))
        (try rw [hf_]); first | with_reducible rfl | (simp only [packR]; done) | rfl
    ·
      have h2d := h2
      try simp only [decide_eq_true_eq, decide_eq_false_iff_not, Bool.and_eq_true, Bool.or_eq_true, Bool.and_eq_false_imp, Bool.or_eq_false_iff, Bool.not_eq_true', Bool.not_eq_false', Bool.not_eq_true, Bool.not_eq_false, beq_iff_eq, beq_eq_false_iff_ne, bne_iff_ne, ne_eq, Decidable.not_not, Int.not_lt, Int.not_le] at h2d
      refine tc_draw [] ?_
      refine dr_V [(0, Sl a_l l.length c_l), (1, I (((l.length : Nat) : Int))), (2, Bo false), (3, Bo false), (4, undef), (5, undef), (6, undef), (7, undef), (8, undef), (9, undef), (10, undef), (11, undef), (12, undef), (13, undef), (14, undef), (15, undef), (16, undef), (17, undef), (18, Bo false)] ?_
      refine dr_end [] [(0,0), (1,0), (3,0), (4,1), (5,1), (6,1), (7,1), (8,1), (9,1), (10,1), (11,1), (12,1), (13,1), (14,1), (15,1), (16,1), (17,1), (18,0)] [2] [(0, Sl a_l l.length c_l), (28, Bo false)] (fmc ?_ fm0) ?_
      · refine stab_of 2 12 (Bo false) [(11, I (((l.length : Nat) : Int)))] (fun X => ?_)
        exact runL_p1 12 (Bo (decide (((l.length : Nat) : Int) > 0))) (Bo false) (by rw [h2]) stab_end
      refine tq_then ?_
      refine tc_cond_false ?_
      refine tc_skip ?_
      refine tq_then ?_
      refine tc_seq ?_
      refine tc_region ?_
      refine runL_bn [0] [(29, Sl a_l l.length c_l)] ?_
      refine runL_callV 30 (Sr (treeSaid l)) (treeSaid_con G a_l c_l l h_l (by first | assumption | exact (treeCheck_iff.1 (by assumption)).len)) ?_
      refine runL_bn [0,0] [(2, Sr (treeSaid l)), (3, I 0)] ?_
      refine runL_nil ?_
      refine tq_then ?_
      refine tc_ret ?_
      refine tq_ret [0, 0] [Sr (treeSaid l), I 0] (bp_ret (Mem.le_refl _) ?_)
      have hf_ : (treeLeaf l) = (treeSaid l, 0) := by
        unfold treeLeaf; first | (rw [if_pos (by assumption)]; done) | (rw [if_neg (by omega), if_neg (by intro hc_; omega)]; done) | (have hf_ := firstN_get hx1; first | (have hl_ := lastN_get hx2; subst hf_; subst hl_; rw [if_neg (by omega)]; first | (rw [if_pos (by simp_all)]; done) | (rw [if_neg (by simp_all)]; done)) | (have e_ : l.length - 1 = 0 := (by omega); have hl_ := lastN_get (by rw [e_]; exact hx1); rw [if_neg (by omega), if_neg (by rw [← hf_, ← hl_]; simp)]; done))
      (try rw [hf_]); first | with_reducible rfl | (simp only [packR]; done) | rfl

theorem pway_con (G : Mem) (name : List UInt8) (hw_name : (name).length ≤ 140737488351232)  : ConV 106 #[Sr name] G (Sr (way name)) := by
  refine con_of Tryz.func106 11 [(0, Sr name)] rfl (fun w0 G0 => ?_)
  refine tc_rbn [0] [] ?_
  refine tc_seq ?_
  refine tc_region ?_
  refine runL_bn [0] [(6, Sr name)] ?_
  refine runL_callV 7 (.tuple #[Sr ((pathOf name).1), I ((pathOf name).2)]) (pathOf_con G name hw_name) ?_
  refine runL_bn [0,0,0,0,0] [(3, Sr ((pathOf name).1))] ?_
  refine runL_nil ?_
  refine tq_then ?_
  refine tc_rbn [0,0] [(2, Sr ((pathOf name).1))] ?_
  refine tc_ret ?_
  refine tq_ret [0] [Sr ((pathOf name).1)] (bp_ret (Mem.le_refl _) (congrArg Sr (?_ : (way name) = ((pathOf name).1)).symm))
  rfl

theorem pOther_con (G : Mem) (vs_x : List Value) (x : EntD) (h_x : EEnt.R G vs_x x) (vs_w : List Value) (w : (List UInt8)) (h_w : ES.R G vs_w w) (b_w : Nat) (hz_w : ∀ j v, (vs_w : List Value)[j]? = some v → G b_w (0 + j) = some v)  : ConV 115 #[.agg vs_x.toArray, Pt b_w 0] G (Bo (pOther x w)) := by
  obtain ⟨rfl, w1, w2⟩ := h_x
  obtain ⟨rfl, w3⟩ := h_w
  refine con_of Tryz.func115 9 [(0, .agg #[Sr x.name, Sr x.value]), (1, Pt b_w 0)] rfl (fun w0 G0 => ?_)
  refine tc_seq ?_
  refine tc_region ?_
  refine runL_box 2 #[Sr x.name, Sr x.value] 106 (fun b1 => ?_)
  refine runL_bn [0] [] ?_
  refine runL_nil ?_
  refine tq_then ?_
  refine tc_seq ?_
  refine tc_draw [] ?_
  refine dr_V [(0, Pt b1 0), (1, Sr x.name), (2, Sr (way x.name)), (3, Sr w), (4, Bo (!((B (way x.name)).toList == (B w).toList))), (5, Bo (!((B (way x.name)).toList == (B w).toList)))] ?_
  refine dr_end [] [(0,0), (1,2), (4,0), (5,0)] [2, 3] [(3, Bo (!((B (way x.name)).toList == (B w).toList)))] (fmc ?_ (fmc ?_ fm0)) ?_
  · refine stab_of 2 6 (Sr (way x.name)) [(5, Sr x.name)] (fun X => ?_)
    exact runL_callV 6 (Sr (way x.name)) (pway_con G x.name w1) stab_end
  · refine stab_of 3 7 (Sr w) [(1, Pt b_w 0)] (fun X => ?_)
    exact runL_ldG (o' := 0) 7 9 (cs := [Sr w]) 0 (Sr w) hz_w stab_end
  refine tq_put 3 (Bo (!(way x.name == w))) ((show (Bo (!((B (way x.name)).toList == (B w).toList)) : Value) = Bo (!(way x.name == w)) by simp only [B_toList])) ?_
  refine tq_then ?_
  refine tc_ret ?_
  refine tq_ret [0] [Bo (!(way x.name == w))] (bp_ret (Mem.le_refl _) (congrArg Bo (?_ : (pOther x w) = (!(way x.name == w))).symm))
  rfl

theorem pGreat_con (G : Mem) (m : Int)  : ConV 117 #[U m] G (Bo (pGreat m)) := by
  refine con_of Tryz.func117 5 [(0, U m)] rfl (fun w0 G0 => ?_)
  refine tc_rbn [0] [] ?_
  refine tc_rbn [0,0,0] [(2, Bo (decide (m ≥ 2305843009213693951)))] ?_
  refine tc_ret ?_
  refine tq_ret [0] [Bo (decide (m ≥ 2305843009213693951))] (bp_ret (Mem.le_refl _) (congrArg Bo (?_ : (pGreat m) = (decide (m ≥ 2305843009213693951))).symm))
  rfl

theorem proofRight_con (G : Mem) (vs_p : List Value) (p : ProofD) (h_p : EProof.R G vs_p p)  : ConV 104 #[.agg vs_p.toArray] G (I (proofRight p)) := by
  obtain ⟨a1, c1, a2, c2, rfl, w1, hs1, hs2⟩ := h_p
  refine con_of Tryz.func104 33 [(0, .agg #[Sr p.name, Sl a1 p.entries.length c1, Sl a2 p.sides.length c2])] rfl (fun w0 G0 => ?_)
  refine tc_seq ?_
  refine tc_region ?_
  refine runL_box 1 #[Sr p.name, Sl a1 p.entries.length c1, Sl a2 p.sides.length c2] 52 (fun b1 => ?_)
  refine runL_bn [0] [] ?_
  refine runL_nil ?_
  refine tq_then ?_
  refine tc_seq ?_
  refine tc_seq ?_
  refine tc_region ?_
  refine runL_bn [0,2] [(6, Sr p.name)] ?_
  refine runL_callV 7 (Bo (pathName p.name)) (pathName_con G p.name) ?_
  refine runL_bn [0] [(8, Bo (!(pathName p.name)))] ?_
  refine runL_nil ?_
  refine tq_then ?_
  refine tc_condP (!(pathName p.name)) (fun h1 => ?_) (fun h1 => ?_)
  ·
    refine tc_rbn [0] [(2, I 3)] ?_
    refine tc_ret ?_
    refine tq_then_ret ?_
    refine tq_ret [0] [I 3] (bp_ret (Mem.le_refl _) (congrArg I (?_ : (proofRight p) = 3).symm))
    unfold proofRight; first | (rw [if_pos (by assumption)]; done) | (rw [if_neg (by simp_all), if_pos (by assumption)]; done) | (rw [if_neg (by simp_all), if_neg (by omega)]; first | (rw [if_pos (by simp_all)]; done) | (rw [if_neg (by simp_all)]; done) | (rw [if_pos (by simp_all; omega)]; done) | (rw [if_neg (by simp_all; omega)]; done))
  ·
    refine tc_skip ?_
    refine tq_then ?_
    refine tc_seq ?_
    refine tc_seq ?_
    refine tc_region ?_
    refine runL_bn [0,2] [(10, Sl a1 p.entries.length c1)] ?_
    refine runL_callV 11 (I (treeCheck p.entries)) (treeCheck_con G a1 c1 p.entries hs1) ?_
    refine runL_bn [0] [(3, I (treeCheck p.entries))] ?_
    refine runL_nil ?_
    refine tq_then ?_
    refine tc_rbn [0,0] [(13, Bo (!decide (treeCheck p.entries = 0)))] ?_
    refine tc_condP (!decide (treeCheck p.entries = 0)) (fun h2 => ?_) (fun h2 => ?_)
    ·
      refine tc_rbn [0,0] [(2, I (treeCheck p.entries))] ?_
      refine tc_ret ?_
      refine tq_then_ret ?_
      refine tq_ret [0] [I (treeCheck p.entries)] (bp_ret (Mem.le_refl _) (congrArg I (?_ : (proofRight p) = (treeCheck p.entries)).symm))
      unfold proofRight; first | (rw [if_pos (by assumption)]; done) | (rw [if_neg (by simp_all), if_pos (by assumption)]; done) | (rw [if_neg (by simp_all), if_neg (by omega)]; first | (rw [if_pos (by simp_all)]; done) | (rw [if_neg (by simp_all)]; done) | (rw [if_pos (by simp_all; omega)]; done) | (rw [if_neg (by simp_all; omega)]; done))
    ·
      refine tc_skip ?_
      refine tq_then ?_
      refine tc_seq ?_
      refine tc_region ?_
      refine runL_bn [0,2] [(16, Sr p.name)] ?_
      refine runL_callV 17 (Sr (way p.name)) (pway_con G p.name w1) ?_
      refine runL_box 4 #[Sr ([])] 9 (fun b2 => ?_)
      refine runL_bsn [3] [] [[Sg b2 0 [Sr (way p.name)]], [Sg b1 0 [Sr p.name, Sl a1 p.entries.length c1, Sl a2 p.sides.length c2]]] ?_
      refine runL_nil ?_
      refine tq_then ?_
      refine tc_seq ?_
      refine tc_seq ?_
      refine tc_region ?_
      refine runL_bn [0,4,0] [(19, Sl a1 p.entries.length c1), (20, Fv 115 #[Pt b2 0])] ?_
      refine runL_frz1 (b := b2) (o := 0) (cs := [Sr (way p.name)]) 0 (fun G1 hl1 hz1 => ?_)
      refine runL_callV 21 (Bo (p.entries.any ((fun x0 => pOther x0 (way p.name))))) (sany_EEnt G1 a1 c1 p.entries (hs1.mono hl1) 115 #[Pt b2 0] ((fun x0 => pOther x0 (way p.name))) ((fun _ => ⟨fun _ => by kernel_rfl, by kernel_rfl⟩)) ((fun vs0 x0 hx0 => by obtain ⟨rfl, w2, w3⟩ := hx0; exact pOther_con G1 [Sr x0.name, Sr x0.value] x0 (⟨rfl, w2, w3⟩) [Sr (way p.name)] (way p.name) (⟨rfl, (Nat.le_trans (way_len p.name) (by decide))⟩) b2 hz1))) ?_
      refine runL_bn [0] [(22, Bo (p.entries.any ((fun x0 => pOther x0 (way p.name)))))] ?_
      refine runL_b2n (p.entries.any ((fun x0 => pOther x0 (way p.name)))) [22] [1,1,1,1,0] [0,4,0,0,0] (fun bb => [(27, Bo (bb || (!decide (((p.sides.length : Nat) : Int) = 16))))]) ?_
      refine runL_bn [0] [(28, Bo ((p.entries.any ((fun x0 => pOther x0 (way p.name)))) || (!decide (((p.sides.length : Nat) : Int) = 16))))] ?_
      refine runL_casesT [28] ((p.entries.any ((fun x0 => pOther x0 (way p.name)))) || (!decide (((p.sides.length : Nat) : Int) = 16))) (fun h3 => ?_) (fun h3 => ?_)
      ·
        refine runL_bn [1,1,1,0] [(32, Bo true)] ?_
        refine runL_nil ?_
        refine tq_then ?_
        refine tc_cond_true ?_
        refine tc_rbn [0] [(2, I 3)] ?_
        refine tc_ret ?_
        refine tq_then_ret ?_
        refine tq_ret [0] [I 3] (bp_ret hl1 (congrArg I (?_ : (proofRight p) = 3).symm))
        unfold proofRight; first | (rw [if_pos (by assumption)]; done) | (rw [if_neg (by simp_all), if_pos (by assumption)]; done) | (rw [if_neg (by simp_all), if_neg (by omega)]; first | (rw [if_pos (by simp_all)]; done) | (rw [if_neg (by simp_all)]; done) | (rw [if_pos (by simp_all; omega)]; done) | (rw [if_neg (by simp_all; omega)]; done))
      ·
        refine runL_bn [0,4] [(30, Sl a2 p.sides.length c2)] ?_
        refine runL_callV 31 (Bo (p.sides.any ((fun x0 => pGreat x0)))) (sany_EU G1 a2 c2 p.sides (hs2.mono hl1) 117 #[] ((fun x0 => pGreat x0)) ((fun _ => ⟨fun _ => by kernel_rfl, by kernel_rfl⟩)) ((fun x0 hx0 => pGreat_con G1 x0))) ?_
        refine runL_bn [0] [(32, Bo (p.sides.any ((fun x0 => pGreat x0))))] ?_
        refine runL_nil ?_
        refine tq_then ?_
        refine tc_condP (p.sides.any ((fun x0 => pGreat x0))) (fun h4 => ?_) (fun h4 => ?_)
        ·
          refine tc_rbn [0] [(2, I 3)] ?_
          refine tc_ret ?_
          refine tq_then_ret ?_
          refine tq_ret [0] [I 3] (bp_ret hl1 (congrArg I (?_ : (proofRight p) = 3).symm))
          unfold proofRight; first | (rw [if_pos (by assumption)]; done) | (rw [if_neg (by simp_all), if_pos (by assumption)]; done) | (rw [if_neg (by simp_all), if_neg (by omega)]; first | (rw [if_pos (by simp_all)]; done) | (rw [if_neg (by simp_all)]; done) | (rw [if_pos (by simp_all; omega)]; done) | (rw [if_neg (by simp_all; omega)]; done))
        ·
          refine tc_skip ?_
          refine tq_then ?_
          refine tc_rbn [0] [(2, I 0)] ?_
          refine tc_ret ?_
          refine tq_ret [0] [I 0] (bp_ret hl1 (congrArg I (?_ : (proofRight p) = 0).symm))
          unfold proofRight; first | (rw [if_pos (by assumption)]; done) | (rw [if_neg (by simp_all), if_pos (by assumption)]; done) | (rw [if_neg (by simp_all), if_neg (by omega)]; first | (rw [if_pos (by simp_all)]; done) | (rw [if_neg (by simp_all)]; done) | (rw [if_pos (by simp_all; omega)]; done) | (rw [if_neg (by simp_all; omega)]; done))

theorem proofSaid_con (G : Mem) (vs_p : List Value) (p : ProofD) (h_p : EProof.R G vs_p p)  : ConP 86 #[.agg vs_p.toArray] G [] (fun u G' L' => ∃ (a1 : Option Addr) (c2 : Nat), u = .tuple #[Sl a1 (((proofSaid p).1).length) c2, I ((proofSaid p).2)] ∧ (RS ES G' a1 c2 ((proofSaid p).1)) ∧ L' = []) := by
  obtain ⟨a1, c1, a2, c2, rfl, w1, hs1, hs2⟩ := h_p
  refine con_of Tryz.func86 74 [(0, .agg #[Sr p.name, Sl a1 p.entries.length c1, Sl a2 p.sides.length c2])] rfl (fun w0 G0 => ?_)
  refine tc_seq ?_
  refine tc_region ?_
  refine runL_box 1 #[Sr p.name, Sl a1 p.entries.length c1, Sl a2 p.sides.length c2] 52 (fun b1 => ?_)
  refine runL_bn [0,0] [] ?_
  refine runL_nil ?_
  refine tq_then ?_
  refine tc_seq ?_
  refine tc_seq ?_
  refine tc_region ?_
  refine runL_bn [2] [(15, .agg #[Sr p.name, Sl a1 p.entries.length c1, Sl a2 p.sides.length c2])] ?_
  refine runL_callV 16 (I (proofRight p)) (proofRight_con G [Sr p.name, Sl a1 p.entries.length c1, Sl a2 p.sides.length c2] p (⟨a1, c1, a2, c2, rfl, w1, hs1, hs2⟩)) ?_
  refine runL_bn [0] [(4, I (proofRight p))] ?_
  refine runL_nil ?_
  refine tq_then ?_
  refine tc_rbn [0,0] [(18, Bo (!decide (proofRight p = 0)))] ?_
  refine tc_condP (!decide (proofRight p = 0)) (fun h1 => ?_) (fun h1 => ?_)
  ·
    refine tc_rbn [0,0,0] [(2, Sl none 0 0), (3, I (proofRight p))] ?_
    refine tc_ret ?_
    refine tq_then_ret ?_
    have hf1 : proofSaid p = ([], proofRight p) := by
      unfold proofSaid; first | (simp_all; done) | (rw [if_neg (by omega), hxo, List.take_of_length_le (by rw [pOut_len]; omega)])
    refine tq_ret [0, 0] [Sl none 0 0, I (proofRight p)] (bp_rowsA [] (Mem.le_refl _) ?_)
    rw [hf1]
    try dsimp only
    exact ⟨none, 0, rfl, (RS.nil' ES G), rfl⟩
  ·
    refine tc_skip ?_
    refine tq_then ?_
    refine tc_seq ?_
    refine tc_region ?_
    refine runL_callV 21 (.tuple #[Sr ((treeLeaf ([])).1), I ((treeLeaf ([])).2)]) (treeLeaf_con G none 0 ([]) (RS.nil' EEnt G)) ?_
    refine runL_bn [0,0,0,0,0] [(5, Sr ((treeLeaf ([])).1))] ?_
    refine runL_nil ?_
    refine tq_then ?_
    refine tc_seq ?_
    refine tc_region ?_
    refine runL_bn [0,2] [(26, Sl a1 p.entries.length c1)] ?_
    refine runL_callV 27 (.tuple #[Sr ((treeLeaf p.entries).1), I ((treeLeaf p.entries).2)]) (treeLeaf_con G a1 c1 p.entries hs1) ?_
    refine runL_bn [0,0,0,0,0] [(7, Sr ((treeLeaf p.entries).1))] ?_
    refine runL_nil ?_
    refine tq_then ?_
    refine tc_seq ?_
    refine tc_region ?_
    refine runL_bn [0] [(30, Sr ((treeLeaf p.entries).1))] ?_
    refine runL_bsl 31 1 #[Sr ((treeLeaf p.entries).1)] 9 (fun b2 => ?_)
    refine runL_bn [0] [(9, Sl (At b2 0) 1 1)] ?_
    refine runL_nil ?_
    refine tq_then ?_
    refine tc_seq ?_
    refine tc_region ?_
    refine runL_bn [0,4] [(33, Sr p.name)] ?_
    refine runL_callV 34 (Sr (way p.name)) (pway_con G p.name w1) ?_
    refine runL_bn [0] [(10, Sr (way p.name))] ?_
    refine runL_nil ?_
    refine tq_then ?_
    refine tc_seq ?_
    refine tc_rbn [0,4,0,0] [(36, Sl a2 p.sides.length c2), (37, I (((p.sides.length : Nat) : Int))), (38, I 0)] ?_
    refine tc_block ?_
    have hlm_hs2 : p.sides.length ≤ 9223372036854775807 := Nat.le_trans (hs2).le (hs2).max
    refine tc_loop (σ := Nat × List UInt8 × Option Addr × Nat × List Seg × List ((List UInt8)) × Mem) (fun q_ => (Mem.le G q_.2.2.2.2.2.2) ∧ (q_.1 ≤ p.sides.length) ∧ (q_.2.1.length ≤ 14401) ∧ (TRow ES q_.2.2.2.2.2.2 q_.2.2.1 q_.2.2.2.1 q_.2.2.2.2.2.1 q_.2.2.2.2.1) ∧ (q_.2.2.2.2.2.1 = (pOut (way p.name) 0 (treeLeaf p.entries).1 p.sides).take (q_.1 + 1)) ∧ ((pOut (way p.name) 0 (treeLeaf p.entries).1 p.sides)[q_.1]? = some q_.2.1)) (fun q_ => [(5, Sr ((treeLeaf ([])).1)), (7, Sr q_.2.1), (9, Sl q_.2.2.1 q_.2.2.2.2.2.1.length q_.2.2.2.1), (10, Sr (way p.name)), (36, Sl a2 p.sides.length c2), (37, I (((p.sides.length : Nat) : Int))), (38, I ((q_.1 : Int)))]) (fun q_ => q_.2.2.2.2.2.2) (fun q_ => [q_.2.2.2.2.1, [Sg b1 0 [Sr p.name, Sl a1 p.entries.length c1, Sl a2 p.sides.length c2]]]) (fun q_ => p.sides.length - q_.1) ((0, (treeLeaf p.entries).1, At b2 0, 1, [Sg b2 0 [Sr ((treeLeaf p.entries).1)]], [(treeLeaf p.entries).1], G)) ⟨(Mem.le_refl _), (by (try dsimp only); first | exact Nat.zero_le _ | omega | simp), (treeLeaf_len _), (TRow.of_lit [[Sr ((treeLeaf p.entries).1)]] [(treeLeaf p.entries).1] ⟨⟨rfl, (Nat.le_trans (treeLeaf_len _) (by decide))⟩, trivial⟩ (by simp)), (pOut_take1 _ _ _ _), (pOut_0 _ _ _ _)⟩ (fun q_ hs => ?_)
    obtain ⟨i, s, ao, co, ro, xo, g⟩ := q_
    obtain ⟨hle, hi, hs, hro, hxo, hs_⟩ := hs
    dsimp only at hle hi hs hro hxo hs_
    refine tc_eq (fr' := [(5, Sr ((treeLeaf ([])).1)), (7, Sr s), (9, Sl ao xo.length co), (10, Sr (way p.name)), (36, Sl a2 p.sides.length c2), (37, I (((p.sides.length : Nat) : Int))), (38, I ((i : Int)))]) (L' := [ro, [Sg b1 0 [Sr p.name, Sl a1 p.entries.length c1, Sl a2 p.sides.length c2]]]) rfl rfl ?_
    refine tc_rbn [0] [(39, Bo (decide ((i : Int) < ((p.sides.length : Nat) : Int))))] ?_
    refine tc_seq ?_
    refine tc_condP (decide ((i : Int) < ((p.sides.length : Nat) : Int))) (fun h2 => ?_) (fun h2 => ?_)
    ·
      refine tc_skip ?_
      refine tq_then ?_
      refine tc_seq ?_
      refine tc_block ?_
      refine tc_seq ?_
      refine tc_region ?_
      refine runL_bn [0] [(40, I ((i : Int)))] ?_
      obtain ⟨b3, o1, rfl⟩ := RS.addr (hs2.mono hle) (k := i) (by first | omega | (have q_ := proofRight_iff.1 (by assumption); have q1_ := way_16 q_.name; have q2_ := q_.sides; omega))
      obtain ⟨x1, hx1⟩ := getX (l := p.sides) (k := i) (by first | omega | (have q_ := proofRight_iff.1 (by assumption); have q1_ := way_16 q_.name; have q2_ := q_.sides; omega))
      obtain ⟨_, ⟨rfl, w2⟩, hc1⟩ := RS.get (hs2.mono hle) hx1
      refine runL_idx (b := b3) (off := o1) (len := p.sides.length) (cap := c2) (ik := .i64) 41 34 1 i (by first | omega | (have q_ := proofRight_iff.1 (by assumption); have q1_ := way_16 q_.name; have q2_ := q_.sides; omega)) ?_
      refine runL_ldG 42 34 (cs := [U x1]) 0 (U x1) hc1 ?_
      refine runL_bn [0,0] [(11, I ((i : Int))), (12, U x1)] ?_
      refine runL_nil ?_
      refine tq_then ?_
      refine tc_seq ?_
      refine tc_region ?_
      refine runL_bn [0] [(43, Sr s)] ?_
      refine runL_callV 44 (U (markOf s)) (markOf_con s (le48r' (by first | assumption | omega | (simp; done) | (simp; omega))) g) ?_
      refine runL_bn [0,0,0] [(13, U (markOf s)), (14, U x1)] ?_
      refine runL_nil ?_
      refine tq_then ?_
      refine tc_seq ?_
      refine tc_seq ?_
      refine tc_region ?_
      refine runL_bn [0,0,0] [(46, Sr (way p.name)), (48, I (IntKind.i64.wrap (15 - ((i : Int)))))] ?_
      refine runL_wi64 48 (15 - ((i : Int))) (by first | omega | (have q_ := proofRight_iff.1 (by assumption); have q1_ := way_16 q_.name; have q2_ := q_.sides; omega)) ?_
      obtain ⟨kn1, hkn1⟩ : ∃ k_ : Nat, 15 - ((i : Int)) = (k_ : Int) := ⟨(15 - ((i : Int))).toNat, by first | omega | (have q_ := proofRight_iff.1 (by assumption); have q1_ := way_16 q_.name; have q2_ := q_.sides; omega)⟩
      have e1 : 15 - ((i : Int)) = (kn1 : Int) := hkn1
      refine runL_put 48 (I ((kn1 : Int))) (congrArg I e1) ?_
      obtain ⟨y1, hy1⟩ := getX (l := way p.name) (k := kn1) (by first | omega | (have q_ := proofRight_iff.1 (by assumption); have q1_ := way_16 q_.name; have q2_ := q_.sides; omega))
      have hb_y1 := y1.toNat_lt
      refine runL_sidx (ik := .i64) 49 kn1 y1 hy1 ?_
      refine runL_bn [0] [(50, Bo (decide ((y1.toNat : Int) = 49)))] ?_
      refine runL_nil ?_
      refine tq_then ?_
      refine tc_condP (decide ((y1.toNat : Int) = 49)) (fun h3 => ?_) (fun h3 => ?_)
      ·
        refine tc_region ?_
        refine runL_bn [0,0,0,0] [(13, U x1), (14, U (markOf s))] ?_
        refine runL_nil ?_
        refine tq_then ?_
        refine tc_seq ?_
        refine tc_rbn [0,0] [(7, Sr ((treeLeaf ([])).1))] ?_
        refine tc_seq ?_
        refine tc_region ?_
        refine runL_bn [0,0,0,0] [(56, U (if (markOf s) > x1 then (markOf s) else x1)), (57, Sr ((treeLeaf ([])).1))] ?_
        refine runL_callV 58 (U (markOf ((treeLeaf ([])).1))) (markOf_con ((treeLeaf ([])).1) (le48r' (Nat.le_trans (treeLeaf_len _) (by decide))) g) ?_
        refine runL_bn [0,0] [(60, Bo (!decide ((if (markOf s) > x1 then (markOf s) else x1) = markOf ((treeLeaf ([])).1))))] ?_
        refine runL_b2n (!decide ((if (markOf s) > x1 then (markOf s) else x1) = markOf ((treeLeaf ([])).1))) [60] [1,1,1,0] [0,0,0,0] (fun bb => [(64, Bo (bb || (!decide (x1 = markOf s))))]) ?_
        refine runL_nil ?_
        refine tq_then ?_
        refine tc_condP ((!decide ((if (markOf s) > x1 then (markOf s) else x1) = markOf ((treeLeaf ([])).1))) || (!decide (x1 = markOf s))) (fun h4 => ?_) (fun h4 => ?_)
        ·
          refine tc_region ?_
          refine runL_bn [0,0] [(65, U x1), (66, U (markOf s))] ?_
          refine runL_callV 67 (Sr (markSaid 2 x1 (markOf s))) (markSaid_con 2 x1 (markOf s) g) ?_
          refine runL_bn [0] [(7, Sr (markSaid 2 x1 (markOf s)))] ?_
          refine runL_nil ?_
          refine tq_then ?_
          refine tc_region ?_
          refine runL_bn [0,0] [(68, Sl ao xo.length co), (69, Sr (markSaid 2 x1 (markOf s)))] ?_
          refine runL_bsl 70 1 #[Sr (markSaid 2 x1 (markOf s))] 9 (fun b4 => ?_)
          refine runL_app1' (b := b4) (cs := [Sr (markSaid 2 x1 (markOf s))]) 71 9 1 0 (E := ES) (markSaid 2 x1 (markOf s)) hro ⟨rfl, (by rw [markSaid_length]; decide)⟩ (by have q_ := proofRight_iff.1 (by assumption); have q1_ := way_16 q_.name; have q2_ := q_.sides; have q3_ := congrArg List.length hxo; have q4_ := pOut_len (way p.name) p.sides 0 (treeLeaf p.entries).1; rw [List.length_take] at q3_; (try simp only [ES, List.length_append, List.length_cons, List.length_nil] at *); omega) (by have q_ := proofRight_iff.1 (by assumption); have q1_ := way_16 q_.name; have q2_ := q_.sides; have q3_ := congrArg List.length hxo; have q4_ := pOut_len (way p.name) p.sides 0 (treeLeaf p.entries).1; rw [List.length_take] at q3_; (try simp only [ES, List.length_append, List.length_cons, List.length_nil] at *); omega) (fun a3 c3 r1 hr1 => ?_)
          refine runL_bn [0] [(9, Sl a3 ((xo ++ [markSaid 2 x1 (markOf s)]).length) c3)] ?_
          refine runL_nil ?_
          refine tq_block ?_
          refine tq_then ?_
          refine tc_region ?_
          refine runL_bn [0,0] [(38, I (IntKind.i64.wrap (((i : Int)) + 1)))] ?_
          refine runL_wi64 38 (((i : Int)) + 1) (by first | omega | (have q_ := proofRight_iff.1 (by assumption); have q1_ := way_16 q_.name; have q2_ := q_.sides; omega)) ?_
          refine runL_nil ?_
          refine tq_ownsA [r1, [Sg b1 0 [Sr p.name, Sl a1 p.entries.length c1, Sl (At b3 o1) p.sides.length c2]]] ?_
          exact tq_rnd ((i + 1, markSaid 2 x1 (markOf s), a3, c3, r1, xo ++ [markSaid 2 x1 (markOf s)], g)) ⟨(Mem.le_trans hle (Mem.le_refl _)), (by omega), (by have q0_ := markSaid_length; first | (rw [q0_]; decide) | exact treeLeaf_len _), hr1, (by (try dsimp only); have q0_ := pOut_next hxo hs_ hx1; have q1_ : pStep (way p.name) i s x1 = markSaid 2 x1 (markOf s) := (by (first | rw [pStep_a (by omega) hy1 (by assumption)] | rw [pStep_b (by omega) hy1 (by assumption)]); first | exact pSay_ne (by assumption) | exact pSay_if (by assumption)); rw [q1_] at q0_; exact q0_.1), (by (try dsimp only); have q0_ := pOut_next hxo hs_ hx1; have q1_ : pStep (way p.name) i s x1 = markSaid 2 x1 (markOf s) := (by (first | rw [pStep_a (by omega) hy1 (by assumption)] | rw [pStep_b (by omega) hy1 (by assumption)]); first | exact pSay_ne (by assumption) | exact pSay_if (by assumption)); rw [q1_] at q0_; exact q0_.2)⟩ (by (try dsimp only); omega)
        ·
          refine tc_skip ?_
          refine tq_then ?_
          refine tc_region ?_
          refine runL_bn [0,0] [(68, Sl ao xo.length co), (69, Sr ((treeLeaf ([])).1))] ?_
          refine runL_bsl 70 1 #[Sr ((treeLeaf ([])).1)] 9 (fun b5 => ?_)
          refine runL_app1' (b := b5) (cs := [Sr ((treeLeaf ([])).1)]) 71 9 1 0 (E := ES) ((treeLeaf ([])).1) hro ⟨rfl, (Nat.le_trans (treeLeaf_len _) (by decide))⟩ (by have q_ := proofRight_iff.1 (by assumption); have q1_ := way_16 q_.name; have q2_ := q_.sides; have q3_ := congrArg List.length hxo; have q4_ := pOut_len (way p.name) p.sides 0 (treeLeaf p.entries).1; rw [List.length_take] at q3_; (try simp only [ES, List.length_append, List.length_cons, List.length_nil] at *); omega) (by have q_ := proofRight_iff.1 (by assumption); have q1_ := way_16 q_.name; have q2_ := q_.sides; have q3_ := congrArg List.length hxo; have q4_ := pOut_len (way p.name) p.sides 0 (treeLeaf p.entries).1; rw [List.length_take] at q3_; (try simp only [ES, List.length_append, List.length_cons, List.length_nil] at *); omega) (fun a4 c4 r2 hr2 => ?_)
          refine runL_bn [0] [(9, Sl a4 ((xo ++ [(treeLeaf ([])).1]).length) c4)] ?_
          refine runL_nil ?_
          refine tq_block ?_
          refine tq_then ?_
          refine tc_region ?_
          refine runL_bn [0,0] [(38, I (IntKind.i64.wrap (((i : Int)) + 1)))] ?_
          refine runL_wi64 38 (((i : Int)) + 1) (by first | omega | (have q_ := proofRight_iff.1 (by assumption); have q1_ := way_16 q_.name; have q2_ := q_.sides; omega)) ?_
          refine runL_nil ?_
          refine tq_ownsA [r2, [Sg b1 0 [Sr p.name, Sl a1 p.entries.length c1, Sl (At b3 o1) p.sides.length c2]]] ?_
          exact tq_rnd ((i + 1, (treeLeaf ([])).1, a4, c4, r2, xo ++ [(treeLeaf ([])).1], g)) ⟨(Mem.le_trans hle (Mem.le_refl _)), (by omega), (by have q0_ := markSaid_length; first | (rw [q0_]; decide) | exact treeLeaf_len _), hr2, (by (try dsimp only); have q0_ := pOut_next hxo hs_ hx1; have q1_ : pStep (way p.name) i s x1 = (treeLeaf ([])).1 := (by (first | rw [pStep_a (by omega) hy1 (by assumption)] | rw [pStep_b (by omega) hy1 (by assumption)]); first | exact pSay_ne (by assumption) | exact pSay_if (by assumption)); rw [q1_] at q0_; exact q0_.1), (by (try dsimp only); have q0_ := pOut_next hxo hs_ hx1; have q1_ : pStep (way p.name) i s x1 = (treeLeaf ([])).1 := (by (first | rw [pStep_a (by omega) hy1 (by assumption)] | rw [pStep_b (by omega) hy1 (by assumption)]); first | exact pSay_ne (by assumption) | exact pSay_if (by assumption)); rw [q1_] at q0_; exact q0_.2)⟩ (by (try dsimp only); omega)
      ·
        refine tc_skip ?_
        refine tq_then ?_
        refine tc_seq ?_
        refine tc_rbn [0,0] [(7, Sr ((treeLeaf ([])).1))] ?_
        refine tc_seq ?_
        refine tc_region ?_
        refine runL_bn [0,0,0,0] [(56, U (if x1 > (markOf s) then x1 else (markOf s))), (57, Sr ((treeLeaf ([])).1))] ?_
        refine runL_callV 58 (U (markOf ((treeLeaf ([])).1))) (markOf_con ((treeLeaf ([])).1) (le48r' (Nat.le_trans (treeLeaf_len _) (by decide))) g) ?_
        refine runL_bn [0,0] [(60, Bo (!decide ((if x1 > (markOf s) then x1 else (markOf s)) = markOf ((treeLeaf ([])).1))))] ?_
        refine runL_b2n (!decide ((if x1 > (markOf s) then x1 else (markOf s)) = markOf ((treeLeaf ([])).1))) [60] [1,1,1,0] [0,0,0,0] (fun bb => [(64, Bo (bb || (!decide (markOf s = x1))))]) ?_
        refine runL_nil ?_
        refine tq_then ?_
        refine tc_condP ((!decide ((if x1 > (markOf s) then x1 else (markOf s)) = markOf ((treeLeaf ([])).1))) || (!decide (markOf s = x1))) (fun h5 => ?_) (fun h5 => ?_)
        ·
          refine tc_region ?_
          refine runL_bn [0,0] [(65, U (markOf s)), (66, U x1)] ?_
          refine runL_callV 67 (Sr (markSaid 2 (markOf s) x1)) (markSaid_con 2 (markOf s) x1 g) ?_
          refine runL_bn [0] [(7, Sr (markSaid 2 (markOf s) x1))] ?_
          refine runL_nil ?_
          refine tq_then ?_
          refine tc_region ?_
          refine runL_bn [0,0] [(68, Sl ao xo.length co), (69, Sr (markSaid 2 (markOf s) x1))] ?_
          refine runL_bsl 70 1 #[Sr (markSaid 2 (markOf s) x1)] 9 (fun b6 => ?_)
          refine runL_app1' (b := b6) (cs := [Sr (markSaid 2 (markOf s) x1)]) 71 9 1 0 (E := ES) (markSaid 2 (markOf s) x1) hro ⟨rfl, (by rw [markSaid_length]; decide)⟩ (by have q_ := proofRight_iff.1 (by assumption); have q1_ := way_16 q_.name; have q2_ := q_.sides; have q3_ := congrArg List.length hxo; have q4_ := pOut_len (way p.name) p.sides 0 (treeLeaf p.entries).1; rw [List.length_take] at q3_; (try simp only [ES, List.length_append, List.length_cons, List.length_nil] at *); omega) (by have q_ := proofRight_iff.1 (by assumption); have q1_ := way_16 q_.name; have q2_ := q_.sides; have q3_ := congrArg List.length hxo; have q4_ := pOut_len (way p.name) p.sides 0 (treeLeaf p.entries).1; rw [List.length_take] at q3_; (try simp only [ES, List.length_append, List.length_cons, List.length_nil] at *); omega) (fun a5 c5 r3 hr3 => ?_)
          refine runL_bn [0] [(9, Sl a5 ((xo ++ [markSaid 2 (markOf s) x1]).length) c5)] ?_
          refine runL_nil ?_
          refine tq_block ?_
          refine tq_then ?_
          refine tc_region ?_
          refine runL_bn [0,0] [(38, I (IntKind.i64.wrap (((i : Int)) + 1)))] ?_
          refine runL_wi64 38 (((i : Int)) + 1) (by first | omega | (have q_ := proofRight_iff.1 (by assumption); have q1_ := way_16 q_.name; have q2_ := q_.sides; omega)) ?_
          refine runL_nil ?_
          refine tq_ownsA [r3, [Sg b1 0 [Sr p.name, Sl a1 p.entries.length c1, Sl (At b3 o1) p.sides.length c2]]] ?_
          exact tq_rnd ((i + 1, markSaid 2 (markOf s) x1, a5, c5, r3, xo ++ [markSaid 2 (markOf s) x1], g)) ⟨(Mem.le_trans hle (Mem.le_refl _)), (by omega), (by have q0_ := markSaid_length; first | (rw [q0_]; decide) | exact treeLeaf_len _), hr3, (by (try dsimp only); have q0_ := pOut_next hxo hs_ hx1; have q1_ : pStep (way p.name) i s x1 = markSaid 2 (markOf s) x1 := (by (first | rw [pStep_a (by omega) hy1 (by assumption)] | rw [pStep_b (by omega) hy1 (by assumption)]); first | exact pSay_ne (by assumption) | exact pSay_if (by assumption)); rw [q1_] at q0_; exact q0_.1), (by (try dsimp only); have q0_ := pOut_next hxo hs_ hx1; have q1_ : pStep (way p.name) i s x1 = markSaid 2 (markOf s) x1 := (by (first | rw [pStep_a (by omega) hy1 (by assumption)] | rw [pStep_b (by omega) hy1 (by assumption)]); first | exact pSay_ne (by assumption) | exact pSay_if (by assumption)); rw [q1_] at q0_; exact q0_.2)⟩ (by (try dsimp only); omega)
        ·
          refine tc_skip ?_
          refine tq_then ?_
          refine tc_region ?_
          refine runL_bn [0,0] [(68, Sl ao xo.length co), (69, Sr ((treeLeaf ([])).1))] ?_
          refine runL_bsl 70 1 #[Sr ((treeLeaf ([])).1)] 9 (fun b7 => ?_)
          refine runL_app1' (b := b7) (cs := [Sr ((treeLeaf ([])).1)]) 71 9 1 0 (E := ES) ((treeLeaf ([])).1) hro ⟨rfl, (Nat.le_trans (treeLeaf_len _) (by decide))⟩ (by have q_ := proofRight_iff.1 (by assumption); have q1_ := way_16 q_.name; have q2_ := q_.sides; have q3_ := congrArg List.length hxo; have q4_ := pOut_len (way p.name) p.sides 0 (treeLeaf p.entries).1; rw [List.length_take] at q3_; (try simp only [ES, List.length_append, List.length_cons, List.length_nil] at *); omega) (by have q_ := proofRight_iff.1 (by assumption); have q1_ := way_16 q_.name; have q2_ := q_.sides; have q3_ := congrArg List.length hxo; have q4_ := pOut_len (way p.name) p.sides 0 (treeLeaf p.entries).1; rw [List.length_take] at q3_; (try simp only [ES, List.length_append, List.length_cons, List.length_nil] at *); omega) (fun a6 c6 r4 hr4 => ?_)
          refine runL_bn [0] [(9, Sl a6 ((xo ++ [(treeLeaf ([])).1]).length) c6)] ?_
          refine runL_nil ?_
          refine tq_block ?_
          refine tq_then ?_
          refine tc_region ?_
          refine runL_bn [0,0] [(38, I (IntKind.i64.wrap (((i : Int)) + 1)))] ?_
          refine runL_wi64 38 (((i : Int)) + 1) (by first | omega | (have q_ := proofRight_iff.1 (by assumption); have q1_ := way_16 q_.name; have q2_ := q_.sides; omega)) ?_
          refine runL_nil ?_
          refine tq_ownsA [r4, [Sg b1 0 [Sr p.name, Sl a1 p.entries.length c1, Sl (At b3 o1) p.sides.length c2]]] ?_
          exact tq_rnd ((i + 1, (treeLeaf ([])).1, a6, c6, r4, xo ++ [(treeLeaf ([])).1], g)) ⟨(Mem.le_trans hle (Mem.le_refl _)), (by omega), (by have q0_ := markSaid_length; first | (rw [q0_]; decide) | exact treeLeaf_len _), hr4, (by (try dsimp only); have q0_ := pOut_next hxo hs_ hx1; have q1_ : pStep (way p.name) i s x1 = (treeLeaf ([])).1 := (by (first | rw [pStep_a (by omega) hy1 (by assumption)] | rw [pStep_b (by omega) hy1 (by assumption)]); first | exact pSay_ne (by assumption) | exact pSay_if (by assumption)); rw [q1_] at q0_; exact q0_.1), (by (try dsimp only); have q0_ := pOut_next hxo hs_ hx1; have q1_ : pStep (way p.name) i s x1 = (treeLeaf ([])).1 := (by (first | rw [pStep_a (by omega) hy1 (by assumption)] | rw [pStep_b (by omega) hy1 (by assumption)]); first | exact pSay_ne (by assumption) | exact pSay_if (by assumption)); rw [q1_] at q0_; exact q0_.2)⟩ (by (try dsimp only); omega)
    ·
      refine tc_exit ?_
      refine tq_then_exit ?_
      refine tq_rnd_exit ?_
      refine tq_block_here ?_
      refine tq_then ?_
      refine tc_rbn [0,0,0] [(2, Sl ao xo.length co), (3, I 0)] ?_
      refine tc_ret ?_
      refine tq_frzR (E := ES) 0 hro (by have q_ := proofRight_iff.1 (by assumption); have q1_ := way_16 q_.name; have q2_ := q_.sides; have q3_ := congrArg List.length hxo; have q4_ := pOut_len (way p.name) p.sides 0 (treeLeaf p.entries).1; rw [List.length_take] at q3_; (try simp only [ES, List.length_append, List.length_cons, List.length_nil] at *); omega) (fun G1 hl1 hs3 => ?_)
      have hf2 : proofSaid p = (xo, 0) := by
        unfold proofSaid; first | (simp_all; done) | (rw [if_neg (by omega), hxo, List.take_of_length_le (by rw [pOut_len]; omega)])
      refine tq_ret [0, 0] [Sl ao xo.length co, I 0] (bp_rowsA [] (Mem.le_trans hle hl1) ?_)
      rw [hf2]
      try dsimp only
      exact ⟨ao, co, rfl, hs3, rfl⟩
end Go.Proofs.YtngoijkcbmchdaaGreatDoor
