import Derived.Test.YtpofnmobbbcpgaaDoorTree
namespace Go.Proofs.YtpofnmobbbcpgaaDoor
open Go.Tx
set_option linter.unusedVariables false
set_option linter.unusedSimpArgs false

def entT (x : EntD) : List UInt8 := (wPut [x.name, x.value]).1
def treeSaid (l : List EntD) : List UInt8 := if l.length = 0 then [0] else [1] ++ (l.map entT).flatten
theorem entT_len (x : EntD) : (entT x).length ≤ 600 := wPut_len2 _
theorem ents_len (l : List EntD) : ((l.map entT).flatten).length ≤ 600 * l.length := by
  induction l with
  | nil => simp
  | cons x l ih => simp only [List.map_cons, List.flatten_cons, List.length_append, List.length_cons]; have := entT_len x; omega
theorem treeSaid_len {l : List EntD} (h : l.length ≤ 24) : (treeSaid l).length ≤ 14401 := by
  unfold treeSaid; split
  · simp
  · rw [List.length_append]; have := ents_len l; simp only [List.length_cons, List.length_nil]; omega
theorem ents_take {l : List EntD} {i : Nat} {x : EntD} (h : l[i]? = some x) : ([1] ++ ((l.take i).map entT).flatten) ++ (wPut [x.name, x.value]).1 = [1] ++ ((l.take (i + 1)).map entT).flatten := by rw [List.take_add_one, h]; simp [entT]
def entZ : EntD := ⟨[], []⟩
def firstN (l : List EntD) : EntD := l[0]?.getD entZ
def lastN (l : List EntD) : EntD := l[l.length - 1]?.getD entZ
theorem firstN_get {l : List EntD} {x : EntD} (h : l[0]? = some x) : x = firstN l := by unfold firstN; rw [h]; rfl
theorem lastN_get {l : List EntD} {x : EntD} (h : l[l.length - 1]? = some x) : x = lastN l := by unfold lastN; rw [h]; rfl
def treeLeaf (l : List EntD) : List UInt8 × Int := if treeCheck l ≠ 0 then ([], treeCheck l) else if 0 < (l.length : Int) ∧ ¬ way (firstN l).name = way (lastN l).name then ([], 3) else (treeSaid l, 0)
theorem treeLeaf_len (l : List EntD) : (treeLeaf l).1.length ≤ 14401 := by
  unfold treeLeaf; split
  · simp
  split
  · simp
  · rename_i h _; exact treeSaid_len (treeCheck_iff.1 (Decidable.not_not.1 h)).len
theorem treeLeaf_nil : treeLeaf [] = ([0], 0) := by decide +kernel
def pOther (x : EntD) (w : List UInt8) : Bool := !(way x.name == w)
def pGreat (m : Int) : Bool := decide (m ≥ 2305843009213693951)
def proofRight (p : ProofD) : Int := if pathName p.name = false then 3 else if treeCheck p.entries ≠ 0 then treeCheck p.entries else if ((p.entries.any fun x0 => pOther x0 (way p.name)) = true ∨ ¬ (p.sides.length : Int) = 16) ∨ (p.sides.any fun x0 => pGreat x0) = true then 3 else 0
def noneT : List UInt8 := (treeLeaf []).1
def pSay (a b : Int) : List UInt8 := if a = markOf noneT ∧ b = markOf noneT then noneT else markSaid 2 a b
def pStep (w : List UInt8) (i : Nat) (s : List UInt8) (side : Int) : List UInt8 := if w[15 - i]? = some 49 then pSay side (markOf s) else pSay (markOf s) side
def pOut (w : List UInt8) : Nat → List UInt8 → List Int → List (List UInt8)
  | _, s, [] => [s]
  | i, s, q :: qs => s :: pOut w (i + 1) (pStep w i s q) qs
theorem pSay_len (a b : Int) : (pSay a b).length ≤ 17 := by
  unfold pSay; split
  · unfold noneT; rw [treeLeaf_nil]; decide
  · rw [markSaid_length]; exact Nat.le_refl _
theorem pStep_len (w : List UInt8) (i : Nat) (s : List UInt8) (q : Int) : (pStep w i s q).length ≤ 17 := by unfold pStep; split <;> exact pSay_len _ _
theorem pOut_len (w : List UInt8) : ∀ (qs : List Int) (i : Nat) (s : List UInt8), (pOut w i s qs).length = qs.length + 1
  | [], _, _ => rfl
  | q :: qs, i, s => by show (pOut w (i + 1) _ qs).length + 1 = _; rw [pOut_len w qs]; rfl
theorem pOut_0 (w : List UInt8) (qs : List Int) (i : Nat) (s : List UInt8) : (pOut w i s qs)[0]? = some s := by cases qs <;> rfl
theorem pOut_take1 (w : List UInt8) (qs : List Int) (i : Nat) (s : List UInt8) : [s] = (pOut w i s qs).take 1 := by cases qs <;> rfl
theorem pOut_step (w : List UInt8) : ∀ (qs : List Int) (i k : Nat) (s a : List UInt8) (q : Int), (pOut w i s qs)[k]? = some a → qs[k]? = some q → (pOut w i s qs)[k + 1]? = some (pStep w (i + k) a q)
  | [], _, _, _, _, _, _, h => by simp at h
  | q :: qs, i, 0, s, a, q', h1, h2 => by
    have h1 : some s = some a := h1
    have h2 : some q = some q' := h2
    rw [← Option.some.inj h1, ← Option.some.inj h2]
    exact pOut_0 w qs (i + 1) _
  | q :: qs, i, k + 1, s, a, q', h1, h2 => by
    have := pOut_step w qs (i + 1) k (pStep w i s q) a q' h1 h2
    rw [show i + (k + 1) = i + 1 + k by omega]; exact this
theorem pOut_next {w : List UInt8} {qs : List Int} {s0 s : List UInt8} {xo : List (List UInt8)} {i : Nat} {q : Int} (ho : xo = (pOut w 0 s0 qs).take (i + 1)) (hs : (pOut w 0 s0 qs)[i]? = some s) (hq : qs[i]? = some q) : xo ++ [pStep w i s q] = (pOut w 0 s0 qs).take (i + 1 + 1) ∧ (pOut w 0 s0 qs)[i + 1]? = some (pStep w i s q) := by
  have := pOut_step w qs 0 i s0 s q hs hq
  rw [Nat.zero_add] at this
  refine ⟨?_, this⟩
  rw [ho]
  conv => rhs; rw [List.take_add_one, this]
  rfl
def proofSaid (p : ProofD) : List (List UInt8) × Int := if proofRight p ≠ 0 then ([], proofRight p) else (pOut (way p.name) 0 (treeLeaf p.entries).1 p.sides, 0)
theorem way_16 {name : List UInt8} (h : pathName name = true) : (way name).length = 16 := by unfold way pathOf; rw [if_neg (by rw [h]; simp)]; exact pathBits_len name
structure ProofOk (p : ProofD) : Prop where
  name : pathName p.name = true
  ents : TreeOk p.entries
  ways : ∀ x ∈ p.entries, way x.name = way p.name
  sides : p.sides.length = 16
  marks : ∀ m ∈ p.sides, m < 2305843009213693951
theorem proofRight_iff {p : ProofD} : proofRight p = 0 ↔ ProofOk p := by
  unfold proofRight
  constructor
  · intro h
    split at h
    · cases h
    split at h
    · contradiction
    split at h
    · cases h
    · rename_i h1 h2 h3
      refine ⟨by simpa using h1, treeCheck_iff.1 (Decidable.not_not.1 h2), fun x hx => ?_, ?_, fun m hm => ?_⟩
      · apply Classical.byContradiction; intro hc
        exact h3 (.inl (.inl (List.any_eq_true.2 ⟨x, hx, by unfold pOther; simpa using hc⟩)))
      · apply Classical.byContradiction; intro hc
        exact h3 (.inl (.inr (by omega)))
      · apply Classical.byContradiction; intro hc
        exact h3 (.inr (List.any_eq_true.2 ⟨m, hm, by unfold pGreat; simp; omega⟩))
  · rintro ⟨h1, h2, h3, h4, h5⟩
    rw [if_neg (by rw [h1]; simp), if_neg (by have := treeCheck_iff.2 h2; omega), if_neg]
    rintro ((hc | hc) | hc)
    · obtain ⟨x, hx, e⟩ := List.any_eq_true.1 hc
      unfold pOther at e; simp at e
      exact e (h3 x hx)
    · omega
    · obtain ⟨m, hm, e⟩ := List.any_eq_true.1 hc
      have := h5 m hm
      unfold pGreat at e; simp at e; omega
theorem pSay_if {a b : Int} (h : (if b > a then b else a) = markOf (treeLeaf []).1 ∧ a = b) : pSay a b = (treeLeaf []).1 := by
  unfold pSay noneT; obtain ⟨h1, rfl⟩ := h; rw [if_pos]; split at h1 <;> exact ⟨h1, h1⟩
theorem pSay_ne {a b : Int} (h : ¬ (if b > a then b else a) = markOf (treeLeaf []).1 ∨ ¬ a = b) : pSay a b = markSaid 2 a b := by
  unfold pSay noneT; rw [if_neg]; rintro ⟨rfl, h2⟩
  rcases h with h | h
  · exact h (by split <;> omega)
  · exact h h2.symm
theorem pStep_a {w s : List UInt8} {i k : Nat} {q : Int} {y : UInt8} (h : 15 - i = k) (hy : w[k]? = some y) (e : (y.toNat : Int) = 49) : pStep w i s q = pSay q (markOf s) := by
  have : y = 49 := byte_eq.1 e
  unfold pStep; rw [h, hy, this, if_pos rfl]
theorem pStep_b {w s : List UInt8} {i k : Nat} {q : Int} {y : UInt8} (h : 15 - i = k) (hy : w[k]? = some y) (e : ¬ (y.toNat : Int) = 49) : pStep w i s q = pSay (markOf s) q := by
  unfold pStep; rw [h, hy, if_neg]
  intro hc; apply e; rw [Option.some.inj hc]; rfl

theorem treeSaid_con (G : Mem) (a_l : Option Addr) (c_l : Nat) (l : List EntD) (h_l : RS EEnt G a_l c_l l) (h24 : l.length ≤ 24) : ConV 44 #[Sl a_l l.length c_l] G (Sr (treeSaid l)) := by
  refine con_of Tryd.func44 35 [(0, Sl a_l l.length c_l)] rfl (fun w0 G0 => ?_)
  refine tc_rbn [0] [] ?_
  refine tc_seq ?_
  refine tc_rbn [0,0,0] [(10, Bo (decide (((l.length : Nat) : Int) = 0)))] ?_
  refine tc_condP (decide (((l.length : Nat) : Int) = 0)) (fun h1 => ?_) (fun h1 => ?_)
  ·
    refine tc_seq ?_
    refine tc_region ?_
    refine runL_bsl 11 1 #[Y 0] 5 (fun b1 => ?_)
    refine runL_b2s (b := b1) (off := 0) (len := 1) (cap := 1) (cs := List.map (Value.int .u8) [0]) 12 0 [0] rfl (lit_bytes (ns := [0]) rfl) ?_
    refine runL_bn [0] [(2, Sr (([0] : List Int).map fun n => UInt8.ofNat n.toNat))] ?_
    refine runL_nil ?_
    refine tq_then ?_
    refine tc_ret ?_
    refine tq_then_ret ?_
    refine tq_ret [0] [Sr (([0] : List Int).map fun n => UInt8.ofNat n.toNat)] (bp_ret (Mem.le_refl _) (congrArg Sr (?_ : (treeSaid l) = (([0] : List Int).map fun n => UInt8.ofNat n.toNat)).symm))
    unfold treeSaid; first | (rw [if_pos (by omega)]; rfl) | (rw [if_neg (by omega), ho, List.take_of_length_le (by omega)])
  ·
    refine tc_skip ?_
    refine tq_then ?_
    refine tc_seq ?_
    refine tc_region ?_
    refine runL_bsl 13 1 #[Y 1] 5 (fun b2 => ?_)
    refine runL_b2s (b := b2) (off := 0) (len := 1) (cap := 1) (cs := List.map (Value.int .u8) [1]) 14 0 [1] rfl (lit_bytes (ns := [1]) rfl) ?_
    refine runL_bn [0] [(3, Sr (([1] : List Int).map fun n => UInt8.ofNat n.toNat))] ?_
    refine runL_nil ?_
    refine tq_then ?_
    refine tc_seq ?_
    refine tc_rbn [0,0,0] [(15, Sl a_l l.length c_l), (16, I (((l.length : Nat) : Int))), (17, I 0)] ?_
    refine tc_block ?_
    have hlm_h_l : l.length ≤ 9223372036854775807 := Nat.le_trans (h_l).le (h_l).max
    refine tc_loop (σ := Nat × List UInt8 × Mem) (fun q_ => (Mem.le G q_.2.2) ∧ (q_.1 ≤ l.length) ∧ (q_.2.1 = [1] ++ ((l.take q_.1).map entT).flatten)) (fun q_ => [(3, Sr q_.2.1), (15, Sl a_l l.length c_l), (16, I (((l.length : Nat) : Int))), (17, I ((q_.1 : Int)))]) (fun q_ => q_.2.2) (fun q_ => [[Sg b2 0 [Y 1]]]) (fun q_ => l.length - q_.1) ((0, ([1] : List Int).map fun n => UInt8.ofNat n.toNat, G)) ⟨(Mem.le_refl _), (by (try dsimp only); first | exact Nat.zero_le _ | omega | simp), (by (try dsimp only); simp)⟩ (fun q_ hs => ?_)
    obtain ⟨i, o, g⟩ := q_
    obtain ⟨hle, hi, ho⟩ := hs
    dsimp only at hle hi ho
    refine tc_eq (fr' := [(3, Sr o), (15, Sl a_l l.length c_l), (16, I (((l.length : Nat) : Int))), (17, I ((i : Int)))]) (L' := [[Sg b2 0 [Y 1]]]) rfl rfl ?_
    refine tc_rbn [0] [(18, Bo (decide ((i : Int) < ((l.length : Nat) : Int))))] ?_
    refine tc_seq ?_
    refine tc_condP (decide ((i : Int) < ((l.length : Nat) : Int))) (fun h2 => ?_) (fun h2 => ?_)
    ·
      refine tc_skip ?_
      refine tq_then ?_
      refine tc_seq ?_
      refine tc_block ?_
      refine tc_seq ?_
      refine tc_region ?_
      obtain ⟨b3, o1, rfl⟩ := RS.addr (h_l.mono hle) (k := i) (by omega)
      obtain ⟨x1, hx1⟩ := getX (l := l) (k := i) (by omega)
      obtain ⟨_, ⟨rfl, w1, w2⟩, hc1⟩ := RS.get (h_l.mono hle) hx1
      refine runL_idx (b := b3) (off := o1) (len := l.length) (cap := c_l) (ik := .i64) 19 26 2 i (by omega) ?_
      refine runL_ldG 20 26 (cs := [Sr x1.name, Sr x1.value]) 0 (.agg #[Sr x1.name, Sr x1.value]) hc1 ?_
      refine runL_box 5 #[Sr ([]), Sr ([])] 26 (fun b4 => ?_)
      refine runL_bsn [3] [] [[Sg b4 0 [Sr x1.name, Sr x1.value]], [Sg b2 0 [Y 1]]] ?_
      refine runL_nil ?_
      refine tq_then ?_
      refine tc_seq ?_
      refine tc_region ?_
      refine runL_bn [0,2,0,2] [(23, Sr x1.name), (25, Sr x1.value)] ?_
      refine runL_bsl 26 2 #[Sr x1.name, Sr x1.value] 9 (fun b5 => ?_)
      refine runL_frz1 (b := b5) (o := 0) (cs := [Sr x1.name, Sr x1.value]) 0 (fun G1 hl1 hz1 => ?_)
      have hs1 : RS ES G1 (At b5 0) 2 [x1.name, x1.value] := RS.lit [[Sr x1.name], [Sr x1.value]] [x1.name, x1.value] ⟨⟨rfl, w1⟩, ⟨⟨rfl, w2⟩, trivial⟩⟩ hz1 (Nat.le_of_ble_eq_true rfl) (Nat.le_of_ble_eq_true rfl)
      refine runL_callV 27 (.tuple #[Sr ((wPut ([x1.name, x1.value])).1), I ((wPut ([x1.name, x1.value])).2)]) (wPut_con G1 (At b5 0) 2 ([x1.name, x1.value]) hs1) ?_
      refine runL_bn [0,0,0,0,0] [(6, Sr ((wPut ([x1.name, x1.value])).1))] ?_
      refine runL_nil ?_
      refine tq_then ?_
      refine tc_region ?_
      refine runL_bn [0,0] [(30, Sr o), (31, Sr ((wPut ([x1.name, x1.value])).1))] ?_
      refine runL_cat 32 o ((wPut ([x1.name, x1.value])).1) (by have q_ := congrArg List.length ho; have q1_ := ents_len (l.take i); have q2_ := wPut_len2 [x1.name, x1.value]; rw [List.length_take] at q1_; simp only [List.length_append, List.length_cons, List.length_nil] at q_; omega) ?_
      refine runL_bn [0] [(3, Sr (o ++ ((wPut ([x1.name, x1.value])).1)))] ?_
      refine runL_nil ?_
      refine tq_block ?_
      refine tq_then ?_
      refine tc_region ?_
      refine runL_bn [0,0] [(17, I (IntKind.i64.wrap (((i : Int)) + 1)))] ?_
      refine runL_wi64 17 (((i : Int)) + 1) (by omega) ?_
      refine runL_nil ?_
      refine tq_ownsA [[Sg b2 0 [Y 1]]] ?_
      exact tq_rnd ((i + 1, o ++ ((wPut ([x1.name, x1.value])).1), G1)) ⟨(Mem.le_trans hle hl1), (by omega), (by (try dsimp only); rw [ho]; exact ents_take hx1)⟩ (by (try dsimp only); omega)
    ·
      refine tc_exit ?_
      refine tq_then_exit ?_
      refine tq_rnd_exit ?_
      refine tq_block_here ?_
      refine tq_then ?_
      refine tc_rbn [0,0] [(2, Sr o)] ?_
      refine tc_ret ?_
      refine tq_ret [0] [Sr o] (bp_ret hle (congrArg Sr (?_ : (treeSaid l) = o).symm))
      unfold treeSaid; first | (rw [if_pos (by omega)]; rfl) | (rw [if_neg (by omega), ho, List.take_of_length_le (by omega)])

theorem pway_con (G : Mem) (name : List UInt8) (hw_name : (name).length ≤ 140737488351232)  : ConV 17 #[Sr name] G (Sr (way name)) := by
  refine con_of Tryd.func17 11 [(0, Sr name)] rfl (fun w0 G0 => ?_)
  refine tc_rbn [0] [] ?_
  refine tc_seq ?_
  refine tc_region ?_
  refine runL_bn [0] [(6, Sr name)] ?_
  refine runL_callV 7 (.tuple #[Sr ((pathOf name).1), I ((pathOf name).2)]) (pathOf_con G name hw_name) ?_
  refine runL_bn [0,0,0,0,0] [(3, Sr ((pathOf name).1))] ?_
  refine runL_nil ?_
  refine tq_then ?_
  refine tc_rbn [0,0] [(2, Sr ((pathOf name).1))] ?_
  refine tc_ret ?_
  refine tq_ret [0] [Sr ((pathOf name).1)] (bp_ret (Mem.le_refl _) (congrArg Sr (?_ : (way name) = ((pathOf name).1)).symm))
  rfl
end Go.Proofs.YtpofnmobbbcpgaaDoor
