import Derived.Test.YtpofnmobbbcpgaaGreatDoorZaTree
namespace Go.Proofs.YtpofnmobbbcpgaaGreatDoor
open Go.Tx
set_option linter.unusedVariables false
set_option linter.unusedSimpArgs false
def entT (x : EntD) : List UInt8 := (wPut [x.name, x.value]).1
def treeSaid (l : List EntD) : List UInt8 := if l.length = 0 then [0] else [1] ++ (l.map entT).flatten
theorem entT_len (x : EntD) : (entT x).length ≤ 600 := wPut_len2 _
theorem ents_len (l : List EntD) : ((l.map entT).flatten).length ≤ 600 * l.length := by
  induction l with
  | nil => simp
  | cons x l ih => simp only [List.map_cons, List.flatten_cons, List.length_append, List.length_cons]; have := entT_len x; omega
theorem treeSaid_len {l : List EntD} (h : l.length ≤ 24) : (treeSaid l).length ≤ 14401 := by
  unfold treeSaid; split
  · simp
  · rw [List.length_append]; have := ents_len l; simp only [List.length_cons, List.length_nil]; omega
theorem ents_take {l : List EntD} {i : Nat} {x : EntD} (h : l[i]? = some x) : ([1] ++ ((l.take i).map entT).flatten) ++ (wPut [x.name, x.value]).1 = [1] ++ ((l.take (i + 1)).map entT).flatten := by rw [List.take_add_one, h]; simp [entT]
theorem treeSaid_con (G : Mem) (a_l : Option Addr) (c_l : Nat) (l : List EntD) (h_l : RS EEnt G a_l c_l l) (h24 : l.length ≤ 24) : ConV 106 #[Sl a_l l.length c_l] G (Sr (treeSaid l)) := by
 refine con_of Tryz.func106 35 [(0, Sl a_l l.length c_l)] rfl (fun w0 G0 => ?_)
 refine tc_rbn [0] [] (tc_seq ?_)
 refine tc_rbn [0,0,0] [(10, Bo (decide ((l.length : Int) = 0)))] ?_
 refine tc_condP (decide ((l.length : Int) = 0)) (fun h1 => ?_) (fun h1 => ?_)
 ·
  refine tc_seq (tc_region ?_)
  refine runL_bsl 11 1 #[Y 0] 5 (fun b1 => ?_)
  refine runL_b2s (b := b1) (off := 0) (len := 1) (cap := 1) (cs := List.map (Value.int .u8) [0]) 12 0 [0] rfl (lit_bytes (ns := [0]) rfl) ?_
  refine runL_bn [0] [(2, Sr (([0] : List Int).map fun n => UInt8.ofNat n.toNat))] (runL_nil (tq_then (tc_ret (tq_then_ret ?_))))
  refine tq_ret [0] [Sr (([0] : List Int).map fun n => UInt8.ofNat n.toNat)] (bp_ret (Mem.le_refl _) (congrArg Sr (?_ : (treeSaid l) = (([0] : List Int).map fun n => UInt8.ofNat n.toNat)).symm))
  unfold treeSaid; first | (rw [if_pos (by omega)]; rfl) | (rw [if_neg (by omega), ho, List.take_of_length_le (by omega)])
 ·
  refine tc_skip (tq_then (tc_seq (tc_region ?_)))
  refine runL_bsl 13 1 #[Y 1] 5 (fun b2 => ?_)
  refine runL_b2s (b := b2) (off := 0) (len := 1) (cap := 1) (cs := List.map (Value.int .u8) [1]) 14 0 [1] rfl (lit_bytes (ns := [1]) rfl) ?_
  refine runL_bn [0] [(3, Sr (([1] : List Int).map fun n => UInt8.ofNat n.toNat))] (runL_nil (tq_then (tc_seq ?_)))
  refine tc_rbn [0,0,0] [(15, Sl a_l l.length c_l), (16, I (l.length : Int)), (17, I 0)] (tc_block ?_)
  have hlm_h_l : l.length ≤ 9223372036854775807 := Nat.le_trans (h_l).le (h_l).max
  refine tc_loop (σ := Nat × List UInt8 × Mem) (fun q_ => (Mem.le G q_.2.2) ∧ (q_.1 ≤ l.length) ∧ (q_.2.1 = [1] ++ ((l.take q_.1).map entT).flatten)) (fun q_ => [(3, Sr q_.2.1), (15, Sl a_l l.length c_l), (16, I (l.length : Int)), (17, I (q_.1 : Int))]) (fun q_ => q_.2.2) (fun q_ => [[Sg b2 0 [Y 1]]]) (fun q_ => l.length - q_.1) (0, ([1] : List Int).map fun n => UInt8.ofNat n.toNat, G) ⟨(Mem.le_refl _), (by (try dsimp only); first | exact Nat.zero_le _ | omega | simp), (by (try dsimp only); simp)⟩ (fun q_ hs => ?_)
  obtain ⟨i, o, g⟩ := q_
  obtain ⟨hle, hi, ho⟩ := hs
  dsimp only at hle hi ho
  refine tc_eq (fr' := [(3, Sr o), (15, Sl a_l l.length c_l), (16, I (l.length : Int)), (17, I (i : Int))]) (L' := [[Sg b2 0 [Y 1]]]) rfl rfl ?_
  refine tc_rbn [0] [(18, Bo (decide ((i : Int) < (l.length : Int))))] (tc_seq ?_)
  refine tc_condP (decide ((i : Int) < (l.length : Int))) (fun h2 => ?_) (fun h2 => ?_)
  ·
   refine tc_skip (tq_then (tc_seq (tc_block (tc_seq (tc_region ?_)))))
   obtain ⟨b3, o1, rfl⟩ := RS.addr (h_l.mono hle) (k := i) (by omega)
   obtain ⟨x1, hx1⟩ := getX (l := l) (k := i) (by omega)
   obtain ⟨_, ⟨rfl, w1, w2⟩, hc1⟩ := RS.get (h_l.mono hle) hx1
   refine runL_idx (b := b3) (off := o1) (len := l.length) (cap := c_l) (ik := .i64) 19 58 2 i (by omega) ?_
   refine runL_ldG 20 58 (cs := [Sr x1.name, Sr x1.value]) 0 (.agg #[Sr x1.name, Sr x1.value]) hc1 ?_
   refine runL_box 5 #[Sr ([]), Sr ([])] 58 (fun b4 => ?_)
   refine runL_bsn [3] [] [[Sg b4 0 [Sr x1.name, Sr x1.value]], [Sg b2 0 [Y 1]]] (runL_nil (tq_then (tc_seq (tc_region ?_))))
   refine runL_bn [0,2,0,2] [(23, Sr x1.name), (25, Sr x1.value)] ?_
   refine runL_bsl 26 2 #[Sr x1.name, Sr x1.value] 9 (fun b5 => ?_)
   refine runL_frz1 (b := b5) (o := 0) (cs := [Sr x1.name, Sr x1.value]) 0 (fun G1 hl1 hz1 => ?_)
   have hs1 : RS ES G1 (At b5 0) 2 [x1.name, x1.value] := RS.lit [[Sr x1.name], [Sr x1.value]] [x1.name, x1.value] ⟨⟨rfl, w1⟩, ⟨⟨rfl, w2⟩, trivial⟩⟩ hz1 (Nat.le_of_ble_eq_true rfl) (Nat.le_of_ble_eq_true rfl)
   refine runL_callV 27 (.tuple #[Sr ((wPut ([x1.name, x1.value])).1), I ((wPut ([x1.name, x1.value])).2)]) (wPut_con G1 (At b5 0) 2 ([x1.name, x1.value]) hs1) ?_
   refine runL_bn [0,0,0,0,0] [(6, Sr ((wPut ([x1.name, x1.value])).1))] (runL_nil (tq_then (tc_region ?_)))
   refine runL_bn [0,0] [(30, Sr o), (31, Sr ((wPut ([x1.name, x1.value])).1))] ?_
   refine runL_cat 32 o ((wPut ([x1.name, x1.value])).1) (by have q_ := congrArg List.length ho; have q1_ := ents_len (l.take i); have q2_ := wPut_len2 [x1.name, x1.value]; rw [List.length_take] at q1_; simp only [List.length_append, List.length_cons, List.length_nil] at q_; omega) ?_
   refine runL_bn [0] [(3, Sr (o ++ ((wPut ([x1.name, x1.value])).1)))] (runL_nil (tq_block (tq_then (tc_region ?_))))
   refine runL_bn [0,0] [(17, I (IntKind.i64.wrap ((i : Int) + 1)))] ?_
   refine runL_wi64 17 ((i : Int) + 1) (by omega) ?_
   refine runL_nil ?_
   refine tq_ownsA [[Sg b2 0 [Y 1]]] ?_
   exact tq_rnd (i + 1, o ++ ((wPut ([x1.name, x1.value])).1), G1) ⟨(Mem.le_trans hle hl1), (by omega), (by (try dsimp only); rw [ho]; exact ents_take hx1)⟩ (by (try dsimp only); omega)
  ·
   refine tc_exit (tq_then_exit (tq_rnd_exit (tq_block_here (tq_then ?_))))
   refine tc_rbn [0,0] [(2, Sr o)] (tc_ret ?_)
   refine tq_ret [0] [Sr o] (bp_ret hle (congrArg Sr (?_ : (treeSaid l) = o).symm))
   unfold treeSaid; first | (rw [if_pos (by omega)]; rfl) | (rw [if_neg (by omega), ho, List.take_of_length_le (by omega)])
end Go.Proofs.YtpofnmobbbcpgaaGreatDoor
