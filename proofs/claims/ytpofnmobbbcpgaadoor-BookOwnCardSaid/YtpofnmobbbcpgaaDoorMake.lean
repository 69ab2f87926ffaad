import Derived.Test.YtpofnmobbbcpgaaDoorTurns
namespace Go.Proofs.YtpofnmobbbcpgaaDoor
open Go.Tx
set_option linter.unusedVariables false
set_option linter.unusedSimpArgs false

def flipB (b : UInt8) : UInt8 := UInt8.ofNat (97 - (b.toNat : Int)).toNat
theorem encode_flip {b : UInt8} (h : 48 ≤ b.toNat ∧ b.toNat ≤ 49) : Utf8.encode (97 - (b.toNat : Int)) = B [flipB b] := encode_ascii (by omega) (by omega)
def sideAt (l : List EntD) (p : List UInt8) (k : Nat) : Int := (treeAtE l (p.take k ++ [flipB (p[k]?.getD 48)])).1
def sidesN (l : List EntD) (p : List UInt8) (n : Nat) : List Int := (List.range n).map fun i => sideAt l p (15 - i)
theorem sidesN_len (l : List EntD) (p : List UInt8) (n : Nat) : (sidesN l p n).length = n := by unfold sidesN; simp
theorem sidesN_next {l : List EntD} {p : List UInt8} {k : Nat} {y : UInt8} (hy : p[k]? = some y) (hk : k ≤ 15) : sidesN l p (15 - k) ++ [(treeAtE l (p.take k ++ [flipB y])).1] = sidesN l p (15 - k + 1) := by
  unfold sidesN
  rw [List.range_succ, List.map_append]
  congr 1
  simp only [List.map_cons, List.map_nil]
  unfold sideAt
  rw [show 15 - (15 - k) = k by omega, hy]; rfl
def proofZ : ProofD := ⟨[], [], []⟩
def ownE (l : List EntD) (p : List UInt8) : List EntD := l.filter fun x => way x.name == p
theorem ownE_snoc {l : List EntD} {i : Nat} {x : EntD} {p : List UInt8} (h : l[i]? = some x) (hp : (way x.name == p) = true) : ownE (l.take i) p ++ [x] = ownE (l.take (i + 1)) p := by unfold ownE; rw [List.take_add_one, h]; simp [hp]
theorem ownE_skip {l : List EntD} {i : Nat} {x : EntD} {p : List UInt8} (h : l[i]? = some x) (hp : ¬ (way x.name == p) = true) : ownE (l.take i) p = ownE (l.take (i + 1)) p := by unfold ownE; rw [List.take_add_one, h]; simp [hp]
theorem ownE_le (l : List EntD) (p : List UInt8) : (ownE l p).length ≤ l.length := List.length_filter_le ..
def proofMake (l : List EntD) (name : List UInt8) : ProofD × Int := if ¬ treeCheck l = 0 then (proofZ, treeCheck l) else if ¬ (pathOf name).2 = 0 then (proofZ, (pathOf name).2) else (⟨name, ownE l (pathOf name).1, sidesN l (pathOf name).1 16⟩, 0)

theorem proofMake_con (G : Mem) (a_l : Option Addr) (c_l : Nat) (l : List EntD) (h_l : RS EEnt G a_l c_l l) (name : List UInt8) (hw_name : (name).length ≤ 140737488351232)  : ConP 9 #[Sl a_l l.length c_l, Sr name] G [] (fun u G' L' => ∃ (a1 : Option Addr) (c2 : Nat) (a3 : Option Addr) (c4 : Nat), u = .tuple #[.agg #[Sr (((proofMake l name).1).name), Sl a1 ((((proofMake l name).1).entries).length) c2, Sl a3 ((((proofMake l name).1).sides).length) c4], I ((proofMake l name).2)] ∧ ((((proofMake l name).1).name).length ≤ 140737488351232) ∧ (RS EEnt G' a1 c2 (((proofMake l name).1).entries)) ∧ (RS EU G' a3 c4 (((proofMake l name).1).sides)) ∧ L' = []) := by
  refine con_of Tryd.func9 78 [(0, Sl a_l l.length c_l), (1, Sr name)] rfl (fun w0 G0 => ?_)
  refine tc_seq ?_
  refine tc_region ?_
  refine runL_box 4 #[Sr ([]), Sl none 0 0, Sl none 0 0] 34 (fun b1 => ?_)
  refine runL_bn [0] [] ?_
  refine runL_nil ?_
  refine tq_then ?_
  refine tc_seq ?_
  refine tc_seq ?_
  refine tc_region ?_
  refine runL_bn [0] [(16, Sl a_l l.length c_l)] ?_
  refine runL_callV 17 (I (treeCheck l)) (treeCheck_con G a_l c_l l h_l) ?_
  refine runL_bn [0] [(6, I (treeCheck l))] ?_
  refine runL_nil ?_
  refine tq_then ?_
  refine tc_rbn [0,0] [(19, Bo (!decide (treeCheck l = 0)))] ?_
  refine tc_condP (!decide (treeCheck l = 0)) (fun h1 => ?_) (fun h1 => ?_)
  ·
    refine tc_rbn [0,0,3,0] [(5, I (treeCheck l))] ?_
    refine tc_ret ?_
    refine tq_then_ret ?_
    have hf1 : proofMake l name = ((⟨[], [], []⟩ : ProofD), treeCheck l) := by
      unfold proofMake proofZ; first | (rw [if_pos (by assumption)]; done) | (rw [if_neg (by omega)]; first | (rw [if_pos (by assumption)]; done) | (rw [if_neg (by omega), hxo, hxm, show (15 - k).toNat = 16 by omega]; done))
    refine tq_ret [0, 0] [.agg #[Sr ([]), Sl none 0 0, Sl none 0 0], I (treeCheck l)] (bp_rowsA [] (Mem.le_refl _) ?_)
    rw [hf1]
    try dsimp only
    exact ⟨none, 0, none, 0, rfl, (Nat.le_of_ble_eq_true rfl), (RS.nil' EEnt G), (RS.nil' EU G), rfl⟩
  ·
    refine tc_skip ?_
    refine tq_then ?_
    refine tc_seq ?_
    refine tc_region ?_
    refine runL_bn [0] [(23, Sr name)] ?_
    refine runL_callV 24 (.tuple #[Sr ((pathOf name).1), I ((pathOf name).2)]) (pathOf_con G name hw_name) ?_
    refine runL_bn [0,0,0,0,0] [(7, Sr ((pathOf name).1)), (8, I ((pathOf name).2))] ?_
    refine runL_nil ?_
    refine tq_then ?_
    refine tc_seq ?_
    refine tc_rbn [0,0] [(28, Bo (!decide ((pathOf name).2 = 0)))] ?_
    refine tc_condP (!decide ((pathOf name).2 = 0)) (fun h2 => ?_) (fun h2 => ?_)
    ·
      refine tc_rbn [0,0,3,0] [(5, I ((pathOf name).2))] ?_
      refine tc_ret ?_
      refine tq_then_ret ?_
      have hf2 : proofMake l name = ((⟨[], [], []⟩ : ProofD), (pathOf name).2) := by
        unfold proofMake proofZ; first | (rw [if_pos (by assumption)]; done) | (rw [if_neg (by omega)]; first | (rw [if_pos (by assumption)]; done) | (rw [if_neg (by omega), hxo, hxm, show (15 - k).toNat = 16 by omega]; done))
      refine tq_ret [0, 0] [.agg #[Sr ([]), Sl none 0 0, Sl none 0 0], I ((pathOf name).2)] (bp_rowsA [] (Mem.le_refl _) ?_)
      rw [hf2]
      try dsimp only
      exact ⟨none, 0, none, 0, rfl, (Nat.le_of_ble_eq_true rfl), (RS.nil' EEnt G), (RS.nil' EU G), rfl⟩
    ·
      refine tc_skip ?_
      refine tq_then ?_
      refine tc_seq ?_
      refine tc_region ?_
      refine runL_bn [0,0] [(32, .agg #[Sr name, Sl none 0 0, Sl none 0 0])] ?_
      refine runL_box 9 #[Sr ([]), Sl none 0 0, Sl none 0 0] 34 (fun b2 => ?_)
      refine runL_bsn [3] [] [[Sg b2 0 [Sr name, Sl none 0 0, Sl none 0 0]], [Sg b1 0 [Sr ([]), Sl none 0 0, Sl none 0 0]]] ?_
      refine runL_nil ?_
      refine tq_then ?_
      refine tc_seq ?_
      refine tc_rbn [0,0,0] [(33, Sl a_l l.length c_l), (34, I (((l.length : Nat) : Int))), (35, I 0)] ?_
      refine tc_block ?_
      refine tc_empty ?_
      have hlm_h_l : l.length ≤ 9223372036854775807 := Nat.le_trans (h_l).le (h_l).max
      refine tc_loop (σ := Nat × Option Addr × Nat × List Seg × List EntD × Mem) (fun q_ => (Mem.le G q_.2.2.2.2.2) ∧ (q_.1 ≤ l.length) ∧ (TRow EEnt q_.2.2.2.2.2 q_.2.1 q_.2.2.1 q_.2.2.2.2.1 q_.2.2.2.1) ∧ (q_.2.2.2.2.1 = ownE (l.take q_.1) (pathOf name).1)) (fun q_ => [(0, Sl a_l l.length c_l), (4, Pt b1 0), (7, Sr ((pathOf name).1)), (9, Pt b2 0), (33, Sl a_l l.length c_l), (34, I (((l.length : Nat) : Int))), (35, I ((q_.1 : Int)))]) (fun q_ => q_.2.2.2.2.2) (fun q_ => [q_.2.2.2.1, [Sg b2 0 [Sr name, Sl q_.2.1 q_.2.2.2.2.1.length q_.2.2.1, Sl none 0 0]], [Sg b1 0 [Sr ([]), Sl none 0 0, Sl none 0 0]]]) (fun q_ => l.length - q_.1) ((0, none, 0, [], [], G)) ⟨(Mem.le_refl _), (by (try dsimp only); first | exact Nat.zero_le _ | omega | simp), (TRow.none EEnt _), (by (try dsimp only); simp [ownE])⟩ (fun q_ hs => ?_)
      obtain ⟨i, ao, co, ro, xo, g⟩ := q_
      obtain ⟨hle, hi, hro, hxo⟩ := hs
      dsimp only at hle hi hro hxo
      refine tc_eq (fr' := [(0, Sl a_l l.length c_l), (4, Pt b1 0), (7, Sr ((pathOf name).1)), (9, Pt b2 0), (33, Sl a_l l.length c_l), (34, I (((l.length : Nat) : Int))), (35, I ((i : Int)))]) (L' := [ro, [Sg b2 0 [Sr name, Sl ao xo.length co, Sl none 0 0]], [Sg b1 0 [Sr ([]), Sl none 0 0, Sl none 0 0]]]) rfl rfl ?_
      refine tc_rbn [0] [(36, Bo (decide ((i : Int) < ((l.length : Nat) : Int))))] ?_
      refine tc_seq ?_
      refine tc_condP (decide ((i : Int) < ((l.length : Nat) : Int))) (fun h3 => ?_) (fun h3 => ?_)
      ·
        refine tc_skip ?_
        refine tq_then ?_
        refine tc_seq ?_
        refine tc_block ?_
        refine tc_seq ?_
        refine tc_region ?_
        obtain ⟨b3, o1, rfl⟩ := RS.addr (h_l.mono hle) (k := i) (by first | omega | (have q_ := pathOf_ok (a := name) (by assumption); have q1_ := congrArg List.length q_; rw [pathBits_len] at q1_; omega) | (have q_ := (treeCheck_iff.1 (by assumption)).len; omega))
        obtain ⟨x1, hx1⟩ := getX (l := l) (k := i) (by first | omega | (have q_ := pathOf_ok (a := name) (by assumption); have q1_ := congrArg List.length q_; rw [pathBits_len] at q1_; omega) | (have q_ := (treeCheck_iff.1 (by assumption)).len; omega))
        obtain ⟨_, ⟨rfl, w1, w2⟩, hc1⟩ := RS.get (h_l.mono hle) hx1
        refine runL_idx (b := b3) (off := o1) (len := l.length) (cap := c_l) (ik := .i64) 37 26 2 i (by first | omega | (have q_ := pathOf_ok (a := name) (by assumption); have q1_ := congrArg List.length q_; rw [pathBits_len] at q1_; omega) | (have q_ := (treeCheck_iff.1 (by assumption)).len; omega)) ?_
        refine runL_ldG 38 26 (cs := [Sr x1.name, Sr x1.value]) 0 (.agg #[Sr x1.name, Sr x1.value]) hc1 ?_
        refine runL_box 11 #[Sr ([]), Sr ([])] 26 (fun b4 => ?_)
        refine runL_bsn [3] [] [[Sg b4 0 [Sr x1.name, Sr x1.value]], ro, [Sg b2 0 [Sr name, Sl ao xo.length co, Sl none 0 0]], [Sg b1 0 [Sr ([]), Sl none 0 0, Sl none 0 0]]] ?_
        refine runL_nil ?_
        refine tq_then ?_
        refine tc_seq ?_
        refine tc_region ?_
        refine runL_bn [0,2] [(40, Sr x1.name)] ?_
        refine runL_callV 41 (Sr (way x1.name)) (pway_con g x1.name w1) ?_
        refine runL_bn [0,0] [(43, Bo (((B (way x1.name)).toList == (B ((pathOf name).1)).toList)))] ?_
        refine runL_put 43 (Bo ((way x1.name == (pathOf name).1))) ((show (Bo (((B (way x1.name)).toList == (B ((pathOf name).1)).toList)) : Value) = Bo ((way x1.name == (pathOf name).1)) by simp only [B_toList])) ?_
        refine runL_nil ?_
        refine tq_then ?_
        refine tc_condP ((way x1.name == (pathOf name).1)) (fun h4 => ?_) (fun h4 => ?_)
        ·
          refine tc_region ?_
          refine runL_bn [0,6,2] [(45, Sl ao xo.length co), (46, .agg #[Sr x1.name, Sr x1.value])] ?_
          refine runL_bsl 47 1 #[Sr x1.name, Sr x1.value] 26 (fun b5 => ?_)
          refine runL_app1' (b := b5) (cs := [Sr x1.name, Sr x1.value]) 48 26 2 0 (E := EEnt) x1 hro ⟨rfl, (by first | assumption | omega | (simp; done) | (simp; omega)), (by first | assumption | omega | (simp; done) | (simp; omega))⟩ (by have q_ := (treeCheck_iff.1 (by assumption)).len; first | (have q2_ := ownE_le (l.take i) (pathOf name).1; have q3_ := congrArg List.length hxo; rw [List.length_take] at q2_; (try simp only [EEnt, EU, List.length_append, List.length_cons, List.length_nil] at *); omega) | (have q3_ := congrArg List.length hxm; rw [sidesN_len] at q3_; (try simp only [EEnt, EU, List.length_append, List.length_cons, List.length_nil] at *); omega) | (have q3_ := congrArg List.length hxo; have q2_ := ownE_le l (pathOf name).1; (try simp only [EEnt, EU, List.length_append, List.length_cons, List.length_nil] at *); omega)) (by have q_ := (treeCheck_iff.1 (by assumption)).len; first | (have q2_ := ownE_le (l.take i) (pathOf name).1; have q3_ := congrArg List.length hxo; rw [List.length_take] at q2_; (try simp only [EEnt, EU, List.length_append, List.length_cons, List.length_nil] at *); omega) | (have q3_ := congrArg List.length hxm; rw [sidesN_len] at q3_; (try simp only [EEnt, EU, List.length_append, List.length_cons, List.length_nil] at *); omega) | (have q3_ := congrArg List.length hxo; have q2_ := ownE_le l (pathOf name).1; (try simp only [EEnt, EU, List.length_append, List.length_cons, List.length_nil] at *); omega)) (fun a1 c1 r1 hr1 => ?_)
          refine runL_bsn [0,9] [] [[Sg b5 0 [Sr x1.name, Sr x1.value]], [Sg b4 0 [Sr x1.name, Sr x1.value]], r1, [Sg b2 0 [Sr name, Sl a1 ((xo ++ [x1]).length) c1, Sl none 0 0]], [Sg b1 0 [Sr ([]), Sl none 0 0, Sl none 0 0]]] ?_
          refine runL_nil ?_
          refine tq_block ?_
          refine tq_then ?_
          refine tc_region ?_
          refine runL_bn [0,0] [(35, I (IntKind.i64.wrap (((i : Int)) + 1)))] ?_
          refine runL_wi64 35 (((i : Int)) + 1) (by first | omega | (have q_ := pathOf_ok (a := name) (by assumption); have q1_ := congrArg List.length q_; rw [pathBits_len] at q1_; omega) | (have q_ := (treeCheck_iff.1 (by assumption)).len; omega)) ?_
          refine runL_nil ?_
          refine tq_ownsA [r1, [Sg b2 0 [Sr name, Sl a1 ((xo ++ [x1]).length) c1, Sl none 0 0]], [Sg b1 0 [Sr ([]), Sl none 0 0, Sl none 0 0]]] ?_
          exact tq_rnd ((i + 1, a1, c1, r1, xo ++ [x1], g)) ⟨(Mem.le_trans hle (Mem.le_refl _)), (by omega), hr1, (by (try dsimp only); rw [hxo]; first | exact ownE_snoc hx1 (by simp_all) | exact ownE_skip hx1 (by simp_all))⟩ (by (try dsimp only); omega)
        ·
          refine tc_skip ?_
          refine tq_block ?_
          refine tq_then ?_
          refine tc_region ?_
          refine runL_bn [0,0] [(35, I (IntKind.i64.wrap (((i : Int)) + 1)))] ?_
          refine runL_wi64 35 (((i : Int)) + 1) (by first | omega | (have q_ := pathOf_ok (a := name) (by assumption); have q1_ := congrArg List.length q_; rw [pathBits_len] at q1_; omega) | (have q_ := (treeCheck_iff.1 (by assumption)).len; omega)) ?_
          refine runL_nil ?_
          refine tq_ownsA [ro, [Sg b2 0 [Sr name, Sl ao xo.length co, Sl none 0 0]], [Sg b1 0 [Sr ([]), Sl none 0 0, Sl none 0 0]]] ?_
          exact tq_rnd ((i + 1, ao, co, ro, xo, g)) ⟨(Mem.le_trans hle (Mem.le_refl _)), (by omega), hro, (by (try dsimp only); rw [hxo]; first | exact ownE_snoc hx1 (by simp_all) | exact ownE_skip hx1 (by simp_all))⟩ (by (try dsimp only); omega)
      ·
        refine tc_exit ?_
        refine tq_then_exit ?_
        refine tq_rnd_exit ?_
        refine tq_block_here ?_
        refine tq_then ?_
        refine tc_seq ?_
        refine tc_rbn [0] [(12, I 15)] ?_
        refine tc_block ?_
        refine tc_empty ?_
        have hlm_h_l : l.length ≤ 9223372036854775807 := Nat.le_trans (h_l).le (h_l).max
        refine tc_loop (σ := Int × Option Addr × Nat × List Seg × List EntD × Option Addr × Nat × List Seg × List Int × Mem) (fun q_ => (Mem.le g q_.2.2.2.2.2.2.2.2.2) ∧ (-1 ≤ q_.1 ∧ q_.1 ≤ 15) ∧ (TRow EEnt q_.2.2.2.2.2.2.2.2.2 q_.2.1 q_.2.2.1 q_.2.2.2.2.1 q_.2.2.2.1) ∧ (q_.2.2.2.2.1 = ownE l (pathOf name).1) ∧ (TRow EU q_.2.2.2.2.2.2.2.2.2 q_.2.2.2.2.2.1 q_.2.2.2.2.2.2.1 q_.2.2.2.2.2.2.2.2.1 q_.2.2.2.2.2.2.2.1) ∧ (q_.2.2.2.2.2.2.2.2.1 = sidesN l (pathOf name).1 (15 - q_.1).toNat)) (fun q_ => [(0, Sl a_l l.length c_l), (4, Pt b1 0), (7, Sr ((pathOf name).1)), (9, Pt b2 0), (12, I q_.1)]) (fun q_ => q_.2.2.2.2.2.2.2.2.2) (fun q_ => [q_.2.2.2.2.2.2.2.1, q_.2.2.2.1, [Sg b2 0 [Sr name, Sl q_.2.1 q_.2.2.2.2.1.length q_.2.2.1, Sl q_.2.2.2.2.2.1 q_.2.2.2.2.2.2.2.2.1.length q_.2.2.2.2.2.2.1]], [Sg b1 0 [Sr ([]), Sl none 0 0, Sl none 0 0]]]) (fun q_ => (q_.1 + 1).toNat) ((15, ao, co, ro, xo, none, 0, [], [], g)) ⟨(Mem.le_refl _), (by (try dsimp only); omega), hro, (by (try dsimp only); rw [hxo, List.take_of_length_le (by omega)]), (TRow.none EU _), rfl⟩ (fun q_ hs => ?_)
        obtain ⟨k, ao, co, ro, xo, am, cm, rm, xm, g1_⟩ := q_
        obtain ⟨hle1_, hk, hro, hxo, hrm, hxm⟩ := hs
        dsimp only at hle1_ hk hro hxo hrm hxm
        refine tc_eq (fr' := [(0, Sl a_l l.length c_l), (4, Pt b1 0), (7, Sr ((pathOf name).1)), (9, Pt b2 0), (12, I k)]) (L' := [rm, ro, [Sg b2 0 [Sr name, Sl ao xo.length co, Sl am xm.length cm]], [Sg b1 0 [Sr ([]), Sl none 0 0, Sl none 0 0]]]) rfl rfl ?_
        refine tc_seq ?_
        refine tc_rbn [0,0] [(52, Bo (decide (k ≥ 0)))] ?_
        refine tc_condP (decide (k ≥ 0)) (fun h5 => ?_) (fun h5 => ?_)
        ·
          refine tc_skip ?_
          refine tq_then ?_
          refine tc_seq ?_
          refine tc_block ?_
          obtain ⟨kn1, hkn1⟩ : ∃ k_ : Nat, k = (k_ : Int) := ⟨(k).toNat, by first | omega | (have q_ := pathOf_ok (a := name) (by assumption); have q1_ := congrArg List.length q_; rw [pathBits_len] at q1_; omega) | (have q_ := (treeCheck_iff.1 (by assumption)).len; omega)⟩
          have e1 : k = (kn1 : Int) := hkn1
          refine tc_put 12 (I ((kn1 : Int))) (congrArg I e1) ?_
          refine tc_seq ?_
          obtain ⟨y1, hy1⟩ := getX (l := (pathOf name).1) (k := kn1) (by first | omega | (have q_ := pathOf_ok (a := name) (by assumption); have q1_ := congrArg List.length q_; rw [pathBits_len] at q1_; omega) | (have q_ := (treeCheck_iff.1 (by assumption)).len; omega))
          have hb_y1 := y1.toNat_lt
          have e2 : IntKind.i32.wrap ((y1.toNat : Int)) = (y1.toNat : Int) := by (rw [IntKind.wrap_i32]; omega)
          have e3 : IntKind.i32.wrap (97 - ((y1.toNat : Int))) = 97 - (y1.toNat : Int) := by (rw [IntKind.wrap_i32]; omega)
          refine tc_draw [] ?_
          refine dr_V [(0, Sr ((pathOf name).1)), (1, I ((kn1 : Int))), (2, Sr (((pathOf name).1).take kn1)), (3, Sr ((pathOf name).1)), (4, I ((kn1 : Int))), (5, Y ((y1.toNat : Int))), (6, .int .i32 ((y1.toNat : Int))), (7, .int .i32 (97 - (y1.toNat : Int))), (8, Sr ([flipB y1])), (9, Sr ((((pathOf name).1).take kn1) ++ ([flipB y1]))), (10, Sr ((((pathOf name).1).take kn1) ++ ([flipB y1])))] ?_
          refine dr_end [] [(0,0), (1,0), (3,0), (4,0), (10,0)] [2, 5, 6, 7, 8, 9] [(0, Sl a_l l.length c_l), (4, Pt b1 0), (7, Sr ((pathOf name).1)), (9, Pt b2 0), (12, I ((kn1 : Int))), (13, Sr ((((pathOf name).1).take kn1) ++ ([flipB y1])))] (fmc ?_ (fmc ?_ (fmc ?_ (fmc ?_ (fmc ?_ (fmc ?_ fm0)))))) ?_
          · refine stab_of 2 57 (Sr (((pathOf name).1).take kn1)) [(55, Sr ((pathOf name).1)), (56, I ((kn1 : Int)))] (fun X => ?_)
            exact runL_sslT (l := (pathOf name).1) 57 none (some (I ((kn1 : Int)))) 0 kn1 (.inl ⟨rfl, rfl⟩) (.inr ⟨_, rfl⟩) (Nat.zero_le _) (by first | omega | (have q_ := pathOf_ok (a := name) (by assumption); have q1_ := congrArg List.length q_; rw [pathBits_len] at q1_; omega) | (have q_ := (treeCheck_iff.1 (by assumption)).len; omega)) stab_end
          · refine stab_of 5 60 (Y ((y1.toNat : Int))) [(58, Sr ((pathOf name).1)), (59, I ((kn1 : Int)))] (fun X => ?_)
            exact runL_sidx (ik := .i64) 60 kn1 y1 hy1 stab_end
          · refine stab_of 6 61 (.int .i32 ((y1.toNat : Int))) [(60, Y ((y1.toNat : Int)))] (fun X => ?_)
            exact runL_p1 61 (.int .i32 (IntKind.i32.wrap ((y1.toNat : Int)))) (.int .i32 ((y1.toNat : Int))) (by simp only [e2]) stab_end
          · refine stab_of 7 62 (.int .i32 (97 - (y1.toNat : Int))) [(61, .int .i32 ((y1.toNat : Int)))] (fun X => ?_)
            exact runL_p1 62 (.int .i32 (IntKind.i32.wrap (97 - ((y1.toNat : Int))))) (.int .i32 (97 - (y1.toNat : Int))) (by simp only [e3]) stab_end
          · refine stab_of 8 63 (Sr ([flipB y1])) [(62, .int .i32 (97 - (y1.toNat : Int)))] (fun X => ?_)
            exact runL_r2s 63 (97 - (y1.toNat : Int)) [flipB y1] (encode_flip (isB_bd (pathBits_B name _ (List.mem_of_getElem? (by rw [← pathOf_ok (by assumption)]; exact hy1))))) stab_end
          · refine stab_of 9 64 (Sr ((((pathOf name).1).take kn1) ++ ([flipB y1]))) [(57, Sr (((pathOf name).1).take kn1)), (63, Sr ([flipB y1]))] (fun X => ?_)
            exact runL_cat 64 (((pathOf name).1).take kn1) ([flipB y1]) (by (try simp only [List.length_append, List.length_take, List.length_cons, List.length_nil]); omega) stab_end
          refine tq_then ?_
          refine tc_seq ?_
          refine tc_region ?_
          refine runL_bn [0,0] [(66, Sl a_l l.length c_l), (67, Sr ((((pathOf name).1).take kn1) ++ ([flipB y1])))] ?_
          refine runL_callV 68 (.tuple #[U ((treeAtE l ((((pathOf name).1).take kn1) ++ ([flipB y1]))).1), I ((treeAtE l ((((pathOf name).1).take kn1) ++ ([flipB y1]))).2)]) (treeAtE_con g1_ a_l c_l l (h_l.mono (Mem.le_trans hle hle1_)) ((((pathOf name).1).take kn1) ++ ([flipB y1])) (by first | assumption | omega | (simp; done) | (simp; omega))) ?_
          refine runL_bn [0,0,0,0,0] [(14, U ((treeAtE l ((((pathOf name).1).take kn1) ++ ([flipB y1]))).1))] ?_
          refine runL_nil ?_
          refine tq_then ?_
          refine tc_region ?_
          refine runL_bn [0,6,0] [(72, Sl am xm.length cm), (73, U ((treeAtE l ((((pathOf name).1).take kn1) ++ ([flipB y1]))).1))] ?_
          refine runL_bsl 74 1 #[U ((treeAtE l ((((pathOf name).1).take kn1) ++ ([flipB y1]))).1)] 49 (fun b6 => ?_)
          refine runL_app1' (b := b6) (cs := [U ((treeAtE l ((((pathOf name).1).take kn1) ++ ([flipB y1]))).1)]) 75 49 1 0 (E := EU) ((treeAtE l ((((pathOf name).1).take kn1) ++ ([flipB y1]))).1) hrm ⟨rfl, (treeAtE_bd _ _)⟩ (by have q_ := (treeCheck_iff.1 (by assumption)).len; first | (have q2_ := ownE_le (l.take i) (pathOf name).1; have q3_ := congrArg List.length hxo; rw [List.length_take] at q2_; (try simp only [EEnt, EU, List.length_append, List.length_cons, List.length_nil] at *); omega) | (have q3_ := congrArg List.length hxm; rw [sidesN_len] at q3_; (try simp only [EEnt, EU, List.length_append, List.length_cons, List.length_nil] at *); omega) | (have q3_ := congrArg List.length hxo; have q2_ := ownE_le l (pathOf name).1; (try simp only [EEnt, EU, List.length_append, List.length_cons, List.length_nil] at *); omega)) (by have q_ := (treeCheck_iff.1 (by assumption)).len; first | (have q2_ := ownE_le (l.take i) (pathOf name).1; have q3_ := congrArg List.length hxo; rw [List.length_take] at q2_; (try simp only [EEnt, EU, List.length_append, List.length_cons, List.length_nil] at *); omega) | (have q3_ := congrArg List.length hxm; rw [sidesN_len] at q3_; (try simp only [EEnt, EU, List.length_append, List.length_cons, List.length_nil] at *); omega) | (have q3_ := congrArg List.length hxo; have q2_ := ownE_le l (pathOf name).1; (try simp only [EEnt, EU, List.length_append, List.length_cons, List.length_nil] at *); omega)) (fun a2 c2 r2 hr2 => ?_)
          refine runL_bsn [0,9] [] [[Sg b6 0 [U ((treeAtE l ((((pathOf name).1).take kn1) ++ ([flipB y1]))).1)]], r2, ro, [Sg b2 0 [Sr name, Sl ao xo.length co, Sl a2 ((xm ++ [(treeAtE l ((((pathOf name).1).take kn1) ++ ([flipB y1]))).1]).length) c2]], [Sg b1 0 [Sr ([]), Sl none 0 0, Sl none 0 0]]] ?_
          refine runL_nil ?_
          refine tq_block ?_
          refine tq_then ?_
          refine tc_region ?_
          refine runL_bn [0,0,0] [(12, I (IntKind.i64.wrap (((kn1 : Int)) - 1)))] ?_
          refine runL_wi64 12 (((kn1 : Int)) - 1) (by first | omega | (have q_ := pathOf_ok (a := name) (by assumption); have q1_ := congrArg List.length q_; rw [pathBits_len] at q1_; omega) | (have q_ := (treeCheck_iff.1 (by assumption)).len; omega)) ?_
          refine runL_nil ?_
          refine tq_ownsA [r2, ro, [Sg b2 0 [Sr name, Sl ao xo.length co, Sl a2 ((xm ++ [(treeAtE l ((((pathOf name).1).take kn1) ++ ([flipB y1]))).1]).length) c2]], [Sg b1 0 [Sr ([]), Sl none 0 0, Sl none 0 0]]] ?_
          exact tq_rnd ((((kn1 : Int)) - 1, ao, co, ro, xo, a2, c2, r2, xm ++ [(treeAtE l ((((pathOf name).1).take kn1) ++ ([flipB y1]))).1], g1_)) ⟨(Mem.le_trans hle1_ (Mem.le_refl _)), (by (try dsimp only); omega), hro, hxo, hr2, (by (try dsimp only); rw [hxm, show (15 - ((kn1 : Int) - 1)).toNat = 15 - kn1 + 1 by omega, show (15 - k).toNat = 15 - kn1 by omega]; exact sidesN_next hy1 (by omega))⟩ (by (try dsimp only); omega)
        ·
          refine tc_exit ?_
          refine tq_then_exit ?_
          refine tq_rnd_exit ?_
          refine tq_block_here ?_
          refine tq_then ?_
          refine tc_rbsn [6,9,0] [(5, I 0)] [rm, ro, [Sg b2 0 [Sr name, Sl ao xo.length co, Sl am xm.length cm]], [Sg b1 0 [Sr name, Sl ao xo.length co, Sl am xm.length cm]]] ?_
          refine tc_ret ?_
          refine tq_frzR (E := EEnt) 1 hro (by have q_ := (treeCheck_iff.1 (by assumption)).len; first | (have q2_ := ownE_le (l.take i) (pathOf name).1; have q3_ := congrArg List.length hxo; rw [List.length_take] at q2_; (try simp only [EEnt, EU, List.length_append, List.length_cons, List.length_nil] at *); omega) | (have q3_ := congrArg List.length hxm; rw [sidesN_len] at q3_; (try simp only [EEnt, EU, List.length_append, List.length_cons, List.length_nil] at *); omega) | (have q3_ := congrArg List.length hxo; have q2_ := ownE_le l (pathOf name).1; (try simp only [EEnt, EU, List.length_append, List.length_cons, List.length_nil] at *); omega)) (fun G1 hl1 hs1 => ?_)
          refine tq_frzR (E := EU) 0 (hrm.mono hl1) (by have q_ := (treeCheck_iff.1 (by assumption)).len; first | (have q2_ := ownE_le (l.take i) (pathOf name).1; have q3_ := congrArg List.length hxo; rw [List.length_take] at q2_; (try simp only [EEnt, EU, List.length_append, List.length_cons, List.length_nil] at *); omega) | (have q3_ := congrArg List.length hxm; rw [sidesN_len] at q3_; (try simp only [EEnt, EU, List.length_append, List.length_cons, List.length_nil] at *); omega) | (have q3_ := congrArg List.length hxo; have q2_ := ownE_le l (pathOf name).1; (try simp only [EEnt, EU, List.length_append, List.length_cons, List.length_nil] at *); omega)) (fun G2 hl2 hs2 => ?_)
          have hf3 : proofMake l name = ((⟨name, xo, xm⟩ : ProofD), 0) := by
            unfold proofMake proofZ; first | (rw [if_pos (by assumption)]; done) | (rw [if_neg (by omega)]; first | (rw [if_pos (by assumption)]; done) | (rw [if_neg (by omega), hxo, hxm, show (15 - k).toNat = 16 by omega]; done))
          refine tq_ret [3, 0] [.agg #[Sr name, Sl ao xo.length co, Sl am xm.length cm], I 0] (bp_rowsA [] (Mem.le_trans (Mem.le_trans (Mem.le_trans hle hle1_) hl1) hl2) ?_)
          rw [hf3]
          try dsimp only
          exact ⟨ao, co, am, cm, rfl, hw_name, (hs1.mono hl2), hs2, rfl⟩
end Go.Proofs.YtpofnmobbbcpgaaDoor
