import Derived.Test.YtngoijkcbmchdaaGreatDoorUnder
import Derived.Test.YtngoijkcbmchdaaGreatDoorSee
import Derived.Test.YtngoijkcbmchdaaGreatDoorSl
namespace Go.Proofs.YtngoijkcbmchdaaGreatDoor
open Go.Tx
set_option linter.unusedVariables false
set_option linter.unusedSimpArgs false

structure AnsD where
  a : Int
  e : Int
deriving DecidableEq
def EUz : Elt Int := ⟨1, 8, fun G cs x => cs = [U x], fun hle h => by obtain rfl := h; exact rfl, fun h => by obtain rfl := h; rfl, fun h => by obtain rfl := h; exact one_of rfl, [U 0], fun _ => ⟨0, rfl⟩⟩
def EAns : Elt AnsD := ⟨2, 16, fun G cs x => cs = [U x.a, I x.e], fun hle h => by obtain rfl := h; exact rfl, fun h => by obtain rfl := h; rfl, fun h => by obtain rfl := h; exact one_of rfl, [U 0, I 0], fun _ => ⟨(⟨0, 0⟩ : AnsD), rfl⟩⟩

def ansOf (x : List EntD) : AnsD := ⟨(treeAtE x []).1, (treeAtE x []).2⟩
def okOf (r : ReplyD) : Bool := decide ((serveTell r).2.2 = 0)

theorem seqs_EUz (G : Mem) (a_a : Option Addr) (c_a : Nat) (a : List Int) (h_a : RS EUz G a_a c_a a) (a_b : Option Addr) (c_b : Nat) (b : List Int) (h_b : RS EUz G a_b c_b b)  : ConV 7 #[Sl a_a a.length c_a, Sl a_b b.length c_b] G (Bo (decide (a = b))) := by
  refine con_of Tryz.func7 26 [(0, Sl a_a a.length c_a), (1, Sl a_b b.length c_b)] rfl (fun w0 G0 => ?_)
  refine tc_rbn [0] [] ?_
  refine tc_seq ?_
  refine tc_rbn [0,0,0,0,0] [(10, Bo (!decide (((a.length : Nat) : Int) = ((b.length : Nat) : Int))))] ?_
  refine tc_condP (!decide (((a.length : Nat) : Int) = ((b.length : Nat) : Int))) (fun h1 => ?_) (fun h1 => ?_)
  ·
    refine tc_rbn [0] [(4, Bo false)] ?_
    refine tc_ret ?_
    refine tq_then_ret ?_
    refine tq_ret [0] [Bo false] (bp_ret (Mem.le_refl _) (congrArg Bo (?_ : (decide (a = b)) = false).symm))
    first | (rw [decide_eq_false]; intro hh; subst hh; exact absurd rfl h1) | (rw [decide_eq_false]; exact ne_at hx1 hx2 (by first | assumption | omega | simp_all)) | (rw [decide_eq_true]; exact takeEq_all (by omega) (by omega) he)
  ·
    refine tc_skip ?_
    refine tq_then ?_
    refine tc_seq ?_
    refine tc_rbn [0,0,0] [(12, I (((a.length : Nat) : Int))), (13, I 0)] ?_
    refine tc_block ?_
    have hlm_h_a : a.length ≤ 9223372036854775807 := Nat.le_trans (h_a).le (h_a).max
    have hlm_h_b : b.length ≤ 9223372036854775807 := Nat.le_trans (h_b).le (h_b).max
    refine tc_loop (σ := Nat) (fun q_ => (q_ ≤ a.length) ∧ (a.take q_ = b.take q_)) (fun q_ => [(0, Sl a_a a.length c_a), (1, Sl a_b b.length c_b), (12, I (((a.length : Nat) : Int))), (13, I ((q_ : Int)))]) (fun q_ => G) (fun q_ => []) (fun q_ => a.length - q_) 0 ⟨(by (try dsimp only); first | exact Nat.zero_le _ | omega | simp), rfl⟩ (fun q_ hs => ?_)
    revert hs; revert q_; intro i hs
    obtain ⟨hi, he⟩ := hs
    refine tc_eq (fr' := [(0, Sl a_a a.length c_a), (1, Sl a_b b.length c_b), (12, I (((a.length : Nat) : Int))), (13, I ((i : Int)))]) (L' := []) rfl rfl ?_
    refine tc_rbn [0] [(14, Bo (decide ((i : Int) < ((a.length : Nat) : Int))))] ?_
    refine tc_seq ?_
    refine tc_condP (decide ((i : Int) < ((a.length : Nat) : Int))) (fun h2 => ?_) (fun h2 => ?_)
    ·
      refine tc_skip ?_
      refine tq_then ?_
      refine tc_seq ?_
      refine tc_block ?_
      refine tc_rbn [0,0] [(5, I ((i : Int)))] ?_
      refine tc_seq ?_
      obtain ⟨b1, o1, rfl⟩ := RS.addr h_a (k := i) (by omega)
      obtain ⟨x1, hx1⟩ := getX (l := a) (k := i) (by omega)
      obtain ⟨_, rfl, hc1⟩ := RS.get h_a hx1
      obtain ⟨b2, o2, rfl⟩ := RS.addr h_b (k := i) (by omega)
      obtain ⟨x2, hx2⟩ := getX (l := b) (k := i) (by omega)
      obtain ⟨_, rfl, hc2⟩ := RS.get h_b hx2
      refine tc_draw [] ?_
      refine dr_V [(0, Sl (At b1 o1) a.length c_a), (1, I ((i : Int))), (2, Pt b1 (o1 + i * 1)), (3, U x1), (4, Sl (At b2 o2) b.length c_b), (5, I ((i : Int))), (6, Pt b2 (o2 + i * 1)), (7, U x2), (8, Bo (!decide (x1 = x2)))] ?_
      refine dr_end [] [(0,0), (1,0), (4,0), (5,0), (8,0)] [2, 3, 6, 7] [(0, Sl (At b1 o1) a.length c_a), (1, Sl (At b2 o2) b.length c_b), (12, I (((a.length : Nat) : Int))), (13, I ((i : Int))), (24, Bo (!decide (x1 = x2)))] (fmc ?_ (fmc ?_ (fmc ?_ (fmc ?_ fm0)))) ?_
      · refine stab_of 2 18 (Pt b1 (o1 + i * 1)) [(16, Sl (At b1 o1) a.length c_a), (17, I ((i : Int)))] (fun X => ?_)
        exact runL_idx (b := b1) (off := o1) (len := a.length) (cap := c_a) (ik := .i64) 18 34 1 i (by omega) stab_end
      · refine stab_of 3 19 (U x1) [(18, Pt b1 (o1 + i * 1))] (fun X => ?_)
        exact runL_ldG 19 34 (cs := [U x1]) 0 (U x1) hc1 stab_end
      · refine stab_of 6 22 (Pt b2 (o2 + i * 1)) [(20, Sl (At b2 o2) b.length c_b), (21, I ((i : Int)))] (fun X => ?_)
        exact runL_idx (b := b2) (off := o2) (len := b.length) (cap := c_b) (ik := .i64) 22 34 1 i (by omega) stab_end
      · refine stab_of 7 23 (U x2) [(22, Pt b2 (o2 + i * 1))] (fun X => ?_)
        exact runL_ldG 23 34 (cs := [U x2]) 0 (U x2) hc2 stab_end
      refine tq_then ?_
      refine tc_condP (!decide (x1 = x2)) (fun h3 => ?_) (fun h3 => ?_)
      ·
        refine tc_rbn [0] [(4, Bo false)] ?_
        refine tc_ret ?_
        refine tq_block_ret ?_
        refine tq_then_ret ?_
        refine tq_rnd_ret ?_
        refine tq_block_ret ?_
        refine tq_then_ret ?_
        refine tq_ret [0] [Bo false] (bp_ret (Mem.le_refl _) (congrArg Bo (?_ : (decide (a = b)) = false).symm))
        first | (rw [decide_eq_false]; intro hh; subst hh; exact absurd rfl h1) | (rw [decide_eq_false]; exact ne_at hx1 hx2 (by first | assumption | omega | simp_all)) | (rw [decide_eq_true]; exact takeEq_all (by omega) (by omega) he)
      ·
        refine tc_skip ?_
        refine tq_block ?_
        refine tq_then ?_
        refine tc_region ?_
        refine runL_bn [0,0] [(13, I (IntKind.i64.wrap (((i : Int)) + 1)))] ?_
        refine runL_wi64 13 (((i : Int)) + 1) (by omega) ?_
        refine runL_nil ?_
        exact tq_rnd (i + 1) ⟨(by omega), (takeEq_step he hx1 hx2 (by first | assumption | omega | simp_all))⟩ (by (try dsimp only); omega)
    ·
      refine tc_exit ?_
      refine tq_then_exit ?_
      refine tq_rnd_exit ?_
      refine tq_block_here ?_
      refine tq_then ?_
      refine tc_rbn [0] [(4, Bo true)] ?_
      refine tc_ret ?_
      refine tq_ret [0] [Bo true] (bp_ret (Mem.le_refl _) (congrArg Bo (?_ : (decide (a = b)) = true).symm))
      first | (rw [decide_eq_false]; intro hh; subst hh; exact absurd rfl h1) | (rw [decide_eq_false]; exact ne_at hx1 hx2 (by first | assumption | omega | simp_all)) | (rw [decide_eq_true]; exact takeEq_all (by omega) (by omega) he)

theorem seqs_EErr (G : Mem) (a_a : Option Addr) (c_a : Nat) (a : List Int) (h_a : RS EErr G a_a c_a a) (a_b : Option Addr) (c_b : Nat) (b : List Int) (h_b : RS EErr G a_b c_b b)  : ConV 8 #[Sl a_a a.length c_a, Sl a_b b.length c_b] G (Bo (decide (a = b))) := by
  refine con_of Tryz.func8 26 [(0, Sl a_a a.length c_a), (1, Sl a_b b.length c_b)] rfl (fun w0 G0 => ?_)
  refine tc_rbn [0] [] ?_
  refine tc_seq ?_
  refine tc_rbn [0,0,0,0,0] [(10, Bo (!decide (((a.length : Nat) : Int) = ((b.length : Nat) : Int))))] ?_
  refine tc_condP (!decide (((a.length : Nat) : Int) = ((b.length : Nat) : Int))) (fun h1 => ?_) (fun h1 => ?_)
  ·
    refine tc_rbn [0] [(4, Bo false)] ?_
    refine tc_ret ?_
    refine tq_then_ret ?_
    refine tq_ret [0] [Bo false] (bp_ret (Mem.le_refl _) (congrArg Bo (?_ : (decide (a = b)) = false).symm))
    first | (rw [decide_eq_false]; intro hh; subst hh; exact absurd rfl h1) | (rw [decide_eq_false]; exact ne_at hx1 hx2 (by first | assumption | omega | simp_all)) | (rw [decide_eq_true]; exact takeEq_all (by omega) (by omega) he)
  ·
    refine tc_skip ?_
    refine tq_then ?_
    refine tc_seq ?_
    refine tc_rbn [0,0,0] [(12, I (((a.length : Nat) : Int))), (13, I 0)] ?_
    refine tc_block ?_
    have hlm_h_a : a.length ≤ 9223372036854775807 := Nat.le_trans (h_a).le (h_a).max
    have hlm_h_b : b.length ≤ 9223372036854775807 := Nat.le_trans (h_b).le (h_b).max
    refine tc_loop (σ := Nat) (fun q_ => (q_ ≤ a.length) ∧ (a.take q_ = b.take q_)) (fun q_ => [(0, Sl a_a a.length c_a), (1, Sl a_b b.length c_b), (12, I (((a.length : Nat) : Int))), (13, I ((q_ : Int)))]) (fun q_ => G) (fun q_ => []) (fun q_ => a.length - q_) 0 ⟨(by (try dsimp only); first | exact Nat.zero_le _ | omega | simp), rfl⟩ (fun q_ hs => ?_)
    revert hs; revert q_; intro i hs
    obtain ⟨hi, he⟩ := hs
    refine tc_eq (fr' := [(0, Sl a_a a.length c_a), (1, Sl a_b b.length c_b), (12, I (((a.length : Nat) : Int))), (13, I ((i : Int)))]) (L' := []) rfl rfl ?_
    refine tc_rbn [0] [(14, Bo (decide ((i : Int) < ((a.length : Nat) : Int))))] ?_
    refine tc_seq ?_
    refine tc_condP (decide ((i : Int) < ((a.length : Nat) : Int))) (fun h2 => ?_) (fun h2 => ?_)
    ·
      refine tc_skip ?_
      refine tq_then ?_
      refine tc_seq ?_
      refine tc_block ?_
      refine tc_rbn [0,0] [(5, I ((i : Int)))] ?_
      refine tc_seq ?_
      obtain ⟨b1, o1, rfl⟩ := RS.addr h_a (k := i) (by omega)
      obtain ⟨x1, hx1⟩ := getX (l := a) (k := i) (by omega)
      obtain ⟨_, rfl, hc1⟩ := RS.get h_a hx1
      obtain ⟨b2, o2, rfl⟩ := RS.addr h_b (k := i) (by omega)
      obtain ⟨x2, hx2⟩ := getX (l := b) (k := i) (by omega)
      obtain ⟨_, rfl, hc2⟩ := RS.get h_b hx2
      refine tc_draw [] ?_
      refine dr_V [(0, Sl (At b1 o1) a.length c_a), (1, I ((i : Int))), (2, Pt b1 (o1 + i * 1)), (3, I x1), (4, Sl (At b2 o2) b.length c_b), (5, I ((i : Int))), (6, Pt b2 (o2 + i * 1)), (7, I x2), (8, Bo (!decide (x1 = x2)))] ?_
      refine dr_end [] [(0,0), (1,0), (4,0), (5,0), (8,0)] [2, 3, 6, 7] [(0, Sl (At b1 o1) a.length c_a), (1, Sl (At b2 o2) b.length c_b), (12, I (((a.length : Nat) : Int))), (13, I ((i : Int))), (24, Bo (!decide (x1 = x2)))] (fmc ?_ (fmc ?_ (fmc ?_ (fmc ?_ fm0)))) ?_
      · refine stab_of 2 18 (Pt b1 (o1 + i * 1)) [(16, Sl (At b1 o1) a.length c_a), (17, I ((i : Int)))] (fun X => ?_)
        exact runL_idx (b := b1) (off := o1) (len := a.length) (cap := c_a) (ik := .i64) 18 27 1 i (by omega) stab_end
      · refine stab_of 3 19 (I x1) [(18, Pt b1 (o1 + i * 1))] (fun X => ?_)
        exact runL_ldG 19 27 (cs := [I x1]) 0 (I x1) hc1 stab_end
      · refine stab_of 6 22 (Pt b2 (o2 + i * 1)) [(20, Sl (At b2 o2) b.length c_b), (21, I ((i : Int)))] (fun X => ?_)
        exact runL_idx (b := b2) (off := o2) (len := b.length) (cap := c_b) (ik := .i64) 22 27 1 i (by omega) stab_end
      · refine stab_of 7 23 (I x2) [(22, Pt b2 (o2 + i * 1))] (fun X => ?_)
        exact runL_ldG 23 27 (cs := [I x2]) 0 (I x2) hc2 stab_end
      refine tq_then ?_
      refine tc_condP (!decide (x1 = x2)) (fun h3 => ?_) (fun h3 => ?_)
      ·
        refine tc_rbn [0] [(4, Bo false)] ?_
        refine tc_ret ?_
        refine tq_block_ret ?_
        refine tq_then_ret ?_
        refine tq_rnd_ret ?_
        refine tq_block_ret ?_
        refine tq_then_ret ?_
        refine tq_ret [0] [Bo false] (bp_ret (Mem.le_refl _) (congrArg Bo (?_ : (decide (a = b)) = false).symm))
        first | (rw [decide_eq_false]; intro hh; subst hh; exact absurd rfl h1) | (rw [decide_eq_false]; exact ne_at hx1 hx2 (by first | assumption | omega | simp_all)) | (rw [decide_eq_true]; exact takeEq_all (by omega) (by omega) he)
      ·
        refine tc_skip ?_
        refine tq_block ?_
        refine tq_then ?_
        refine tc_region ?_
        refine runL_bn [0,0] [(13, I (IntKind.i64.wrap (((i : Int)) + 1)))] ?_
        refine runL_wi64 13 (((i : Int)) + 1) (by omega) ?_
        refine runL_nil ?_
        exact tq_rnd (i + 1) ⟨(by omega), (takeEq_step he hx1 hx2 (by first | assumption | omega | simp_all))⟩ (by (try dsimp only); omega)
    ·
      refine tc_exit ?_
      refine tq_then_exit ?_
      refine tq_rnd_exit ?_
      refine tq_block_here ?_
      refine tq_then ?_
      refine tc_rbn [0] [(4, Bo true)] ?_
      refine tc_ret ?_
      refine tq_ret [0] [Bo true] (bp_ret (Mem.le_refl _) (congrArg Bo (?_ : (decide (a = b)) = true).symm))
      first | (rw [decide_eq_false]; intro hh; subst hh; exact absurd rfl h1) | (rw [decide_eq_false]; exact ne_at hx1 hx2 (by first | assumption | omega | simp_all)) | (rw [decide_eq_true]; exact takeEq_all (by omega) (by omega) he)

theorem seqs_EB (G : Mem) (a_a : Option Addr) (c_a : Nat) (a : List Bool) (h_a : RS EB G a_a c_a a) (a_b : Option Addr) (c_b : Nat) (b : List Bool) (h_b : RS EB G a_b c_b b)  : ConV 9 #[Sl a_a a.length c_a, Sl a_b b.length c_b] G (Bo (decide (a = b))) := by
  refine con_of Tryz.func9 26 [(0, Sl a_a a.length c_a), (1, Sl a_b b.length c_b)] rfl (fun w0 G0 => ?_)
  refine tc_rbn [0] [] ?_
  refine tc_seq ?_
  refine tc_rbn [0,0,0,0,0] [(10, Bo (!decide (((a.length : Nat) : Int) = ((b.length : Nat) : Int))))] ?_
  refine tc_condP (!decide (((a.length : Nat) : Int) = ((b.length : Nat) : Int))) (fun h1 => ?_) (fun h1 => ?_)
  ·
    refine tc_rbn [0] [(4, Bo false)] ?_
    refine tc_ret ?_
    refine tq_then_ret ?_
    refine tq_ret [0] [Bo false] (bp_ret (Mem.le_refl _) (congrArg Bo (?_ : (decide (a = b)) = false).symm))
    first | (rw [decide_eq_false]; intro hh; subst hh; exact absurd rfl h1) | (rw [decide_eq_false]; exact ne_at hx1 hx2 (by first | assumption | omega | simp_all)) | (rw [decide_eq_true]; exact takeEq_all (by omega) (by omega) he)
  ·
    refine tc_skip ?_
    refine tq_then ?_
    refine tc_seq ?_
    refine tc_rbn [0,0,0] [(12, I (((a.length : Nat) : Int))), (13, I 0)] ?_
    refine tc_block ?_
    have hlm_h_a : a.length ≤ 9223372036854775807 := Nat.le_trans (h_a).le (h_a).max
    have hlm_h_b : b.length ≤ 9223372036854775807 := Nat.le_trans (h_b).le (h_b).max
    refine tc_loop (σ := Nat) (fun q_ => (q_ ≤ a.length) ∧ (a.take q_ = b.take q_)) (fun q_ => [(0, Sl a_a a.length c_a), (1, Sl a_b b.length c_b), (12, I (((a.length : Nat) : Int))), (13, I ((q_ : Int)))]) (fun q_ => G) (fun q_ => []) (fun q_ => a.length - q_) 0 ⟨(by (try dsimp only); first | exact Nat.zero_le _ | omega | simp), rfl⟩ (fun q_ hs => ?_)
    revert hs; revert q_; intro i hs
    obtain ⟨hi, he⟩ := hs
    refine tc_eq (fr' := [(0, Sl a_a a.length c_a), (1, Sl a_b b.length c_b), (12, I (((a.length : Nat) : Int))), (13, I ((i : Int)))]) (L' := []) rfl rfl ?_
    refine tc_rbn [0] [(14, Bo (decide ((i : Int) < ((a.length : Nat) : Int))))] ?_
    refine tc_seq ?_
    refine tc_condP (decide ((i : Int) < ((a.length : Nat) : Int))) (fun h2 => ?_) (fun h2 => ?_)
    ·
      refine tc_skip ?_
      refine tq_then ?_
      refine tc_seq ?_
      refine tc_block ?_
      refine tc_rbn [0,0] [(5, I ((i : Int)))] ?_
      refine tc_seq ?_
      obtain ⟨b1, o1, rfl⟩ := RS.addr h_a (k := i) (by omega)
      obtain ⟨x1, hx1⟩ := getX (l := a) (k := i) (by omega)
      obtain ⟨_, rfl, hc1⟩ := RS.get h_a hx1
      obtain ⟨b2, o2, rfl⟩ := RS.addr h_b (k := i) (by omega)
      obtain ⟨x2, hx2⟩ := getX (l := b) (k := i) (by omega)
      obtain ⟨_, rfl, hc2⟩ := RS.get h_b hx2
      refine tc_draw [] ?_
      refine dr_V [(0, Sl (At b1 o1) a.length c_a), (1, I ((i : Int))), (2, Pt b1 (o1 + i * 1)), (3, Bo x1), (4, Sl (At b2 o2) b.length c_b), (5, I ((i : Int))), (6, Pt b2 (o2 + i * 1)), (7, Bo x2), (8, Bo (!(x1 == x2)))] ?_
      refine dr_end [] [(0,0), (1,0), (4,0), (5,0), (8,0)] [2, 3, 6, 7] [(0, Sl (At b1 o1) a.length c_a), (1, Sl (At b2 o2) b.length c_b), (12, I (((a.length : Nat) : Int))), (13, I ((i : Int))), (24, Bo (!(x1 == x2)))] (fmc ?_ (fmc ?_ (fmc ?_ (fmc ?_ fm0)))) ?_
      · refine stab_of 2 18 (Pt b1 (o1 + i * 1)) [(16, Sl (At b1 o1) a.length c_a), (17, I ((i : Int)))] (fun X => ?_)
        exact runL_idx (b := b1) (off := o1) (len := a.length) (cap := c_a) (ik := .i64) 18 4 1 i (by omega) stab_end
      · refine stab_of 3 19 (Bo x1) [(18, Pt b1 (o1 + i * 1))] (fun X => ?_)
        exact runL_ldG 19 4 (cs := [Bo x1]) 0 (Bo x1) hc1 stab_end
      · refine stab_of 6 22 (Pt b2 (o2 + i * 1)) [(20, Sl (At b2 o2) b.length c_b), (21, I ((i : Int)))] (fun X => ?_)
        exact runL_idx (b := b2) (off := o2) (len := b.length) (cap := c_b) (ik := .i64) 22 4 1 i (by omega) stab_end
      · refine stab_of 7 23 (Bo x2) [(22, Pt b2 (o2 + i * 1))] (fun X => ?_)
        exact runL_ldG 23 4 (cs := [Bo x2]) 0 (Bo x2) hc2 stab_end
      refine tq_then ?_
      refine tc_condP (!(x1 == x2)) (fun h3 => ?_) (fun h3 => ?_)
      ·
        refine tc_rbn [0] [(4, Bo false)] ?_
        refine tc_ret ?_
        refine tq_block_ret ?_
        refine tq_then_ret ?_
        refine tq_rnd_ret ?_
        refine tq_block_ret ?_
        refine tq_then_ret ?_
        refine tq_ret [0] [Bo false] (bp_ret (Mem.le_refl _) (congrArg Bo (?_ : (decide (a = b)) = false).symm))
        first | (rw [decide_eq_false]; intro hh; subst hh; exact absurd rfl h1) | (rw [decide_eq_false]; exact ne_at hx1 hx2 (by first | assumption | omega | simp_all)) | (rw [decide_eq_true]; exact takeEq_all (by omega) (by omega) he)
      ·
        refine tc_skip ?_
        refine tq_block ?_
        refine tq_then ?_
        refine tc_region ?_
        refine runL_bn [0,0] [(13, I (IntKind.i64.wrap (((i : Int)) + 1)))] ?_
        refine runL_wi64 13 (((i : Int)) + 1) (by omega) ?_
        refine runL_nil ?_
        exact tq_rnd (i + 1) ⟨(by omega), (takeEq_step he hx1 hx2 (by first | assumption | omega | simp_all))⟩ (by (try dsimp only); omega)
    ·
      refine tc_exit ?_
      refine tq_then_exit ?_
      refine tq_rnd_exit ?_
      refine tq_block_here ?_
      refine tq_then ?_
      refine tc_rbn [0] [(4, Bo true)] ?_
      refine tc_ret ?_
      refine tq_ret [0] [Bo true] (bp_ret (Mem.le_refl _) (congrArg Bo (?_ : (decide (a = b)) = true).symm))
      first | (rw [decide_eq_false]; intro hh; subst hh; exact absurd rfl h1) | (rw [decide_eq_false]; exact ne_at hx1 hx2 (by first | assumption | omega | simp_all)) | (rw [decide_eq_true]; exact takeEq_all (by omega) (by omega) he)

theorem both_con (G : Mem) (a : Int) (e : Int)  : ConV 12 #[U a, I e] G (.agg #[U (((⟨a, e⟩ : AnsD)).a), I (((⟨a, e⟩ : AnsD)).e)]) := by
  refine con_of Tryz.func12 8 [(0, U a), (1, I e)] rfl (fun w0 G0 => ?_)
  refine tc_seq ?_
  refine tc_region ?_
  refine runL_box 4 #[U 0, I 0] 43 (fun b1 => ?_)
  refine runL_nil ?_
  refine tq_then ?_
  refine tc_rbsn [0,0,0,3] [] [[Sg b1 0 [U a, I e]]] ?_
  refine tc_ret ?_
  refine tq_ret [0] [.agg #[U a, I e]] (bp_ret (Mem.le_refl _) ?_)
  have hf_ : ((⟨a, e⟩ : AnsD)) = (⟨a, e⟩ : AnsD) := by
    rfl
  (try rw [hf_]); first | with_reducible rfl | (simp only [packR]; done) | rfl

theorem roots1_con (G : Mem) (a_x : Option Addr) (c_x : Nat) (x : List EntD) (h_x : RS EEnt G a_x c_x x)  : ConV 11 #[Sl a_x x.length c_x] G (.agg #[U ((ansOf x).a), I ((ansOf x).e)]) := by
  refine con_of Tryz.func11 8 [(0, Sl a_x x.length c_x)] rfl (fun w0 G0 => ?_)
  refine tc_seq ?_
  refine tc_region ?_
  refine runL_box 2 #[U 0, I 0] 43 (fun b1 => ?_)
  refine runL_nil ?_
  refine tq_then ?_
  refine tc_seq ?_
  refine tc_region ?_
  refine runL_bn [0] [(3, Sl a_x x.length c_x)] ?_
  refine runL_callV 4 (.tuple #[U ((treeAtE x []).1), I ((treeAtE x []).2)]) (treeRoot_con G a_x c_x x h_x) ?_
  refine runL_bn [0,0] [(5, U ((treeAtE x []).1)), (6, I ((treeAtE x []).2))] ?_
  refine runL_callV 7 (.agg #[U (((⟨(treeAtE x []).1, (treeAtE x []).2⟩ : AnsD)).a), I (((⟨(treeAtE x []).1, (treeAtE x []).2⟩ : AnsD)).e)]) (both_con G ((treeAtE x []).1) ((treeAtE x []).2)) ?_
  refine runL_bsn [3] [] [[Sg b1 0 [U (((⟨(treeAtE x []).1, (treeAtE x []).2⟩ : AnsD)).a), I (((⟨(treeAtE x []).1, (treeAtE x []).2⟩ : AnsD)).e)]]] ?_
  refine runL_nil ?_
  refine tq_then ?_
  refine tc_ret ?_
  refine tq_ret [0] [.agg #[U (((⟨(treeAtE x []).1, (treeAtE x []).2⟩ : AnsD)).a), I (((⟨(treeAtE x []).1, (treeAtE x []).2⟩ : AnsD)).e)]] (bp_ret (Mem.le_refl _) ?_)
  have hf_ : (ansOf x) = ((⟨(treeAtE x []).1, (treeAtE x []).2⟩ : AnsD)) := by
    rfl
  (try rw [hf_]); first | with_reducible rfl | (simp only [packR]; done) | rfl

theorem replies1_con (G : Mem) (vs_r : List Value) (r : ReplyD) (h_r : EReply.R G vs_r r)  : ConV 15 #[.agg vs_r.toArray] G (Bo (okOf r)) := by
  obtain ⟨a1, c1, a2, c2, rfl, w1, w2, w3, w4, w5, hs1, hs2⟩ := h_r
  refine con_of Tryz.func15 14 [(0, .agg #[I r.head.epoch, U r.head.root, U r.head.prev, I r.head.at_, Sr r.proof.name, Sl a1 r.proof.entries.length c1, Sl a2 r.proof.sides.length c2])] rfl (fun w0 G0 => ?_)
  refine tc_seq ?_
  refine tc_region ?_
  refine runL_box 1 #[I r.head.epoch, U r.head.root, U r.head.prev, I r.head.at_, Sr r.proof.name, Sl a1 r.proof.entries.length c1, Sl a2 r.proof.sides.length c2] 54 (fun b1 => ?_)
  refine runL_bn [0] [] ?_
  refine runL_nil ?_
  refine tq_then ?_
  refine tc_seq ?_
  refine tc_region ?_
  refine runL_bn [2] [(7, .agg #[I r.head.epoch, U r.head.root, U r.head.prev, I r.head.at_, Sr r.proof.name, Sl a1 r.proof.entries.length c1, Sl a2 r.proof.sides.length c2])] ?_
  refine runL_callR 8 (serveTell_con G [I r.head.epoch, U r.head.root, U r.head.prev, I r.head.at_, Sr r.proof.name, Sl a1 r.proof.entries.length c1, Sl a2 r.proof.sides.length c2] r (⟨a1, c1, a2, c2, rfl, w1, w2, w3, w4, w5, hs1, hs2⟩)) (fun v G1 L1 hl1 hp => ?_)
  obtain ⟨rfl, w6, rfl⟩ := hp
  refine runL_bn [0,0,0,0,0,0,0] [(5, I ((serveTell r).2.2))] ?_
  refine runL_nil ?_
  refine tq_then ?_
  refine tc_rbn [0,0,0] [(2, Bo (decide ((serveTell r).2.2 = 0)))] ?_
  refine tc_ret ?_
  refine tq_ret [0] [Bo (decide ((serveTell r).2.2 = 0))] (bp_ret hl1 (congrArg Bo (?_ : (okOf r) = (decide ((serveTell r).2.2 = 0))).symm))
  rfl
end Go.Proofs.YtngoijkcbmchdaaGreatDoor
