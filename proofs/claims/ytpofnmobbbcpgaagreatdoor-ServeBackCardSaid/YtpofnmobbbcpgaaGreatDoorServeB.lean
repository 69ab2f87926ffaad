import Derived.Test.YtpofnmobbbcpgaaGreatDoorLook
import Derived.Test.YtpofnmobbbcpgaaGreatDoorWireL
import Derived.Test.YtpofnmobbbcpgaaGreatDoorOld
namespace Go.Proofs.YtpofnmobbbcpgaaGreatDoor
open Go.Tx
set_option linter.unusedVariables false
set_option linter.unusedSimpArgs false

open Go.RowKit
def rsParts (l : List EntD) : List (List UInt8) := (l.map fun x => [x.name, x.value]).flatten
def rsSides (l : List Int) : List UInt8 := (l.map numB).flatten
def rsSaid (r : ReplyD) : List UInt8 × Int := if ¬ (wPut (rsParts r.proof.entries)).2 = 0 then ([], (wPut (rsParts r.proof.entries)).2) else wPut [(headSaid r.head).1, r.proof.name, rsSides r.proof.sides, (wPut (rsParts r.proof.entries)).1]
def serveSaid (r : ReplyD) : List UInt8 × Int := if ¬ (serveTell r).2.2 = 0 then ([], (serveTell r).2.2) else rsSaid r
def nthT (l : List (List UInt8)) (k : Nat) : List UInt8 := l[k]?.getD []
theorem nthT_get {l : List (List UInt8)} {k : Nat} {x : List UInt8} (h : l[k]? = some x) : nthT l k = x := by unfold nthT; rw [h]; rfl
def entAt (ps : List (List UInt8)) (k : Nat) : EntD := ⟨nthT ps (2 * k + 0), nthT ps (2 * k + 1)⟩
def entsOf (ps : List (List UInt8)) : List EntD := (List.range (ps.length / 2)).map (entAt ps)
def rsAt (t : List UInt8) (k : Nat) : Int := (readNum ((t.take (8 * k + 8)).drop (8 * k))).1
def rsOf (t : List UInt8) (n : Nat) : List Int := (List.range n).map (rsAt t)
theorem rsOf_succ (t : List UInt8) (n : Nat) : rsOf t n ++ [rsAt t n] = rsOf t (n + 1) := by simp [rsOf, List.range_succ]
theorem rsOf_len (t : List UInt8) (n : Nat) : (rsOf t n).length = n := by simp [rsOf]
def rdGot (l : List (List UInt8)) : ReplyD := ⟨(headRead (nthT l 0)).1, ⟨nthT l 1, entsOf (wGet (nthT l 3)).1, rsOf (nthT l 2) 16⟩⟩
def rdRead (s : List UInt8) : ReplyD × Bool :=
  if ¬ (wGet s).2 = 0 ∨ ¬ (wGet s).1.length = 4 ∨ ¬ (nthT (wGet s).1 2).length = 128 then (replyZ, false)
  else if ¬ (headRead (nthT (wGet s).1 0)).2 = 0 ∨ ¬ (wGet (nthT (wGet s).1 3)).2 = 0 ∨ ¬ (wGet (nthT (wGet s).1 3)).1.length % 2 = 0 then (replyZ, false)
  else (rdGot (wGet s).1, true)
def serveRead (s : List UInt8) : ReplyD × Int := if (rdRead s).2 = false then (replyZ, 3) else if ¬ (serveSaid (rdRead s).1).2 = 0 ∨ ¬ (serveSaid (rdRead s).1).1 = s then (replyZ, 3) else ((rdRead s).1, 0)
theorem rsParts_len (l : List EntD) : (rsParts l).length = 2 * l.length := by
  induction l with
  | nil => rfl
  | cons x l ih => simp only [rsParts, List.map_cons, List.flatten_cons, List.length_append, List.length_cons, List.length_nil] at ih ⊢; omega
theorem rsParts_get (l : List EntD) : ∀ k, k < l.length → ∀ x, l[k]? = some x → (rsParts l)[2 * k]? = some x.name ∧ (rsParts l)[2 * k + 1]? = some x.value := by
  induction l with
  | nil => intro k hk; cases hk
  | cons y l ih =>
    intro k hk x hx
    have e : rsParts (y :: l) = y.name :: y.value :: rsParts l := by simp [rsParts]
    rw [e]
    cases k with
    | zero => simp at hx; subst hx; simp
    | succ k =>
      simp only [List.getElem?_cons_succ] at hx
      have := ih k (by simpa using hk) x hx
      rw [show 2 * (k + 1) = 2 * k + 1 + 1 by omega]
      simpa using this
theorem entsOf_parts (l : List EntD) : entsOf (rsParts l) = l := by
  unfold entsOf
  rw [rsParts_len, show 2 * l.length / 2 = l.length by omega]
  apply List.ext_getElem?
  intro k
  by_cases hk : k < l.length
  · obtain ⟨h1, h2⟩ := rsParts_get l k hk _ (List.getElem?_eq_getElem hk)
    rw [List.getElem?_map, List.getElem?_range hk, List.getElem?_eq_getElem hk]
    simp only [Option.map_some, entAt, Nat.add_zero, nthT_get h1, nthT_get h2]
  · rw [List.getElem?_eq_none (by simp; omega), List.getElem?_eq_none (by omega)]
theorem rsSides_len (l : List Int) : (rsSides l).length = 8 * l.length := by
  induction l with
  | nil => rfl
  | cons x l ih => simp only [rsSides, List.map_cons, List.flatten_cons, List.length_append, numB_length, List.length_cons] at ih ⊢; omega
theorem rsSides_cut (l : List Int) : ∀ k, k < l.length → ∀ x, l[k]? = some x → ((rsSides l).take (8 * k + 8)).drop (8 * k) = numB x := by
  induction l with
  | nil => intro k hk; cases hk
  | cons y l ih =>
    intro k hk x hx
    have e : rsSides (y :: l) = numB y ++ rsSides l := by simp [rsSides]
    have hl := numB_length y
    rw [e]
    cases k with
    | zero =>
      simp at hx; subst hx
      simp only [Nat.mul_zero, Nat.zero_add, List.drop_zero]
      rw [List.take_append_of_le_length (by omega), List.take_of_length_le (by omega)]
    | succ k =>
      simp only [List.getElem?_cons_succ] at hx
      have := ih k (by simpa using hk) x hx
      rw [← this, List.take_append, List.drop_append, hl]
      rw [List.take_of_length_le (l := numB y) (by omega), show (numB y).drop (8 * (k + 1)) = [] from List.drop_eq_nil_of_le (by omega), List.nil_append]
      rw [hl, show 8 * (k + 1) - 8 = 8 * k by omega, show 8 * (k + 1) + 8 - 8 = 8 * k + 8 by omega]
theorem sides_back {l : List Int} (h16 : l.length = 16) (h : ∀ m ∈ l, 0 ≤ m ∧ m < 18446744073709551616) : rsOf (rsSides l) 16 = l := by
  unfold rsOf
  apply List.ext_getElem?
  intro k
  by_cases hk : k < 16
  · have hx : l[k]? = some (l[k]'(by omega)) := List.getElem?_eq_getElem _
    rw [List.getElem?_map, List.getElem?_range hk, hx]
    simp only [Option.map_some, rsAt, rsSides_cut l k (by omega) _ hx]
    rw [readNum_num (h _ (List.getElem_mem _))]
  · rw [List.getElem?_eq_none (by simp; omega), List.getElem?_eq_none (by omega)]
theorem rs_ok {r : ReplyD} (h : (serveTell r).2.2 = 0) : headCheck r.head = 0 ∧ ProofOk r.proof := by
  unfold serveTell at h
  split at h
  · contradiction
  · rename_i h1
    exact ⟨Decidable.not_not.1 h1, (tell_ok h).1⟩
theorem rdRead_of {s : List UInt8} {l : List (List UInt8)} (hg : wGet s = (l, 0)) (h1 : l.length = 4) (h2 : (nthT l 2).length = 128) (h3 : (headRead (nthT l 0)).2 = 0) (h4 : (wGet (nthT l 3)).2 = 0) (h5 : (wGet (nthT l 3)).1.length % 2 = 0) : rdRead s = (rdGot l, true) := by
  unfold rdRead
  rw [hg, if_neg (by simp [h1, h2]), if_neg (by simp [h3, h4, h5])]
def ReplyW (r : ReplyD) : Prop := HeadW r.head ∧ ∀ m ∈ r.proof.sides, 0 ≤ m ∧ m < 18446744073709551616
theorem read_said {r : ReplyD} (hw : ReplyW r) (h : (serveSaid r).2 = 0) : serveRead (serveSaid r).1 = (r, 0) := by
  have h0 := h
  unfold serveSaid at h
  split at h
  · rename_i h1; exact absurd h h1
  rename_i h1
  have h1 := Decidable.not_not.1 h1
  obtain ⟨hc, hp⟩ := rs_ok h1
  unfold rsSaid at h
  split at h
  · rename_i h2; exact absurd h h2
  rename_i h2
  have h2 := Decidable.not_not.1 h2
  have e0 : (serveSaid r).1 = (wPut [(headSaid r.head).1, r.proof.name, rsSides r.proof.sides, (wPut (rsParts r.proof.entries)).1]).1 := by
    unfold serveSaid; rw [if_neg (by rw [Decidable.not_not]; exact h1)]; unfold rsSaid; rw [if_neg (by rw [Decidable.not_not]; exact h2)]
  have hg := wGet_put h
  have hh : headRead (headSaid r.head).1 = (r.head, 0) := headBack1 hw.1 (by unfold headSaid; rw [if_neg (by simp [hc])])
  have hs := sides_back hp.sides hw.2
  have hsl : (rsSides r.proof.sides).length = 128 := by rw [rsSides_len, hp.sides]
  have hge := wGet_put h2
  have hrd : rdRead (serveSaid r).1 = (r, true) := by
    rw [e0]
    rw [rdRead_of hg rfl (by simpa [nthT] using hsl) (by simp [nthT, hh]) (by simp [nthT, hge]) (by simp [nthT, hge, rsParts_len])]
    unfold rdGot
    simp only [nthT, List.getElem?_cons_zero, List.getElem?_cons_succ, Option.getD_some]
    simp only [hh, hge, hs, entsOf_parts]
  unfold serveRead
  rw [hrd, if_neg (by simp), if_neg (by simp [h0])]
theorem serveRead_err {s : List UInt8} (h : ¬ (serveRead s).2 = 0) : (serveRead s).1 = replyZ := by
  unfold serveRead at h ⊢
  split
  · rfl
  · rename_i h1
    rw [if_neg h1] at h
    split
    · rfl
    · rename_i h2; rw [if_neg h2] at h; exact absurd rfl h
theorem serveRead_ok {s : List UInt8} (h : (serveRead s).2 = 0) : serveSaid (serveRead s).1 = (s, 0) := by
  unfold serveRead at h ⊢
  split at h
  · cases h
  · rename_i h1
    rw [if_neg h1]
    split at h
    · cases h
    · rename_i h2
      rw [if_neg h2]
      simp only [not_or, Decidable.not_not] at h2
      exact Prod.ext h2.2 h2.1
theorem ProofD_ne {x y : ProofD} : x = y ↔ x.name = y.name ∧ x.entries = y.entries ∧ x.sides = y.sides := by cases x; cases y; simp
theorem rsSaid_len (r : ReplyD) : (rsSaid r).1.length ≤ 600 := by
  unfold rsSaid; split
  · simp
  · exact wPut_len _
theorem serveSaid_len (r : ReplyD) : (serveSaid r).1.length ≤ 600 := by
  unfold serveSaid; split
  · simp
  · exact rsSaid_len _
theorem rsSides_snoc {l : List Int} {i : Nat} {x : Int} (h : l[i]? = some x) : rsSides (l.take i) ++ numB x = rsSides (l.take (i + 1)) := by
  rw [List.take_add_one, h]; simp [rsSides]
theorem rsParts_snoc {l : List EntD} {i : Nat} {x : EntD} (h : l[i]? = some x) : rsParts (l.take i) ++ [x.name, x.value] = rsParts (l.take (i + 1)) := by
  rw [List.take_add_one, h]; simp [rsParts]
theorem entsOf_len (ps : List (List UInt8)) : (entsOf ps).length = ps.length / 2 := by simp [entsOf]
theorem getN_le : ∀ (n : Nat) (s : List UInt8) (o : List (List UInt8)), o.length ≤ 60 → (getN n s o).1.length ≤ 60
  | 0, _, _, _ => by simp [getN]
  | n + 1, s, o, ho => by
    unfold getN
    split
    · exact ho
    · split
      · simp
      · rename_i h; exact getN_le n _ _ (by simp only [not_or] at h; simp; omega)
theorem wGet_le (s : List UInt8) : (wGet s).1.length ≤ 60 := by
  unfold wGet
  split
  · simp
  · exact getN_le _ _ _ (by simp)
theorem readNum_bd (t : List UInt8) : 0 ≤ (readNum t).1 ∧ (readNum t).1 < 18446744073709551616 := by
  unfold readNum
  split
  · rename_i h; have := readN_bound t h; exact ⟨this.1, this.2.1⟩
  · simp
theorem headRead_w (s : List UInt8) : (-9223372036854775808 ≤ (headRead s).1.epoch ∧ (headRead s).1.epoch < 9223372036854775808) ∧ (0 ≤ (headRead s).1.root ∧ (headRead s).1.root < 18446744073709551616) ∧ (0 ≤ (headRead s).1.prev ∧ (headRead s).1.prev < 18446744073709551616) ∧ (-9223372036854775808 ≤ (headRead s).1.at_ ∧ (headRead s).1.at_ < 9223372036854775808) := by
  by_cases h : (headRead s).2 = 0
  · obtain ⟨_, _, h3, h4⟩ := headRead_ok h
    have := headCheck_ok h3
    rw [h4]
    have b1 := readNum_bd ((s.take 17).drop 9)
    have b2 := readNum_bd ((s.take 25).drop 17)
    simp only [headGot] at this ⊢
    omega
  · rw [headRead_err h]; decide
theorem rd_no {s : List UInt8} (h : ¬ ((wGet s).2 = 0 ∧ (wGet s).1.length = 4 ∧ (nthT (wGet s).1 2).length = 128 ∧ (headRead (nthT (wGet s).1 0)).2 = 0 ∧ (wGet (nthT (wGet s).1 3)).2 = 0 ∧ (wGet (nthT (wGet s).1 3)).1.length % 2 = 0)) : rdRead s = (replyZ, false) := by
  unfold rdRead
  split
  · rfl
  · rename_i h1
    split
    · rfl
    · rename_i h2
      simp only [not_or, Decidable.not_not] at h1 h2
      exact absurd ⟨h1.1, h1.2.1, h1.2.2, h2⟩ h
theorem rsU_w {G : Mem} {a : Option Addr} {c : Nat} {l : List Int} (h : RS EU G a c l) : ∀ m ∈ l, 0 ≤ m ∧ m < 18446744073709551616 := by
  intro m hm
  obtain ⟨k, hk⟩ := List.getElem?_of_mem hm
  cases a with
  | none => have := h.nil rfl; have := (List.getElem?_eq_some_iff.1 hk).1; have := h.le; omega
  | some ad =>
    obtain ⟨cs, h1, _⟩ := h.elem _ rfl k m hk
    exact h1.2
theorem ReplyD_ne {x y : ReplyD} : x = y ↔ (x.head.epoch = y.head.epoch ∧ x.head.root = y.head.root ∧ x.head.prev = y.head.prev ∧ x.head.at_ = y.head.at_) ∧ x.proof.name = y.proof.name ∧ x.proof.entries = y.proof.entries ∧ x.proof.sides = y.proof.sides := by
  obtain ⟨⟨_, _, _, _⟩, ⟨_, _, _⟩⟩ := x
  obtain ⟨⟨_, _, _, _⟩, ⟨_, _, _⟩⟩ := y
  simp [and_assoc]

theorem sameM_con (G : Mem) (a_a : Option Addr) (c_a : Nat) (a : List Int) (h_a : RS EU G a_a c_a a) (a_b : Option Addr) (c_b : Nat) (b : List Int) (h_b : RS EU G a_b c_b b)  : ConV 48 #[Sl a_a a.length c_a, Sl a_b b.length c_b] G (Bo (decide (a = b))) := by
  refine con_of Tryz.func48 26 [(0, Sl a_a a.length c_a), (1, Sl a_b b.length c_b)] rfl (fun w0 G0 => ?_)
  refine tc_rbn [0] [] ?_
  refine tc_seq ?_
  refine tc_rbn [0,0,0,0,0] [(10, Bo (!decide (((a.length : Nat) : Int) = ((b.length : Nat) : Int))))] ?_
  refine tc_condP (!decide (((a.length : Nat) : Int) = ((b.length : Nat) : Int))) (fun h1 => ?_) (fun h1 => ?_)
  ·
    refine tc_rbn [0] [(4, Bo false)] ?_
    refine tc_ret ?_
    refine tq_then_ret ?_
    refine tq_ret [0] [Bo false] (bp_ret (Mem.le_refl _) (congrArg Bo (?_ : (decide (a = b)) = false).symm))
    first | (rw [decide_eq_false]; intro hh; subst hh; exact absurd rfl h1) | (rw [decide_eq_false]; exact ne_at hx1 hx2 (by simpa using h3)) | (rw [decide_eq_true]; exact takeEq_all (by omega) (by omega) he)
  ·
    refine tc_skip ?_
    refine tq_then ?_
    refine tc_seq ?_
    refine tc_rbn [0,0,0] [(12, I (((a.length : Nat) : Int))), (13, I 0)] ?_
    refine tc_block ?_
    have hlm_h_a : a.length ≤ 9223372036854775807 := Nat.le_trans (h_a).le (h_a).max
    have hlm_h_b : b.length ≤ 9223372036854775807 := Nat.le_trans (h_b).le (h_b).max
    refine tc_loop (σ := Nat) (fun q_ => (q_ ≤ a.length) ∧ (a.take q_ = b.take q_)) (fun q_ => [(0, Sl a_a a.length c_a), (1, Sl a_b b.length c_b), (12, I (((a.length : Nat) : Int))), (13, I ((q_ : Int)))]) (fun q_ => G) (fun q_ => []) (fun q_ => a.length - q_) 0 ⟨(by (try dsimp only); first | exact Nat.zero_le _ | omega | simp), rfl⟩ (fun q_ hs => ?_)
    revert hs; revert q_; intro i hs
    obtain ⟨hi, he⟩ := hs
    refine tc_eq (fr' := [(0, Sl a_a a.length c_a), (1, Sl a_b b.length c_b), (12, I (((a.length : Nat) : Int))), (13, I ((i : Int)))]) (L' := []) rfl rfl ?_
    refine tc_rbn [0] [(14, Bo (decide ((i : Int) < ((a.length : Nat) : Int))))] ?_
    refine tc_seq ?_
    refine tc_condP (decide ((i : Int) < ((a.length : Nat) : Int))) (fun h2 => ?_) (fun h2 => ?_)
    ·
      refine tc_skip ?_
      refine tq_then ?_
      refine tc_seq ?_
      refine tc_block ?_
      refine tc_rbn [0,0] [(5, I ((i : Int)))] ?_
      refine tc_seq ?_
      obtain ⟨b1, o1, rfl⟩ := RS.addr h_a (k := i) (by omega)
      obtain ⟨x1, hx1⟩ := getX (l := a) (k := i) (by omega)
      obtain ⟨_, ⟨rfl, w1⟩, hc1⟩ := RS.get h_a hx1
      obtain ⟨b2, o2, rfl⟩ := RS.addr h_b (k := i) (by omega)
      obtain ⟨x2, hx2⟩ := getX (l := b) (k := i) (by omega)
      obtain ⟨_, ⟨rfl, w2⟩, hc2⟩ := RS.get h_b hx2
      refine tc_draw [] ?_
      refine dr_V [(0, Sl (At b1 o1) a.length c_a), (1, I ((i : Int))), (2, Pt b1 (o1 + i * 1)), (3, U x1), (4, Sl (At b2 o2) b.length c_b), (5, I ((i : Int))), (6, Pt b2 (o2 + i * 1)), (7, U x2), (8, Bo (!decide (x1 = x2)))] ?_
      refine dr_end [] [(0,0), (1,0), (4,0), (5,0), (8,0)] [2, 3, 6, 7] [(0, Sl (At b1 o1) a.length c_a), (1, Sl (At b2 o2) b.length c_b), (12, I (((a.length : Nat) : Int))), (13, I ((i : Int))), (24, Bo (!decide (x1 = x2)))] (fmc ?_ (fmc ?_ (fmc ?_ (fmc ?_ fm0)))) ?_
      · refine stab_of 2 18 (Pt b1 (o1 + i * 1)) [(16, Sl (At b1 o1) a.length c_a), (17, I ((i : Int)))] (fun X => ?_)
        exact runL_idx (b := b1) (off := o1) (len := a.length) (cap := c_a) (ik := .i64) 18 22 1 i (by omega) stab_end
      · refine stab_of 3 19 (U x1) [(18, Pt b1 (o1 + i * 1))] (fun X => ?_)
        exact runL_ldG 19 22 (cs := [U x1]) 0 (U x1) hc1 stab_end
      · refine stab_of 6 22 (Pt b2 (o2 + i * 1)) [(20, Sl (At b2 o2) b.length c_b), (21, I ((i : Int)))] (fun X => ?_)
        exact runL_idx (b := b2) (off := o2) (len := b.length) (cap := c_b) (ik := .i64) 22 22 1 i (by omega) stab_end
      · refine stab_of 7 23 (U x2) [(22, Pt b2 (o2 + i * 1))] (fun X => ?_)
        exact runL_ldG 23 22 (cs := [U x2]) 0 (U x2) hc2 stab_end
      refine tq_then ?_
      refine tc_condP (!decide (x1 = x2)) (fun h3 => ?_) (fun h3 => ?_)
      ·
        refine tc_rbn [0] [(4, Bo false)] ?_
        refine tc_ret ?_
        refine tq_block_ret ?_
        refine tq_then_ret ?_
        refine tq_rnd_ret ?_
        refine tq_block_ret ?_
        refine tq_then_ret ?_
        refine tq_ret [0] [Bo false] (bp_ret (Mem.le_refl _) (congrArg Bo (?_ : (decide (a = b)) = false).symm))
        first | (rw [decide_eq_false]; intro hh; subst hh; exact absurd rfl h1) | (rw [decide_eq_false]; exact ne_at hx1 hx2 (by simpa using h3)) | (rw [decide_eq_true]; exact takeEq_all (by omega) (by omega) he)
      ·
        refine tc_skip ?_
        refine tq_block ?_
        refine tq_then ?_
        refine tc_region ?_
        refine runL_bn [0,0] [(13, I (IntKind.i64.wrap (((i : Int)) + 1)))] ?_
        refine runL_wi64 13 (((i : Int)) + 1) (by omega) ?_
        refine runL_nil ?_
        exact tq_rnd (i + 1) ⟨(by omega), (takeEq_step he hx1 hx2 (by simpa using h3))⟩ (by (try dsimp only); omega)
    ·
      refine tc_exit ?_
      refine tq_then_exit ?_
      refine tq_rnd_exit ?_
      refine tq_block_here ?_
      refine tq_then ?_
      refine tc_rbn [0] [(4, Bo true)] ?_
      refine tc_ret ?_
      refine tq_ret [0] [Bo true] (bp_ret (Mem.le_refl _) (congrArg Bo (?_ : (decide (a = b)) = true).symm))
      first | (rw [decide_eq_false]; intro hh; subst hh; exact absurd rfl h1) | (rw [decide_eq_false]; exact ne_at hx1 hx2 (by simpa using h3)) | (rw [decide_eq_true]; exact takeEq_all (by omega) (by omega) he)

theorem sameB_con (G : Mem) (a_a : Option Addr) (c_a : Nat) (a : List EntD) (h_a : RS EEnt G a_a c_a a) (a_b : Option Addr) (c_b : Nat) (b : List EntD) (h_b : RS EEnt G a_b c_b b)  : ConV 35 #[Sl a_a a.length c_a, Sl a_b b.length c_b] G (Bo (decide (a = b))) := by
  refine con_of Tryz.func35 26 [(0, Sl a_a a.length c_a), (1, Sl a_b b.length c_b)] rfl (fun w0 G0 => ?_)
  refine tc_rbn [0] [] ?_
  refine tc_seq ?_
  refine tc_rbn [0,0,0,0,0] [(10, Bo (!decide (((a.length : Nat) : Int) = ((b.length : Nat) : Int))))] ?_
  refine tc_condP (!decide (((a.length : Nat) : Int) = ((b.length : Nat) : Int))) (fun h1 => ?_) (fun h1 => ?_)
  ·
    refine tc_rbn [0] [(4, Bo false)] ?_
    refine tc_ret ?_
    refine tq_then_ret ?_
    refine tq_ret [0] [Bo false] (bp_ret (Mem.le_refl _) (congrArg Bo (?_ : (decide (a = b)) = false).symm))
    first | (rw [decide_eq_false]; intro hh; subst hh; exact absurd rfl h1) | (rw [decide_eq_false]; exact ne_at hx1 hx2 (by rw [EntD_ne]; simp_all)) | (rw [decide_eq_true]; exact takeEq_all (by omega) (by omega) he)
  ·
    refine tc_skip ?_
    refine tq_then ?_
    refine tc_seq ?_
    refine tc_rbn [0,0,0] [(12, I (((a.length : Nat) : Int))), (13, I 0)] ?_
    refine tc_block ?_
    have hlm_h_a : a.length ≤ 9223372036854775807 := Nat.le_trans (h_a).le (h_a).max
    have hlm_h_b : b.length ≤ 9223372036854775807 := Nat.le_trans (h_b).le (h_b).max
    refine tc_loop (σ := Nat) (fun q_ => (q_ ≤ a.length) ∧ (a.take q_ = b.take q_)) (fun q_ => [(0, Sl a_a a.length c_a), (1, Sl a_b b.length c_b), (12, I (((a.length : Nat) : Int))), (13, I ((q_ : Int)))]) (fun q_ => G) (fun q_ => []) (fun q_ => a.length - q_) 0 ⟨(by (try dsimp only); first | exact Nat.zero_le _ | omega | simp), rfl⟩ (fun q_ hs => ?_)
    revert hs; revert q_; intro i hs
    obtain ⟨hi, he⟩ := hs
    refine tc_eq (fr' := [(0, Sl a_a a.length c_a), (1, Sl a_b b.length c_b), (12, I (((a.length : Nat) : Int))), (13, I ((i : Int)))]) (L' := []) rfl rfl ?_
    refine tc_rbn [0] [(14, Bo (decide ((i : Int) < ((a.length : Nat) : Int))))] ?_
    refine tc_seq ?_
    refine tc_condP (decide ((i : Int) < ((a.length : Nat) : Int))) (fun h2 => ?_) (fun h2 => ?_)
    ·
      refine tc_skip ?_
      refine tq_then ?_
      refine tc_seq ?_
      refine tc_block ?_
      refine tc_rbn [0,0] [(5, I ((i : Int)))] ?_
      refine tc_seq ?_
      obtain ⟨b1, o1, rfl⟩ := RS.addr h_a (k := i) (by omega)
      obtain ⟨x1, hx1⟩ := getX (l := a) (k := i) (by omega)
      obtain ⟨_, ⟨rfl, w1, w2⟩, hc1⟩ := RS.get h_a hx1
      obtain ⟨b2, o2, rfl⟩ := RS.addr h_b (k := i) (by omega)
      obtain ⟨x2, hx2⟩ := getX (l := b) (k := i) (by omega)
      obtain ⟨_, ⟨rfl, w3, w4⟩, hc2⟩ := RS.get h_b hx2
      refine tc_draw [] ?_
      refine dr_V [(0, Sl (At b1 o1) a.length c_a), (1, I ((i : Int))), (2, Pt b1 (o1 + i * 2)), (3, .agg #[Sr x1.name, Sr x1.value]), (4, Sl (At b2 o2) b.length c_b), (5, I ((i : Int))), (6, Pt b2 (o2 + i * 2)), (7, .agg #[Sr x2.name, Sr x2.value]), (8, Bo (!((x1.name == x2.name) && (x1.value == x2.value))))] ?_
      refine dr_end [] [(0,0), (1,0), (4,0), (5,0)] [2, 3, 6, 7, 8] [(0, Sl (At b1 o1) a.length c_a), (1, Sl (At b2 o2) b.length c_b), (12, I (((a.length : Nat) : Int))), (13, I ((i : Int))), (24, Bo (!((x1.name == x2.name) && (x1.value == x2.value))))] (fmc ?_ (fmc ?_ (fmc ?_ (fmc ?_ (fmc ?_ fm0))))) ?_
      · refine stab_of 2 18 (Pt b1 (o1 + i * 2)) [(16, Sl (At b1 o1) a.length c_a), (17, I ((i : Int)))] (fun X => ?_)
        exact runL_idx (b := b1) (off := o1) (len := a.length) (cap := c_a) (ik := .i64) 18 58 2 i (by omega) stab_end
      · refine stab_of 3 19 (.agg #[Sr x1.name, Sr x1.value]) [(18, Pt b1 (o1 + i * 2))] (fun X => ?_)
        exact runL_ldG 19 58 (cs := [Sr x1.name, Sr x1.value]) 0 (.agg #[Sr x1.name, Sr x1.value]) hc1 stab_end
      · refine stab_of 6 22 (Pt b2 (o2 + i * 2)) [(20, Sl (At b2 o2) b.length c_b), (21, I ((i : Int)))] (fun X => ?_)
        exact runL_idx (b := b2) (off := o2) (len := b.length) (cap := c_b) (ik := .i64) 22 58 2 i (by omega) stab_end
      · refine stab_of 7 23 (.agg #[Sr x2.name, Sr x2.value]) [(22, Pt b2 (o2 + i * 2))] (fun X => ?_)
        exact runL_ldG 23 58 (cs := [Sr x2.name, Sr x2.value]) 0 (.agg #[Sr x2.name, Sr x2.value]) hc2 stab_end
      · refine stab_of 8 24 (Bo (!((x1.name == x2.name) && (x1.value == x2.value)))) [(19, .agg #[Sr x1.name, Sr x1.value]), (23, .agg #[Sr x2.name, Sr x2.value])] (fun X => ?_)
        exact runL_eqv 24 (Bo (!((((B x1.name).toList == (B x2.name).toList) && (((B x1.value).toList == (B x2.value).toList) && true))))) (Bo (!((x1.name == x2.name) && (x1.value == x2.value)))) (by simp [B_toList, Bool.and_assoc]) stab_end
      refine tq_then ?_
      refine tc_condP (!((x1.name == x2.name) && (x1.value == x2.value))) (fun h3 => ?_) (fun h3 => ?_)
      ·
        refine tc_rbn [0] [(4, Bo false)] ?_
        refine tc_ret ?_
        refine tq_block_ret ?_
        refine tq_then_ret ?_
        refine tq_rnd_ret ?_
        refine tq_block_ret ?_
        refine tq_then_ret ?_
        refine tq_ret [0] [Bo false] (bp_ret (Mem.le_refl _) (congrArg Bo (?_ : (decide (a = b)) = false).symm))
        first | (rw [decide_eq_false]; intro hh; subst hh; exact absurd rfl h1) | (rw [decide_eq_false]; exact ne_at hx1 hx2 (by rw [EntD_ne]; simp_all)) | (rw [decide_eq_true]; exact takeEq_all (by omega) (by omega) he)
      ·
        refine tc_skip ?_
        refine tq_block ?_
        refine tq_then ?_
        refine tc_region ?_
        refine runL_bn [0,0] [(13, I (IntKind.i64.wrap (((i : Int)) + 1)))] ?_
        refine runL_wi64 13 (((i : Int)) + 1) (by omega) ?_
        refine runL_nil ?_
        exact tq_rnd (i + 1) ⟨(by omega), (takeEq_step he hx1 hx2 (by first | (rw [EntD_ne]; simp_all; done) | simpa using h3))⟩ (by (try dsimp only); omega)
    ·
      refine tc_exit ?_
      refine tq_then_exit ?_
      refine tq_rnd_exit ?_
      refine tq_block_here ?_
      refine tq_then ?_
      refine tc_rbn [0] [(4, Bo true)] ?_
      refine tc_ret ?_
      refine tq_ret [0] [Bo true] (bp_ret (Mem.le_refl _) (congrArg Bo (?_ : (decide (a = b)) = true).symm))
      first | (rw [decide_eq_false]; intro hh; subst hh; exact absurd rfl h1) | (rw [decide_eq_false]; exact ne_at hx1 hx2 (by rw [EntD_ne]; simp_all)) | (rw [decide_eq_true]; exact takeEq_all (by omega) (by omega) he)

theorem sameP_con (G : Mem) (vs_a : List Value) (a : ProofD) (h_a : EProof.R G vs_a a) (vs_b : List Value) (b : ProofD) (h_b : EProof.R G vs_b b)  : ConV 20 #[.agg vs_a.toArray, .agg vs_b.toArray] G (Bo (decide (a = b))) := by
  obtain ⟨a1, c1, a2, c2, rfl, w1, hs1, hs2⟩ := h_a
  obtain ⟨a3, c3, a4, c4, rfl, w2, hs3, hs4⟩ := h_b
  refine con_of Tryz.func20 24 [(0, .agg #[Sr a.name, Sl a1 a.entries.length c1, Sl a2 a.sides.length c2]), (1, .agg #[Sr b.name, Sl a3 b.entries.length c3, Sl a4 b.sides.length c4])] rfl (fun w0 G0 => ?_)
  refine tc_seq ?_
  refine tc_region ?_
  refine runL_box 2 #[Sr a.name, Sl a1 a.entries.length c1, Sl a2 a.sides.length c2] 28 (fun b1 => ?_)
  refine runL_box 3 #[Sr b.name, Sl a3 b.entries.length c3, Sl a4 b.sides.length c4] 28 (fun b2 => ?_)
  refine runL_bn [0] [] ?_
  refine runL_nil ?_
  refine tq_then ?_
  refine tc_seq ?_
  refine tc_region ?_
  refine runL_bn [0,4,0,2,0,0] [(10, Bo (((B a.name).toList == (B b.name).toList)))] ?_
  refine runL_put 10 (Bo ((a.name == b.name))) ((show (Bo (((B a.name).toList == (B b.name).toList)) : Value) = Bo ((a.name == b.name)) by simp only [B_toList])) ?_
  refine runL_casesT [10] ((a.name == b.name)) (fun h1 => ?_) (fun h1 => ?_)
  ·
    refine runL_bn [0,4,0,2] [(12, Sl a1 a.entries.length c1), (14, Sl a3 b.entries.length c3)] ?_
    refine runL_callV 15 (Bo (decide (a.entries = b.entries))) (sameB_con G a1 c1 a.entries hs1 a3 c3 b.entries hs3) ?_
    refine runL_bn [0,0] [(17, Bo (decide (a.entries = b.entries)))] ?_
    refine runL_casesT [17] (decide (a.entries = b.entries)) (fun h2 => ?_) (fun h2 => ?_)
    ·
      refine runL_bn [0,4,0,2] [(19, Sl a2 a.sides.length c2), (21, Sl a4 b.sides.length c4)] ?_
      refine runL_callV 22 (Bo (decide (a.sides = b.sides))) (sameM_con G a2 c2 a.sides hs2 a4 c4 b.sides hs4) ?_
      refine runL_bn [0,0] [(4, Bo (decide (a.sides = b.sides)))] ?_
      refine runL_nil ?_
      refine tq_then ?_
      refine tc_ret ?_
      refine tq_ret [0] [Bo (decide (a.sides = b.sides))] (bp_ret (Mem.le_refl _) (congrArg Bo (?_ : (decide (a = b)) = (decide (a.sides = b.sides))).symm))
      rw [Bool.eq_iff_iff]; simp [ProofD_ne]; try grind
    ·
      refine runL_bn [1,1,1,1,1,0,0] [(4, Bo false)] ?_
      refine runL_nil ?_
      refine tq_then ?_
      refine tc_ret ?_
      refine tq_ret [0] [Bo false] (bp_ret (Mem.le_refl _) (congrArg Bo (?_ : (decide (a = b)) = false).symm))
      rw [Bool.eq_iff_iff]; simp [ProofD_ne]; try grind
  ·
    refine runL_bn [1,1,1,1,1,0,0,1,1,1,1,1,0,0] [(4, Bo false)] ?_
    refine runL_nil ?_
    refine tq_then ?_
    refine tc_ret ?_
    refine tq_ret [0] [Bo false] (bp_ret (Mem.le_refl _) (congrArg Bo (?_ : (decide (a = b)) = false).symm))
    rw [Bool.eq_iff_iff]; simp [ProofD_ne]; try grind

theorem sameR_con (G : Mem) (vs_a : List Value) (a : ReplyD) (h_a : EReply.R G vs_a a) (vs_b : List Value) (b : ReplyD) (h_b : EReply.R G vs_b b)  : ConV 8 #[.agg vs_a.toArray, .agg vs_b.toArray] G (Bo (decide (a = b))) := by
  obtain ⟨a1, c1, a2, c2, rfl, w1, w2, w3, w4, w5, hs1, hs2⟩ := h_a
  obtain ⟨a3, c3, a4, c4, rfl, w6, w7, w8, w9, w10, hs3, hs4⟩ := h_b
  refine con_of Tryz.func8 17 [(0, .agg #[I a.head.epoch, U a.head.root, U a.head.prev, I a.head.at_, Sr a.proof.name, Sl a1 a.proof.entries.length c1, Sl a2 a.proof.sides.length c2]), (1, .agg #[I b.head.epoch, U b.head.root, U b.head.prev, I b.head.at_, Sr b.proof.name, Sl a3 b.proof.entries.length c3, Sl a4 b.proof.sides.length c4])] rfl (fun w0 G0 => ?_)
  refine tc_seq ?_
  refine tc_region ?_
  refine runL_box 2 #[I a.head.epoch, U a.head.root, U a.head.prev, I a.head.at_, Sr a.proof.name, Sl a1 a.proof.entries.length c1, Sl a2 a.proof.sides.length c2] 30 (fun b1 => ?_)
  refine runL_box 3 #[I b.head.epoch, U b.head.root, U b.head.prev, I b.head.at_, Sr b.proof.name, Sl a3 b.proof.entries.length c3, Sl a4 b.proof.sides.length c4] 30 (fun b2 => ?_)
  refine runL_bn [0] [] ?_
  refine runL_nil ?_
  refine tq_then ?_
  refine tc_seq ?_
  refine tc_region ?_
  refine runL_bn [0,4,0,2] [(6, .agg #[I a.head.epoch, U a.head.root, U a.head.prev, I a.head.at_]), (8, .agg #[I b.head.epoch, U b.head.root, U b.head.prev, I b.head.at_])] ?_
  refine runL_eqv 9 (Bo ((decide (a.head.epoch = b.head.epoch) && (decide (a.head.root = b.head.root) && (decide (a.head.prev = b.head.prev) && (decide (a.head.at_ = b.head.at_) && true)))))) (Bo (decide (a.head.epoch = b.head.epoch) && decide (a.head.root = b.head.root) && decide (a.head.prev = b.head.prev) && decide (a.head.at_ = b.head.at_))) (by simp [B_toList, Bool.and_assoc]) ?_
  refine runL_bn [0] [(10, Bo (decide (a.head.epoch = b.head.epoch) && decide (a.head.root = b.head.root) && decide (a.head.prev = b.head.prev) && decide (a.head.at_ = b.head.at_)))] ?_
  refine runL_casesT [10] (decide (a.head.epoch = b.head.epoch) && decide (a.head.root = b.head.root) && decide (a.head.prev = b.head.prev) && decide (a.head.at_ = b.head.at_)) (fun h1 => ?_) (fun h1 => ?_)
  ·
    refine runL_bn [0,4,0,2] [(12, .agg #[Sr a.proof.name, Sl a1 a.proof.entries.length c1, Sl a2 a.proof.sides.length c2]), (14, .agg #[Sr b.proof.name, Sl a3 b.proof.entries.length c3, Sl a4 b.proof.sides.length c4])] ?_
    refine runL_callV 15 (Bo (decide (a.proof = b.proof))) (sameP_con G [Sr a.proof.name, Sl a1 a.proof.entries.length c1, Sl a2 a.proof.sides.length c2] a.proof (⟨a1, c1, a2, c2, rfl, w5, hs1, hs2⟩) [Sr b.proof.name, Sl a3 b.proof.entries.length c3, Sl a4 b.proof.sides.length c4] b.proof (⟨a3, c3, a4, c4, rfl, w10, hs3, hs4⟩)) ?_
    refine runL_bn [0,0] [(4, Bo (decide (a.proof = b.proof)))] ?_
    refine runL_nil ?_
    refine tq_then ?_
    refine tc_ret ?_
    refine tq_ret [0] [Bo (decide (a.proof = b.proof))] (bp_ret (Mem.le_refl _) (congrArg Bo (?_ : (decide (a = b)) = (decide (a.proof = b.proof))).symm))
    rw [Bool.eq_iff_iff]; simp [ReplyD_ne, ProofD_ne]; try grind
  ·
    refine runL_bn [1,1,1,1,1,0,0] [(4, Bo false)] ?_
    refine runL_nil ?_
    refine tq_then ?_
    refine tc_ret ?_
    refine tq_ret [0] [Bo false] (bp_ret (Mem.le_refl _) (congrArg Bo (?_ : (decide (a = b)) = false).symm))
    rw [Bool.eq_iff_iff]; simp [ReplyD_ne, ProofD_ne]; try grind

theorem rsSaid_con (G : Mem) (vs_r : List Value) (r : ReplyD) (h_r : EReply.R G vs_r r) (hk : (serveTell r).2.2 = 0) : ConP 18 #[.agg vs_r.toArray] G [] (fun u G' L' => u = .tuple #[Sr ((rsSaid r).1), I ((rsSaid r).2)] ∧ (((rsSaid r).1).length ≤ 140737488351232) ∧ L' = []) := by
  obtain ⟨a1, c1, a2, c2, rfl, w1, w2, w3, w4, w5, hs1, hs2⟩ := h_r
  refine con_of Tryz.func18 67 [(0, .agg #[I r.head.epoch, U r.head.root, U r.head.prev, I r.head.at_, Sr r.proof.name, Sl a1 r.proof.entries.length c1, Sl a2 r.proof.sides.length c2])] rfl (fun w0 G0 => ?_)
  refine tc_seq ?_
  refine tc_region ?_
  refine runL_box 1 #[I r.head.epoch, U r.head.root, U r.head.prev, I r.head.at_, Sr r.proof.name, Sl a1 r.proof.entries.length c1, Sl a2 r.proof.sides.length c2] 30 (fun b1 => ?_)
  refine runL_bn [0,0] [] ?_
  refine runL_nil ?_
  refine tq_then ?_
  refine tc_seq ?_
  refine tc_region ?_
  refine runL_bn [0,2] [(16, .agg #[I r.head.epoch, U r.head.root, U r.head.prev, I r.head.at_])] ?_
  refine runL_callV 17 (.tuple #[Sr ((headSaid r.head).1), I ((headSaid r.head).2)]) (headSaid_con r.head G) ?_
  refine runL_bn [0,0,0,0,0] [(4, Sr ((headSaid r.head).1))] ?_
  refine runL_nil ?_
  refine tq_then ?_
  refine tc_rbn [0] [(6, Sr ([]))] ?_
  refine tc_seq ?_
  refine tc_rbn [0,0,2,0,0] [(22, Sl a2 r.proof.sides.length c2), (23, I (((r.proof.sides.length : Nat) : Int))), (24, I 0)] ?_
  refine tc_block ?_
  have hlm_hs2 : r.proof.sides.length ≤ 9223372036854775807 := Nat.le_trans (hs2).le (hs2).max
  refine tc_loop (σ := Nat × List UInt8) (fun q_ => (q_.1 ≤ r.proof.sides.length) ∧ (q_.2 = rsSides (r.proof.sides.take q_.1))) (fun q_ => [(1, Pt b1 0), (4, Sr ((headSaid r.head).1)), (6, Sr q_.2), (22, Sl a2 r.proof.sides.length c2), (23, I (((r.proof.sides.length : Nat) : Int))), (24, I ((q_.1 : Int)))]) (fun q_ => G) (fun q_ => [[Sg b1 0 [I r.head.epoch, U r.head.root, U r.head.prev, I r.head.at_, Sr r.proof.name, Sl a1 r.proof.entries.length c1, Sl a2 r.proof.sides.length c2]]]) (fun q_ => r.proof.sides.length - q_.1) ((0, [])) ⟨(by (try dsimp only); first | exact Nat.zero_le _ | omega | simp), rfl⟩ (fun q_ hs => ?_)
  obtain ⟨k, sd⟩ := q_
  obtain ⟨hi, hsd⟩ := hs
  dsimp only at hi hsd
  refine tc_eq (fr' := [(1, Pt b1 0), (4, Sr ((headSaid r.head).1)), (6, Sr sd), (22, Sl a2 r.proof.sides.length c2), (23, I (((r.proof.sides.length : Nat) : Int))), (24, I ((k : Int)))]) (L' := [[Sg b1 0 [I r.head.epoch, U r.head.root, U r.head.prev, I r.head.at_, Sr r.proof.name, Sl a1 r.proof.entries.length c1, Sl a2 r.proof.sides.length c2]]]) rfl rfl ?_
  refine tc_rbn [0] [(25, Bo (decide ((k : Int) < ((r.proof.sides.length : Nat) : Int))))] ?_
  refine tc_seq ?_
  refine tc_condP (decide ((k : Int) < ((r.proof.sides.length : Nat) : Int))) (fun h1 => ?_) (fun h1 => ?_)
  ·
    refine tc_skip ?_
    refine tq_then ?_
    refine tc_seq ?_
    refine tc_block ?_
    refine tc_seq ?_
    refine tc_region ?_
    obtain ⟨b2, o1, rfl⟩ := RS.addr hs2 (k := k) (by first | omega | (obtain ⟨q1_, q2_⟩ := rs_ok hk; have q3_ := q2_.sides; have q4_ := q2_.ents.len; omega))
    obtain ⟨x1, hx1⟩ := getX (l := r.proof.sides) (k := k) (by first | omega | (obtain ⟨q1_, q2_⟩ := rs_ok hk; have q3_ := q2_.sides; have q4_ := q2_.ents.len; omega))
    obtain ⟨_, ⟨rfl, w6⟩, hc1⟩ := RS.get hs2 hx1
    refine runL_idx (b := b2) (off := o1) (len := r.proof.sides.length) (cap := c2) (ik := .i64) 26 22 1 k (by first | omega | (obtain ⟨q1_, q2_⟩ := rs_ok hk; have q3_ := q2_.sides; have q4_ := q2_.ents.len; omega)) ?_
    refine runL_ldG 27 22 (cs := [U x1]) 0 (U x1) hc1 ?_
    refine runL_bn [0] [(8, U x1)] ?_
    refine runL_nil ?_
    refine tq_then ?_
    refine tc_region ?_
    refine runL_bn [0,0] [(28, Sr sd), (29, U x1)] ?_
    refine runL_callV 30 (Sr (numB x1)) (num_con x1 G) ?_
    refine runL_cat 31 sd (numB x1) (by have q0_ := congrArg List.length hsd; rw [rsSides_len, List.length_take] at q0_; obtain ⟨q1_, q2_⟩ := rs_ok hk; have q3_ := q2_.sides; have q4_ := q2_.ents.len; simp only [numB_length]; omega) ?_
    refine runL_bn [0] [(6, Sr (sd ++ (numB x1)))] ?_
    refine runL_nil ?_
    refine tq_block ?_
    refine tq_then ?_
    refine tc_region ?_
    refine runL_bn [0,0] [(24, I (IntKind.i64.wrap (((k : Int)) + 1)))] ?_
    refine runL_wi64 24 (((k : Int)) + 1) (by first | omega | (obtain ⟨q1_, q2_⟩ := rs_ok hk; have q3_ := q2_.sides; have q4_ := q2_.ents.len; omega)) ?_
    refine runL_nil ?_
    exact tq_rnd ((k + 1, sd ++ (numB x1))) ⟨(by omega), (by rw [hsd]; exact rsSides_snoc hx1)⟩ (by (try dsimp only); omega)
  ·
    refine tc_exit ?_
    refine tq_then_exit ?_
    refine tq_rnd_exit ?_
    refine tq_block_here ?_
    refine tq_then ?_
    refine tc_rbn [0] [(9, Sl none 0 0)] ?_
    refine tc_seq ?_
    refine tc_rbn [0,0,2,0,0] [(35, Sl a1 r.proof.entries.length c1), (36, I (((r.proof.entries.length : Nat) : Int))), (37, I 0)] ?_
    refine tc_block ?_
    refine tc_empty ?_
    have hlm_hs1 : r.proof.entries.length ≤ 9223372036854775807 := Nat.le_trans (hs1).le (hs1).max
    refine tc_loop (σ := Nat × Option Addr × Nat × List Seg × List ((List UInt8)) × Mem) (fun q_ => (Mem.le G q_.2.2.2.2.2) ∧ (q_.1 ≤ r.proof.entries.length) ∧ (TRow ES q_.2.2.2.2.2 q_.2.1 q_.2.2.1 q_.2.2.2.2.1 q_.2.2.2.1) ∧ (q_.2.2.2.2.1 = rsParts (r.proof.entries.take q_.1))) (fun q_ => [(1, Pt b1 0), (4, Sr ((headSaid r.head).1)), (6, Sr sd), (9, Sl q_.2.1 q_.2.2.2.2.1.length q_.2.2.1), (35, Sl a1 r.proof.entries.length c1), (36, I (((r.proof.entries.length : Nat) : Int))), (37, I ((q_.1 : Int)))]) (fun q_ => q_.2.2.2.2.2) (fun q_ => [q_.2.2.2.1, [Sg b1 0 [I r.head.epoch, U r.head.root, U r.head.prev, I r.head.at_, Sr r.proof.name, Sl a1 r.proof.entries.length c1, Sl a2 r.proof.sides.length c2]]]) (fun q_ => r.proof.entries.length - q_.1) ((0, none, 0, [], [], G)) ⟨(Mem.le_refl _), (by (try dsimp only); first | exact Nat.zero_le _ | omega | simp), (TRow.none ES _), rfl⟩ (fun q_ hs => ?_)
    obtain ⟨i, ap, cp, rp, xp, g⟩ := q_
    obtain ⟨hle, hi, hrp, hxp⟩ := hs
    dsimp only at hle hi hrp hxp
    refine tc_eq (fr' := [(1, Pt b1 0), (4, Sr ((headSaid r.head).1)), (6, Sr sd), (9, Sl ap xp.length cp), (35, Sl a1 r.proof.entries.length c1), (36, I (((r.proof.entries.length : Nat) : Int))), (37, I ((i : Int)))]) (L' := [rp, [Sg b1 0 [I r.head.epoch, U r.head.root, U r.head.prev, I r.head.at_, Sr r.proof.name, Sl a1 r.proof.entries.length c1, Sl a2 r.proof.sides.length c2]]]) rfl rfl ?_
    refine tc_rbn [0] [(38, Bo (decide ((i : Int) < ((r.proof.entries.length : Nat) : Int))))] ?_
    refine tc_seq ?_
    refine tc_condP (decide ((i : Int) < ((r.proof.entries.length : Nat) : Int))) (fun h2 => ?_) (fun h2 => ?_)
    ·
      refine tc_skip ?_
      refine tq_then ?_
      refine tc_seq ?_
      refine tc_block ?_
      refine tc_seq ?_
      refine tc_region ?_
      obtain ⟨b3, o2, rfl⟩ := RS.addr (hs1.mono hle) (k := i) (by first | omega | (obtain ⟨q1_, q2_⟩ := rs_ok hk; have q3_ := q2_.sides; have q4_ := q2_.ents.len; omega))
      obtain ⟨x2, hx2⟩ := getX (l := r.proof.entries) (k := i) (by first | omega | (obtain ⟨q1_, q2_⟩ := rs_ok hk; have q3_ := q2_.sides; have q4_ := q2_.ents.len; omega))
      obtain ⟨_, ⟨rfl, w7, w8⟩, hc2⟩ := RS.get (hs1.mono hle) hx2
      refine runL_idx (b := b3) (off := o2) (len := r.proof.entries.length) (cap := c1) (ik := .i64) 39 58 2 i (by first | omega | (obtain ⟨q1_, q2_⟩ := rs_ok hk; have q3_ := q2_.sides; have q4_ := q2_.ents.len; omega)) ?_
      refine runL_ldG 40 58 (cs := [Sr x2.name, Sr x2.value]) 0 (.agg #[Sr x2.name, Sr x2.value]) hc2 ?_
      refine runL_box 11 #[Sr ([]), Sr ([])] 58 (fun b4 => ?_)
      refine runL_bsn [3] [] [[Sg b4 0 [Sr x2.name, Sr x2.value]], rp, [Sg b1 0 [I r.head.epoch, U r.head.root, U r.head.prev, I r.head.at_, Sr r.proof.name, Sl (At b3 o2) r.proof.entries.length c1, Sl a2 r.proof.sides.length c2]]] ?_
      refine runL_nil ?_
      refine tq_then ?_
      refine tc_region ?_
      refine runL_bn [0,0,2,0,2] [(41, Sl ap xp.length cp), (43, Sr x2.name), (45, Sr x2.value)] ?_
      refine runL_bsl 46 2 #[Sr x2.name, Sr x2.value] 9 (fun b5 => ?_)
      refine runL_frz1 (b := b5) (o := 0) (cs := [Sr x2.name, Sr x2.value]) 0 (fun G1 hl1 hz1 => ?_)
      have hs3 : RS ES G1 (At b5 0) 2 [x2.name, x2.value] := RS.lit [[Sr x2.name], [Sr x2.value]] [x2.name, x2.value] ⟨⟨rfl, w7⟩, ⟨⟨rfl, w8⟩, trivial⟩⟩ hz1 (Nat.le_of_ble_eq_true rfl) (Nat.le_of_ble_eq_true rfl)
      refine runL_app' 47 9 2 (E := ES) (hrp.mono hl1) hs3 (by have q0_ := congrArg List.length hxp; rw [rsParts_len, List.length_take] at q0_; obtain ⟨q1_, q2_⟩ := rs_ok hk; have q3_ := q2_.sides; have q4_ := q2_.ents.len; (try simp only [ES, List.length_append, List.length_cons, List.length_nil]); omega) (by have q0_ := congrArg List.length hxp; rw [rsParts_len, List.length_take] at q0_; obtain ⟨q1_, q2_⟩ := rs_ok hk; have q3_ := q2_.sides; have q4_ := q2_.ents.len; (try simp only [ES, List.length_append, List.length_cons, List.length_nil]); omega) (fun a3 c3 r1 hr1 => ?_)
      refine runL_bn [0] [(9, Sl a3 ((xp ++ ([x2.name, x2.value])).length) c3)] ?_
      refine runL_nil ?_
      refine tq_block ?_
      refine tq_then ?_
      refine tc_region ?_
      refine runL_bn [0,0] [(37, I (IntKind.i64.wrap (((i : Int)) + 1)))] ?_
      refine runL_wi64 37 (((i : Int)) + 1) (by first | omega | (obtain ⟨q1_, q2_⟩ := rs_ok hk; have q3_ := q2_.sides; have q4_ := q2_.ents.len; omega)) ?_
      refine runL_nil ?_
      refine tq_ownsA [r1, [Sg b1 0 [I r.head.epoch, U r.head.root, U r.head.prev, I r.head.at_, Sr r.proof.name, Sl (At b3 o2) r.proof.entries.length c1, Sl a2 r.proof.sides.length c2]]] ?_
      exact tq_rnd ((i + 1, a3, c3, r1, xp ++ ([x2.name, x2.value]), G1)) ⟨(Mem.le_trans hle hl1), (by omega), hr1, (by (try dsimp only); rw [hxp]; exact rsParts_snoc hx2)⟩ (by (try dsimp only); omega)
    ·
      refine tc_exit ?_
      refine tq_then_exit ?_
      refine tq_rnd_exit ?_
      refine tq_block_here ?_
      refine tq_then ?_
      refine tc_seq ?_
      refine tc_region ?_
      refine runL_bn [0] [(50, Sl ap xp.length cp)] ?_
      refine runL_frzR (E := ES) 0 hrp (by have q0_ := congrArg List.length hxp; rw [rsParts_len, List.length_take] at q0_; obtain ⟨q1_, q2_⟩ := rs_ok hk; have q3_ := q2_.sides; have q4_ := q2_.ents.len; (try simp only [ES, List.length_append, List.length_cons, List.length_nil]); omega) (fun G2 hl2 hs4 => ?_)
      refine runL_callV 51 (.tuple #[Sr ((wPut xp).1), I ((wPut xp).2)]) (wPut_con G2 ap cp xp hs4) ?_
      refine runL_bn [0,0,0,0,0] [(12, Sr ((wPut xp).1)), (13, I ((wPut xp).2))] ?_
      refine runL_nil ?_
      refine tq_then ?_
      refine tc_seq ?_
      refine tc_rbn [0,0] [(55, Bo (!decide ((wPut xp).2 = 0)))] ?_
      refine tc_condP (!decide ((wPut xp).2 = 0)) (fun h3 => ?_) (fun h3 => ?_)
      ·
        refine tc_rbn [0,0,0] [(2, Sr ([])), (3, I ((wPut xp).2))] ?_
        refine tc_ret ?_
        refine tq_then_ret ?_
        have hf1 : rsSaid r = ([], (wPut xp).2) := by
          (have t1_ : r.proof.entries.take i = r.proof.entries := List.take_of_length_le (by omega)); (have t2_ : r.proof.sides.take k = r.proof.sides := List.take_of_length_le (by omega)); rw [t1_] at hxp; rw [t2_] at hsd; subst hxp; subst hsd; unfold rsSaid; first | (rw [if_pos (by assumption)]; done) | (rw [if_neg (by rw [Decidable.not_not]; assumption)]; done)
        refine tq_ret [0, 0] [Sr ([]), I ((wPut xp).2)] (bp_rowsA [] (Mem.le_trans hle hl2) ?_)
        rw [hf1]
        try dsimp only
        exact ⟨rfl, (Nat.le_of_ble_eq_true rfl), rfl⟩
      ·
        refine tc_skip ?_
        refine tq_then ?_
        refine tc_seq ?_
        refine tc_region ?_
        refine runL_bn [0,0,0,4,0,0] [(57, Sr ((headSaid r.head).1)), (60, Sr r.proof.name), (61, Sr sd), (62, Sr ((wPut xp).1))] ?_
        refine runL_bsl 63 4 #[Sr ((headSaid r.head).1), Sr r.proof.name, Sr sd, Sr ((wPut xp).1)] 9 (fun b6 => ?_)
        refine runL_frz1 (b := b6) (o := 0) (cs := [Sr ((headSaid r.head).1), Sr r.proof.name, Sr sd, Sr ((wPut xp).1)]) 0 (fun G3 hl3 hz2 => ?_)
        have hs5 : RS ES G3 (At b6 0) 4 [(headSaid r.head).1, r.proof.name, sd, (wPut xp).1] := RS.lit [[Sr ((headSaid r.head).1)], [Sr r.proof.name], [Sr sd], [Sr ((wPut xp).1)]] [(headSaid r.head).1, r.proof.name, sd, (wPut xp).1] ⟨⟨rfl, (Nat.le_trans (headSaid_len _) (by decide))⟩, ⟨⟨rfl, w5⟩, ⟨⟨rfl, (by have q0_ := congrArg List.length hsd; rw [rsSides_len, List.length_take] at q0_; obtain ⟨q1_, q2_⟩ := rs_ok hk; have q3_ := q2_.sides; omega)⟩, ⟨⟨rfl, (by first | assumption | (refine Nat.le_trans (wPut_len _) ?_; decide) | (refine Nat.le_trans (rsSaid_len _) ?_; decide) | (refine Nat.le_trans (serveSaid_len _) ?_; decide))⟩, trivial⟩⟩⟩⟩ hz2 (Nat.le_of_ble_eq_true rfl) (Nat.le_of_ble_eq_true rfl)
        refine runL_callV 64 (.tuple #[Sr ((wPut ([(headSaid r.head).1, r.proof.name, sd, (wPut xp).1])).1), I ((wPut ([(headSaid r.head).1, r.proof.name, sd, (wPut xp).1])).2)]) (wPut_con G3 (At b6 0) 4 ([(headSaid r.head).1, r.proof.name, sd, (wPut xp).1]) hs5) ?_
        refine runL_bn [0,0,0,0] [(2, Sr ((wPut ([(headSaid r.head).1, r.proof.name, sd, (wPut xp).1])).1)), (3, I ((wPut ([(headSaid r.head).1, r.proof.name, sd, (wPut xp).1])).2))] ?_
        refine runL_nil ?_
        refine tq_then ?_
        refine tc_ret ?_
        have hf2 : rsSaid r = ((wPut ([(headSaid r.head).1, r.proof.name, sd, (wPut xp).1])).1, (wPut ([(headSaid r.head).1, r.proof.name, sd, (wPut xp).1])).2) := by
          (have t1_ : r.proof.entries.take i = r.proof.entries := List.take_of_length_le (by omega)); (have t2_ : r.proof.sides.take k = r.proof.sides := List.take_of_length_le (by omega)); rw [t1_] at hxp; rw [t2_] at hsd; subst hxp; subst hsd; unfold rsSaid; first | (rw [if_pos (by assumption)]; done) | (rw [if_neg (by rw [Decidable.not_not]; assumption)]; done)
        refine tq_ret [0, 0] [Sr ((wPut ([(headSaid r.head).1, r.proof.name, sd, (wPut xp).1])).1), I ((wPut ([(headSaid r.head).1, r.proof.name, sd, (wPut xp).1])).2)] (bp_rowsA [] (Mem.le_trans (Mem.le_trans hle hl2) hl3) ?_)
        rw [hf2]
        try dsimp only
        exact ⟨rfl, (by first | assumption | (refine Nat.le_trans (wPut_len _) ?_; decide) | (refine Nat.le_trans (rsSaid_len _) ?_; decide) | (refine Nat.le_trans (serveSaid_len _) ?_; decide)), rfl⟩

theorem serveSaid_con (G : Mem) (vs_r : List Value) (r : ReplyD) (h_r : EReply.R G vs_r r)  : ConP 6 #[.agg vs_r.toArray] G [] (fun u G' L' => u = .tuple #[Sr ((serveSaid r).1), I ((serveSaid r).2)] ∧ (((serveSaid r).1).length ≤ 140737488351232) ∧ L' = []) := by
  obtain ⟨a1, c1, a2, c2, rfl, w1, w2, w3, w4, w5, hs1, hs2⟩ := h_r
  refine con_of Tryz.func6 20 [(0, .agg #[I r.head.epoch, U r.head.root, U r.head.prev, I r.head.at_, Sr r.proof.name, Sl a1 r.proof.entries.length c1, Sl a2 r.proof.sides.length c2])] rfl (fun w0 G0 => ?_)
  refine tc_seq ?_
  refine tc_region ?_
  refine runL_box 1 #[I r.head.epoch, U r.head.root, U r.head.prev, I r.head.at_, Sr r.proof.name, Sl a1 r.proof.entries.length c1, Sl a2 r.proof.sides.length c2] 30 (fun b1 => ?_)
  refine runL_bn [0,0] [] ?_
  refine runL_nil ?_
  refine tq_then ?_
  refine tc_seq ?_
  refine tc_seq ?_
  refine tc_region ?_
  refine runL_bn [2] [(8, .agg #[I r.head.epoch, U r.head.root, U r.head.prev, I r.head.at_, Sr r.proof.name, Sl a1 r.proof.entries.length c1, Sl a2 r.proof.sides.length c2])] ?_
  refine runL_callR 9 (serveTell_con G [I r.head.epoch, U r.head.root, U r.head.prev, I r.head.at_, Sr r.proof.name, Sl a1 r.proof.entries.length c1, Sl a2 r.proof.sides.length c2] r (⟨a1, c1, a2, c2, rfl, w1, w2, w3, w4, w5, hs1, hs2⟩)) (fun v G1 L1 hl1 hp => ?_)
  obtain ⟨rfl, w6, rfl⟩ := hp
  refine runL_bn [0,0,0,0,0,0,0] [(6, I ((serveTell r).2.2))] ?_
  refine runL_nil ?_
  refine tq_then ?_
  refine tc_rbn [0,0] [(14, Bo (!decide ((serveTell r).2.2 = 0)))] ?_
  refine tc_condP (!decide ((serveTell r).2.2 = 0)) (fun h1 => ?_) (fun h1 => ?_)
  ·
    refine tc_rbn [0,0,0] [(2, Sr ([])), (3, I ((serveTell r).2.2))] ?_
    refine tc_ret ?_
    refine tq_then_ret ?_
    have hf1 : serveSaid r = ([], (serveTell r).2.2) := by
      unfold serveSaid; first | (rw [if_pos (by assumption)]; done) | (rw [if_neg (by simp_all)]; done)
    refine tq_ret [0, 0] [Sr ([]), I ((serveTell r).2.2)] (bp_rowsA [] hl1 ?_)
    rw [hf1]
    try dsimp only
    exact ⟨rfl, (Nat.le_of_ble_eq_true rfl), rfl⟩
  ·
    refine tc_skip ?_
    refine tq_then ?_
    refine tc_seq ?_
    refine tc_region ?_
    refine runL_bn [2] [(16, .agg #[I r.head.epoch, U r.head.root, U r.head.prev, I r.head.at_, Sr r.proof.name, Sl a1 r.proof.entries.length c1, Sl a2 r.proof.sides.length c2])] ?_
    refine runL_callR 17 (rsSaid_con G1 [I r.head.epoch, U r.head.root, U r.head.prev, I r.head.at_, Sr r.proof.name, Sl a1 r.proof.entries.length c1, Sl a2 r.proof.sides.length c2] r (⟨a1, c1, a2, c2, rfl, w1, w2, w3, w4, w5, (hs1.mono hl1), (hs2.mono hl1)⟩) (by first | assumption | omega | simp)) (fun v G2 L1 hl2 hp => ?_)
    obtain ⟨rfl, w7, rfl⟩ := hp
    refine runL_bn [0,0,0,0] [(2, Sr ((rsSaid r).1)), (3, I ((rsSaid r).2))] ?_
    refine runL_nil ?_
    refine tq_then ?_
    refine tc_ret ?_
    have hf2 : serveSaid r = ((rsSaid r).1, (rsSaid r).2) := by
      unfold serveSaid; first | (rw [if_pos (by assumption)]; done) | (rw [if_neg (by simp_all)]; done)
    refine tq_ret [0, 0] [Sr ((rsSaid r).1), I ((rsSaid r).2)] (bp_rowsA [] (Mem.le_trans hl1 hl2) ?_)
    rw [hf2]
    try dsimp only
    exact ⟨rfl, w7, rfl⟩


/-- An address, some cells on. -/
def adA : Option Addr → Nat → Option Addr
  | some ⟨b, o, s⟩, k => some ⟨b, o + k, s⟩
  | none, _ => none
theorem map_adA (a : Option Addr) (k : Nat) (h : ∀ ad, a = some ad → ad.spot = none) : a.map (·.add k) = adA a k := by
  cases a with
  | none => rfl
  | some ad =>
    obtain ⟨b, o, s⟩ := ad
    have := h _ rfl
    simp only at this
    subst this
    simp [adA, addr_add]
theorem ps_cell {G : Mem} {b o cap : Nat} {ps : List (List UInt8)} (h : RS ES G (At b o) cap ps) {k : Nat} (hk : k < ps.length) : ∀ (j : Nat) v, ([Sr (nthT ps k)] : List Value)[j]? = some v → G b (o + k + j) = some v := by
  intro j v hv
  obtain ⟨cs, h1, h2⟩ := h.elem _ rfl k _ (List.getElem?_eq_getElem hk)
  obtain ⟨rfl, _⟩ := h1
  have e : nthT ps k = ps[k] := nthT_get (List.getElem?_eq_getElem hk)
  rw [e] at hv
  have := h2 j v hv
  simp only [ES, Nat.mul_one] at this
  exact this
theorem ps_wf {G : Mem} {a : Option Addr} {cap : Nat} {ps : List (List UInt8)} (h : RS ES G a cap ps) (k : Nat) : (nthT ps k).length ≤ 140737488351232 := by
  by_cases hk : k < ps.length
  · cases a with
    | none => have := h.nil rfl; have := h.le; omega
    | some ad =>
      obtain ⟨cs, h1, h2⟩ := h.elem _ rfl k _ (List.getElem?_eq_getElem hk)
      obtain ⟨_, h3⟩ := h1
      rw [nthT_get (List.getElem?_eq_getElem hk)]; exact h3
  · have : nthT ps k = [] := by unfold nthT; rw [List.getElem?_eq_none (by omega)]; rfl
    rw [this]; simp
theorem fin_map {n : Nat} {xs : List (Fin n)} {ps : List (List UInt8)} (hn : ps.length = 2 * n) (h : xs.map Fin.val = List.range n) : xs.map (fun x => entAt ps x.1) = entsOf ps := by
  unfold entsOf
  rw [show ps.length / 2 = n by omega, ← h, List.map_map]; rfl
theorem one_cellW {w : World} {b : Nat} {u : Value} (h : w.cell? ⟨b, 0, none⟩ = some u) : ∀ j v, ([u] : List Value)[j]? = some v → w.cell? ⟨b, 0 + j, none⟩ = some v := by
  intro j v hv
  cases j with
  | zero => simp at hv; rw [← hv]; exact h
  | succ j => simp at hv
set_option maxRecDepth 100000 in
theorem chunk_stops {w0 : World} {G0 G : Mem} {L : List (List Seg)} {Bs Bn : Nat} {a : Option Addr} {cap n : Nat} {ps : List (List UInt8)} (hs : RS ES G a cap ps) (hn : ps.length = 2 * n) (h61 : ps.length ≤ 1000000) (hGs : G Bs 0 = some (Sl a ps.length cap)) (hGn : G Bn 0 = some (I 2)) (w : World) (hw : St w0 G0 w G L) :
    SeqStopsK (FR none) 2 Tryz.prog 74 #[Pt Bs 0, Pt Bn 0] (fun x : Fin n => #[Sl (adA a (x.1 * 2)) 2 2]) (KpG G) (fun xs => xs.map Fin.val = List.range n) (fun _ => True) n w := by
  intro l J Jx W hW hAJ _ hY h0
  have hG0 : ∀ b o v, G b o = some v → W.cell? ⟨b, o, none⟩ = some v := fun b o v hv => (hW.cell (p := ⟨b, o, none⟩) (lt_of_cell (hw.mem _ _ _ hv))).trans (hw.mem _ _ _ hv)
  have hle := hs.le
  refine callsIn_tw Tryz.func74 2 31 [(0, .func (.yield l) #[] #[]), (1, Pt Bs 0), (2, Pt Bn 0)] rfl ?_
  refine tw_seq ?_
  refine tw_region ?_
  refine rw_p 4 (I 0) (I ((2 * (0 : Nat) : Nat) : Int)) rfl ?_
  refine rw_end ?_
  refine tqw_then ?_
  refine tw_block ?_
  refine tw_loop (σ := Nat) (fun k => [(0, .func (.yield l) #[] #[]), (1, Pt Bs 0), (2, Pt Bn 0), (4, I ((2 * k : Nat) : Int))]) (fun k w => k ≤ n ∧ (∃ pre, pre.map Fin.val = List.range k ∧ J pre w) ∧ ∀ b o v, G b o = some v → w.cell? ⟨b, o, none⟩ = some v) (fun k => n - k) 0 ⟨Nat.zero_le _, ⟨[], rfl, h0⟩, hG0⟩ ?_
  rintro k w ⟨hk, ⟨pre, hpre, hJ⟩, hG⟩
  have hlen : pre.length = k := by have := congrArg List.length hpre; simpa using this
  obtain ⟨m, hm⟩ : ∃ m, m = 2 * k := ⟨_, rfl⟩
  rw [← hm]
  refine tw_seq ?_
  refine tw_seq ?_
  refine tw_region ?_
  refine rw_p 6 (I ((m : Nat) : Int)) _ rfl ?_
  refine rw_ld (b := Bs) (o' := 0) (cs := [Sl a ps.length cap]) 7 96 0 (Sl a ps.length cap) (one_cellW (hG _ _ _ hGs)) ?_
  refine rw_p 8 (I ((ps.length : Nat) : Int)) _ rfl ?_
  refine rw_p 9 (Bo (decide (((m : Nat) : Int) < ((ps.length : Nat) : Int)))) (Bo (decide (k < n))) (congrArg Bo (decide_eq_decide.2 (by omega))) ?_
  refine rw_end ?_
  refine tqw_then ?_
  refine tw_cond (b := decide (k < n)) (fun h => ?_) (fun h => ?_)
  · have h := of_decide_eq_true h
    refine tw_skip ?_
    refine tqw_then ?_
    refine tw_seq ?_
    refine tw_block ?_
    refine tw_seq ?_
    refine tw_still (fun h_ => by obtain ⟨_, _, ⟨_, h_⟩, _⟩ := h_; cases h_) ?_
    refine rws_ld (b := Bn) (o' := 0) (cs := [I 2]) 13 3 0 (I 2) (one_cellW (hG _ _ _ hGn)) ?_
    refine rws_ld (b := Bs) (o' := 0) (cs := [Sl a ps.length cap]) 14 96 0 (Sl a ps.length cap) (one_cellW (hG _ _ _ hGs)) ?_
    refine rws_p 15 (I ((m : Nat) : Int)) _ rfl ?_
    refine rws_sl 16 1 (a := a) (len := ps.length) (cap := cap) (some (I ((m : Nat) : Int))) none m ps.length (.inr ⟨_, rfl⟩) (.inl ⟨rfl, rfl⟩) (by omega) (by omega) ?_
    refine rws_p 17 (I ((ps.length - m : Nat) : Int)) _ rfl ?_
    refine rws_p 18 (I (if ((ps.length - m : Nat) : Int) < 2 then ((ps.length - m : Nat) : Int) else 2)) (I 2) (congrArg I (if_neg (by omega))) ?_
    refine rws_p 5 (I 2) _ rfl ?_
    refine rws_end (fun a_ ha_ => ?_)
    obtain ⟨w1, hw1⟩ : ∃ w1, w1 = ({ w with drawn := w.drawn + 1 } : World) := ⟨_, rfl⟩
    have hG1 : ∀ b o v, G b o = some v → w1.cell? ⟨b, o, none⟩ = some v := fun b o v hv => by rw [hw1]; exact hG b o v hv
    have hJ1 : J pre w1 := by rw [hw1]; exact hAJ pre w _ none hJ ⟨rfl, rfl, rfl, Nat.le_refl _, fun _ _ _ => rfl⟩ (fun r e => by cases e)
    rw [← hw1]
    revert a_
    show TQW _ _ _ _ _
    refine tqw_then ?_
    refine tw_seq ?_
    refine tw_region ?_
    refine rw_p 19 (.func (.yield l) #[] #[]) _ rfl ?_
    refine rw_ld (b := Bs) (o' := 0) (cs := [Sl a ps.length cap]) 20 96 0 (Sl a ps.length cap) (one_cellW (hG1 _ _ _ hGs)) ?_
    refine rw_p 21 (I ((m : Nat) : Int)) _ rfl ?_
    refine rw_p 22 (I ((m : Nat) : Int)) _ rfl ?_
    refine rw_p 23 (I 2) _ rfl ?_
    refine rw_p 24 (I (IntKind.i64.wrap (((m : Nat) : Int) + 2))) (I ((m + 2 : Nat) : Int)) (by rw [wrap_i64 (by omega) (by omega)]; rfl) ?_
    refine rw_p 25 (I ((m : Nat) : Int)) _ rfl ?_
    refine rw_p 26 (I 2) _ rfl ?_
    refine rw_p 27 (I (IntKind.i64.wrap (((m : Nat) : Int) + 2))) (I ((m + 2 : Nat) : Int)) (by rw [wrap_i64 (by omega) (by omega)]; rfl) ?_
    refine rw_sl3 (k1 := .i64) (k2 := .i64) (k3 := .i64) 28 1 (a := a) (len := ps.length) (cap := cap) m (m + 2) (m + 2) (by omega) (by omega) (by omega) ?_
    rw [if_neg (by omega), show m + 2 - m = 2 by omega, show m * 1 = k * 2 by omega, map_adA a (k * 2) (fun ad e => hs.spot ad e (by omega))]
    refine rw_yield (l := l) (args := #[Sl (adA a (k * 2)) 2 2]) 29 (hY pre ⟨k, h⟩ w1 hJ1 (by omega)) ?_
    rintro e w' (⟨rfl, hJ', hK'⟩ | ⟨rfl, hJ'⟩)
    · refine ⟨Bo true, rfl, ?_⟩
      have hG2 : ∀ b o v, G b o = some v → w'.cell? ⟨b, o, none⟩ = some v := fun b o v hv => hK' b o v hv (hG1 b o v hv)
      refine rw_p 30 (Bo false) _ rfl ?_
      refine rw_end ?_
      refine tqw_then ?_
      refine tw_cond (b := false) (fun h => by cases h) (fun _ => ?_)
      refine tw_skip ?_
      refine tqw_then (Q := Exit.then _ _) ?_
      refine tw_region ?_
      refine rw_p 10 (I ((m : Nat) : Int)) _ rfl ?_
      refine rw_ld (b := Bn) (o' := 0) (cs := [I 2]) 11 3 0 (I 2) (one_cellW (hG2 _ _ _ hGn)) ?_
      refine rw_p 12 (I (IntKind.i64.wrap (((m : Nat) : Int) + 2))) (I ((2 * (k + 1) : Nat) : Int)) (by rw [wrap_i64 (by omega) (by omega)]; exact congrArg I (by omega)) ?_
      refine rw_p 4 (I ((2 * (k + 1) : Nat) : Int)) _ rfl ?_
      refine rw_end ?_
      intro a_ ha_
      exact ⟨k + 1, ⟨h, ⟨pre ++ [⟨k, h⟩], by rw [List.map_append, hpre, List.range_succ]; rfl, hJ'⟩, hG2⟩, by omega, ha_.sub (sub_of_map (by as_aux_lemma => kernel_rfl))⟩
    · refine ⟨Bo false, rfl, ?_⟩
      refine rw_p 30 (Bo true) _ rfl ?_
      refine rw_end ?_
      refine tqw_then ?_
      refine tw_cond (b := true) (fun _ => ?_) (fun h => by cases h)
      refine tw_ret ?_
      intro a_ ha_
      exact ⟨ha_.defers, _, results_none rfl _ _ _, ⟨_, rfl⟩, .inr ⟨_, trivial, hJ'⟩⟩
  · have h := of_decide_eq_false h
    have e : k = n := by omega
    subst e
    refine tw_exit ?_
    intro a_ ha_
    exact ⟨ha_.defers, _, results_none rfl _ _ _, ⟨_, rfl⟩, .inl ⟨pre, hpre, hJ⟩⟩


theorem chunk_con (G : Mem) (a : Option Addr) (n c : Nat) : Con Tryz.prog 47 #[Sl a n c, I 2] G [] (fun u G' L' => ∃ b1 b2, u = .func (.func 74) #[] #[Pt b1 0, Pt b2 0] ∧ L' = [[Sg b2 0 [I 2]], [Sg b1 0 [Sl a n c]]]) := by
  refine con_of Tryz.func47 9 [(0, Sl a n c), (1, I 2)] rfl (fun w0 G0 => ?_)
  refine tc_seq ?_
  refine tc_region ?_
  refine runL_box 2 #[Sl a n c] 96 (fun b1 => ?_)
  refine runL_box 3 #[I 2] 3 (fun b2 => ?_)
  refine runL_bn [0] [] ?_
  refine runL_nil ?_
  refine tq_then ?_
  refine tc_seq ?_
  refine tc_rbn [2,0] [(6, Bo false)] ?_
  refine tc_cond_false ?_
  refine tc_skip ?_
  refine tq_then ?_
  refine tc_rbn [0,0] [(4, Fv 74 #[Pt b1 0, Pt b2 0])] ?_
  refine tc_ret ?_
  refine tq_ret [0] [Fv 74 #[Pt b1 0, Pt b2 0]] (bp_rowsA [[Sg b2 0 [I 2]], [Sg b1 0 [Sl a n c]]] (Mem.le_refl _) ?_)
  exact ⟨_, _, rfl, rfl⟩

set_option maxRecDepth 100000 in
theorem rdRead_con (G : Mem) (s : List UInt8) (hw_s : (s).length ≤ 140737488351232)  : ConP 19 #[Sr s] G [] (fun u G' L' => ∃ (a1 : Option Addr) (c2 : Nat) (a3 : Option Addr) (c4 : Nat), u = .tuple #[.agg #[I (((rdRead s).1).head.epoch), U (((rdRead s).1).head.root), U (((rdRead s).1).head.prev), I (((rdRead s).1).head.at_), Sr (((rdRead s).1).proof.name), Sl a1 ((((rdRead s).1).proof.entries).length) c2, Sl a3 ((((rdRead s).1).proof.sides).length) c4], Bo ((rdRead s).2)] ∧ (-9223372036854775808 ≤ (((rdRead s).1).head.epoch) ∧ (((rdRead s).1).head.epoch) < 9223372036854775808) ∧ (0 ≤ (((rdRead s).1).head.root) ∧ (((rdRead s).1).head.root) < 18446744073709551616) ∧ (0 ≤ (((rdRead s).1).head.prev) ∧ (((rdRead s).1).head.prev) < 18446744073709551616) ∧ (-9223372036854775808 ≤ (((rdRead s).1).head.at_) ∧ (((rdRead s).1).head.at_) < 9223372036854775808) ∧ ((((rdRead s).1).proof.name).length ≤ 140737488351232) ∧ (RS EEnt G' a1 c2 (((rdRead s).1).proof.entries)) ∧ (RS EU G' a3 c4 (((rdRead s).1).proof.sides)) ∧ L' = []) := by
  refine con_ofM Tryz.func19 110 [(0, Sr s)] rfl (fun w0 G0 => ?_)
  refine tc_seq ?_
  refine tc_region ?_
  refine runL_box 2 #[I 0, U 0, U 0, I 0, Sr ([]), Sl none 0 0, Sl none 0 0] 30 (fun b1 => ?_)
  refine runL_bn [0] [(3, Bo false)] ?_
  refine runL_nil ?_
  refine tq_then ?_
  refine tc_seq ?_
  refine tc_region ?_
  refine runL_bn [0] [(15, Sr s)] ?_
  refine runL_callR 16 (wGet_con G s) (fun v G1 L1 hl1 hp => ?_)
  obtain ⟨a1, c1, r1, rfl, hr1, rfl⟩ := hp
  refine runL_bn [0,0,0,0,0] [(4, Sl a1 (((wGet s).1).length) c1), (5, I ((wGet s).2))] ?_
  refine runL_nil ?_
  refine tq_then ?_
  refine tc_seq ?_
  refine tc_seq ?_
  refine tc_region ?_
  refine runL_bn [0,0,0] [(21, Bo (!decide ((wGet s).2 = 0)))] ?_
  refine runL_b2n (!decide ((wGet s).2 = 0)) [21] [1,1,1,0] [0,0,0,0] (fun bb => [(25, Bo (bb || (!decide (((((wGet s).1).length : Nat) : Int) = 4))))]) ?_
  refine runL_bn [0] [(26, Bo ((!decide ((wGet s).2 = 0)) || (!decide (((((wGet s).1).length : Nat) : Int) = 4))))] ?_
  refine runL_casesT [26] ((!decide ((wGet s).2 = 0)) || (!decide (((((wGet s).1).length : Nat) : Int) = 4))) (fun h1 => ?_) (fun h1 => ?_)
  ·
    refine runL_bn [1,1,1,1,1,0] [(32, Bo true)] ?_
    refine runL_nil ?_
    refine tq_then ?_
    refine tc_cond_true ?_
    refine tc_rbn [0,5,0] [(3, Bo false)] ?_
    refine tc_ret ?_
    refine tq_then_ret ?_
    have hf1 : rdRead s = ((⟨(⟨0, 0, 0, 0⟩ : HeadD), (⟨[], [], []⟩ : ProofD)⟩ : ReplyD), false) := by
      first | exact rd_no (fun q_ => by first | omega | (obtain ⟨q1_, q2_, q3_, q4_, q5_, q6_⟩ := q_; first | (rw [nthT_get hx1] at q3_; omega) | (rw [nthT_get hx2] at q4_; rw [nthT_get hx3] at q5_ q6_; first | omega | (simp_all; done)) | (simp_all; done))) | (have q_ : k = 16 := (by omega); subst q_; subst hxsd; rw [rdRead_of (l := (wGet s).1) (Prod.ext rfl h1.1) (by omega) (by rw [nthT_get hx1]; omega) (by rw [nthT_get hx2]; exact h3.1) (by rw [nthT_get hx3]; exact h3.2) (by rw [nthT_get hx3]; omega)]; unfold rdGot; rw [nthT_get hx2, nthT_get hx3, nthT_get hx4])
    refine tqm_ret [1, 0] [.agg #[I 0, U 0, U 0, I 0, Sr ([]), Sl none 0 0, Sl none 0 0], Bo false] (bp_rowsA [] hl1 ?_)
    rw [hf1]
    try dsimp only
    exact ⟨none, 0, none, 0, rfl, (by first | assumption | omega | (simp; done) | (simp; omega)), (by first | assumption | omega | (simp; done) | (simp; omega)), (by first | assumption | omega | (simp; done) | (simp; omega)), (by first | assumption | omega | (simp; done) | (simp; omega)), (Nat.le_of_ble_eq_true rfl), (RS.nil' EEnt G1), (RS.nil' EU G1), rfl⟩
  ·
    refine runL_bn [0] [(27, Sl a1 (((wGet s).1).length) c1)] ?_
    refine runL_frzR (E := ES) 0 hr1 (by have := wGet_len s; simp only [ES]; omega) (fun G2 hl2 hs1 => ?_)
    obtain ⟨b2, o1, rfl⟩ := RS.addr hs1 (k := 2) (by first | omega | (obtain rfl := Option.some.inj (hx1.symm.trans hx5); omega))
    obtain ⟨x1, hx1⟩ := getX (l := (wGet s).1) (k := 2) (by first | omega | (obtain rfl := Option.some.inj (hx1.symm.trans hx5); omega))
    obtain ⟨_, ⟨rfl, w1⟩, hc1⟩ := RS.get hs1 hx1
    refine runL_idx (b := b2) (off := o1) (len := ((wGet s).1).length) (cap := c1) (ik := .i64) 28 9 1 2 (by first | omega | (obtain rfl := Option.some.inj (hx1.symm.trans hx5); omega)) ?_
    refine runL_ldG 29 9 (cs := [Sr x1]) 0 (Sr x1) hc1 ?_
    refine runL_bn [0,0,0] [(32, Bo (!decide (((x1).length : Int) = 128)))] ?_
    refine runL_nil ?_
    refine tq_then ?_
    refine tc_condP (!decide (((x1).length : Int) = 128)) (fun h2 => ?_) (fun h2 => ?_)
    ·
      refine tc_rbn [0,5,0] [(3, Bo false)] ?_
      refine tc_ret ?_
      refine tq_then_ret ?_
      have hf2 : rdRead s = ((⟨(⟨0, 0, 0, 0⟩ : HeadD), (⟨[], [], []⟩ : ProofD)⟩ : ReplyD), false) := by
        first | exact rd_no (fun q_ => by first | omega | (obtain ⟨q1_, q2_, q3_, q4_, q5_, q6_⟩ := q_; first | (rw [nthT_get hx1] at q3_; omega) | (rw [nthT_get hx2] at q4_; rw [nthT_get hx3] at q5_ q6_; first | omega | (simp_all; done)) | (simp_all; done))) | (have q_ : k = 16 := (by omega); subst q_; subst hxsd; rw [rdRead_of (l := (wGet s).1) (Prod.ext rfl h1.1) (by omega) (by rw [nthT_get hx1]; omega) (by rw [nthT_get hx2]; exact h3.1) (by rw [nthT_get hx3]; exact h3.2) (by rw [nthT_get hx3]; omega)]; unfold rdGot; rw [nthT_get hx2, nthT_get hx3, nthT_get hx4])
      refine tqm_ret [1, 0] [.agg #[I 0, U 0, U 0, I 0, Sr ([]), Sl none 0 0, Sl none 0 0], Bo false] (bp_rowsA [] (Mem.le_trans hl1 hl2) ?_)
      rw [hf2]
      try dsimp only
      exact ⟨none, 0, none, 0, rfl, (by first | assumption | omega | (simp; done) | (simp; omega)), (by first | assumption | omega | (simp; done) | (simp; omega)), (by first | assumption | omega | (simp; done) | (simp; omega)), (by first | assumption | omega | (simp; done) | (simp; omega)), (Nat.le_of_ble_eq_true rfl), (RS.nil' EEnt G2), (RS.nil' EU G2), rfl⟩
    ·
      refine tc_skip ?_
      refine tq_then ?_
      refine tc_seq ?_
      refine tc_region ?_
      refine runL_bn [0] [(35, Sl (At b2 o1) (((wGet s).1).length) c1)] ?_
      obtain ⟨x2, hx2⟩ := getX (l := (wGet s).1) (k := 0) (by first | omega | (obtain rfl := Option.some.inj (hx1.symm.trans hx5); omega))
      obtain ⟨_, ⟨rfl, w2⟩, hc2⟩ := RS.get hs1 hx2
      refine runL_idx (b := b2) (off := o1) (len := ((wGet s).1).length) (cap := c1) (ik := .i64) 36 9 1 0 (by first | omega | (obtain rfl := Option.some.inj (hx1.symm.trans hx5); omega)) ?_
      refine runL_ldG 37 9 (cs := [Sr x2]) 0 (Sr x2) hc2 ?_
      refine runL_callV 38 (.tuple #[.agg #[I (((headRead x2).1).epoch), U (((headRead x2).1).root), U (((headRead x2).1).prev), I (((headRead x2).1).at_)], I ((headRead x2).2)]) (headRead_con x2 G2) ?_
      refine runL_bn [0,0,0] [(39, .agg #[I (((headRead x2).1).epoch), U (((headRead x2).1).root), U (((headRead x2).1).prev), I (((headRead x2).1).at_)]), (40, I ((headRead x2).2))] ?_
      refine runL_box 6 #[I 0, U 0, U 0, I 0] 24 (fun b3 => ?_)
      refine runL_bsn [3,0] [(5, I ((headRead x2).2))] [[Sg b3 0 [I (((headRead x2).1).epoch), U (((headRead x2).1).root), U (((headRead x2).1).prev), I (((headRead x2).1).at_)]], [], [Sg b1 0 [I 0, U 0, U 0, I 0, Sr ([]), Sl none 0 0, Sl none 0 0]]] ?_
      refine runL_nil ?_
      refine tq_then ?_
      refine tc_seq ?_
      refine tc_region ?_
      refine runL_bn [0] [(42, Sl (At b2 o1) (((wGet s).1).length) c1)] ?_
      obtain ⟨x3, hx3⟩ := getX (l := (wGet s).1) (k := 3) (by first | omega | (obtain rfl := Option.some.inj (hx1.symm.trans hx5); omega))
      obtain ⟨_, ⟨rfl, w3⟩, hc3⟩ := RS.get hs1 hx3
      refine runL_idx (b := b2) (off := o1) (len := ((wGet s).1).length) (cap := c1) (ik := .i64) 43 9 1 3 (by first | omega | (obtain rfl := Option.some.inj (hx1.symm.trans hx5); omega)) ?_
      refine runL_ldG 44 9 (cs := [Sr x3]) 0 (Sr x3) hc3 ?_
      refine runL_callR 45 (wGet_con G2 x3) (fun v G3 L1 hl3 hp => ?_)
      obtain ⟨a2, c2, r2, rfl, hr2, rfl⟩ := hp
      refine runL_bn [0,0,0,0,0] [(7, Sl a2 (((wGet x3).1).length) c2), (8, I ((wGet x3).2))] ?_
      refine runL_nil ?_
      refine tq_then ?_
      refine tc_seq ?_
      refine tc_seq ?_
      refine tc_region ?_
      refine runL_bn [0,0,0] [(50, Bo (!decide ((headRead x2).2 = 0)))] ?_
      refine runL_b2n (!decide ((headRead x2).2 = 0)) [50] [1,1,0] [0,0,0] (fun bb => [(53, Bo (bb || (!decide ((wGet x3).2 = 0))))]) ?_
      refine runL_bn [0] [(54, Bo ((!decide ((headRead x2).2 = 0)) || (!decide ((wGet x3).2 = 0))))] ?_
      refine runL_casesT [54] ((!decide ((headRead x2).2 = 0)) || (!decide ((wGet x3).2 = 0))) (fun h3 => ?_) (fun h3 => ?_)
      ·
        refine runL_bn [1,1,1,1,0] [(59, Bo true)] ?_
        refine runL_nil ?_
        refine tq_then ?_
        refine tc_cond_true ?_
        refine tc_rbn [0,9,0] [(3, Bo false)] ?_
        refine tc_ret ?_
        refine tq_then_ret ?_
        have hf3 : rdRead s = ((⟨(⟨0, 0, 0, 0⟩ : HeadD), (⟨[], [], []⟩ : ProofD)⟩ : ReplyD), false) := by
          first | exact rd_no (fun q_ => by first | omega | (obtain ⟨q1_, q2_, q3_, q4_, q5_, q6_⟩ := q_; first | (rw [nthT_get hx1] at q3_; omega) | (rw [nthT_get hx2] at q4_; rw [nthT_get hx3] at q5_ q6_; first | omega | (simp_all; done)) | (simp_all; done))) | (have q_ : k = 16 := (by omega); subst q_; subst hxsd; rw [rdRead_of (l := (wGet s).1) (Prod.ext rfl h1.1) (by omega) (by rw [nthT_get hx1]; omega) (by rw [nthT_get hx2]; exact h3.1) (by rw [nthT_get hx3]; exact h3.2) (by rw [nthT_get hx3]; omega)]; unfold rdGot; rw [nthT_get hx2, nthT_get hx3, nthT_get hx4])
        refine tqm_ret [3, 0] [.agg #[I 0, U 0, U 0, I 0, Sr ([]), Sl none 0 0, Sl none 0 0], Bo false] (bp_rowsA [] (Mem.le_trans (Mem.le_trans hl1 hl2) hl3) ?_)
        rw [hf3]
        try dsimp only
        exact ⟨none, 0, none, 0, rfl, (by first | assumption | omega | (simp; done) | (simp; omega)), (by first | assumption | omega | (simp; done) | (simp; omega)), (by first | assumption | omega | (simp; done) | (simp; omega)), (by first | assumption | omega | (simp; done) | (simp; omega)), (Nat.le_of_ble_eq_true rfl), (RS.nil' EEnt G3), (RS.nil' EU G3), rfl⟩
      ·
        refine runL_bn [0,0,0,0,0] [(59, Bo (!decide ((((((wGet x3).1).length : Nat) : Int)).tmod 2 = 0)))] ?_
        have e1 : (((((wGet x3).1).length : Nat) : Int)).tmod 2 = (((((wGet x3).1).length : Nat) : Int)) % 2 := IntWalk.rem_in _ _ (by first | omega | (obtain rfl := Option.some.inj (hx1.symm.trans hx5); omega))
        refine runL_put 59 (Bo (!decide ((((((wGet x3).1).length : Nat) : Int)) % 2 = 0))) ((show (Bo (!decide ((((((wGet x3).1).length : Nat) : Int)).tmod 2 = 0)) : Value) = Bo (!decide ((((((wGet x3).1).length : Nat) : Int)) % 2 = 0)) by simp only [e1])) ?_
        clear e1
        refine runL_nil ?_
        refine tq_then ?_
        refine tc_condP (!decide ((((((wGet x3).1).length : Nat) : Int)) % 2 = 0)) (fun h4 => ?_) (fun h4 => ?_)
        ·
          refine tc_rbn [0,9,0] [(3, Bo false)] ?_
          refine tc_ret ?_
          refine tq_then_ret ?_
          have hf4 : rdRead s = ((⟨(⟨0, 0, 0, 0⟩ : HeadD), (⟨[], [], []⟩ : ProofD)⟩ : ReplyD), false) := by
            first | exact rd_no (fun q_ => by first | omega | (obtain ⟨q1_, q2_, q3_, q4_, q5_, q6_⟩ := q_; first | (rw [nthT_get hx1] at q3_; omega) | (rw [nthT_get hx2] at q4_; rw [nthT_get hx3] at q5_ q6_; first | omega | (simp_all; done)) | (simp_all; done))) | (have q_ : k = 16 := (by omega); subst q_; subst hxsd; rw [rdRead_of (l := (wGet s).1) (Prod.ext rfl h1.1) (by omega) (by rw [nthT_get hx1]; omega) (by rw [nthT_get hx2]; exact h3.1) (by rw [nthT_get hx3]; exact h3.2) (by rw [nthT_get hx3]; omega)]; unfold rdGot; rw [nthT_get hx2, nthT_get hx3, nthT_get hx4])
          refine tqm_ret [3, 0] [.agg #[I 0, U 0, U 0, I 0, Sr ([]), Sl none 0 0, Sl none 0 0], Bo false] (bp_rowsA [] (Mem.le_trans (Mem.le_trans hl1 hl2) hl3) ?_)
          rw [hf4]
          try dsimp only
          exact ⟨none, 0, none, 0, rfl, (by first | assumption | omega | (simp; done) | (simp; omega)), (by first | assumption | omega | (simp; done) | (simp; omega)), (by first | assumption | omega | (simp; done) | (simp; omega)), (by first | assumption | omega | (simp; done) | (simp; omega)), (Nat.le_of_ble_eq_true rfl), (RS.nil' EEnt G3), (RS.nil' EU G3), rfl⟩
        ·
          refine tc_skip ?_
          refine tq_then ?_
          refine tc_seq ?_
          obtain ⟨x4, hx4⟩ := getX (l := (wGet s).1) (k := 1) (by first | omega | (obtain rfl := Option.some.inj (hx1.symm.trans hx5); omega))
          obtain ⟨_, ⟨rfl, w4⟩, hc4⟩ := RS.get (hs1.mono hl3) hx4
          refine tc_draw [6, 7] ?_
          refine dr_V [(0, .agg #[I (((headRead x2).1).epoch), U (((headRead x2).1).root), U (((headRead x2).1).prev), I (((headRead x2).1).at_)]), (1, Sl (At b2 o1) (((wGet s).1).length) c1), (2, Pt b2 (o1 + 1 * 1)), (3, Sr x4), (4, .agg #[Sr x4, Sl none 0 0, Sl none 0 0]), (5, .agg #[I (((headRead x2).1).epoch), U (((headRead x2).1).root), U (((headRead x2).1).prev), I (((headRead x2).1).at_), Sr x4, Sl none 0 0, Sl none 0 0])] ?_
          refine dr_mid [] [(0,4), (1,0), (4,0), (5,0)] [2, 3] [6] (fmc ?_ (fmc ?_ fm0)) (fmc ?_ fm0)
          · refine stab_of 2 63 (Pt b2 (o1 + 1 * 1)) [(62, Sl (At b2 o1) (((wGet s).1).length) c1)] (fun X => ?_)
            exact runL_idx (b := b2) (off := o1) (len := ((wGet s).1).length) (cap := c1) (ik := .i64) 63 9 1 1 (by first | omega | (obtain rfl := Option.some.inj (hx1.symm.trans hx5); omega)) stab_end
          · refine stab_of 3 64 (Sr x4) [(63, Pt b2 (o1 + 1 * 1))] (fun X => ?_)
            exact runL_ldG 64 9 (cs := [Sr x4]) 0 (Sr x4) hc4 stab_end
          refine act_of 6 [] (fun X => ?_)
          refine runL_box 9 #[I 0, U 0, U 0, I 0, Sr ([]), Sl none 0 0, Sl none 0 0] 30 (fun b4 => ?_)
          refine act_endN [(6, Pt b4 0)] ?_
          refine dr_mid [] [(0,6), (1,0), (4,0), (5,0)] [2, 3] [7] (fmc ?_ (fmc ?_ fm0)) (fmc ?_ fm0)
          · refine stab_of 2 63 (Pt b2 (o1 + 1 * 1)) [(62, Sl (At b2 o1) (((wGet s).1).length) c1)] (fun X => ?_)
            exact runL_idx (b := b2) (off := o1) (len := ((wGet s).1).length) (cap := c1) (ik := .i64) 63 9 1 1 (by first | omega | (obtain rfl := Option.some.inj (hx1.symm.trans hx5); omega)) stab_end
          · refine stab_of 3 64 (Sr x4) [(63, Pt b2 (o1 + 1 * 1))] (fun X => ?_)
            exact runL_ldG 64 9 (cs := [Sr x4]) 0 (Sr x4) hc4 stab_end
          refine act_of 7 [(9, Pt b4 0), (66, .agg #[I (((headRead x2).1).epoch), U (((headRead x2).1).root), U (((headRead x2).1).prev), I (((headRead x2).1).at_), Sr x4, Sl none 0 0, Sl none 0 0])] (fun X => ?_)
          refine runL_st 0 [[Sg b4 0 [I (((headRead x2).1).epoch), U (((headRead x2).1).root), U (((headRead x2).1).prev), I (((headRead x2).1).at_), Sr x4, Sl none 0 0, Sl none 0 0]], r2, [Sg b3 0 [I (((headRead x2).1).epoch), U (((headRead x2).1).root), U (((headRead x2).1).prev), I (((headRead x2).1).at_)]], [], [Sg b1 0 [I 0, U 0, U 0, I 0, Sr ([]), Sl none 0 0, Sl none 0 0]]] ?_
          refine act_endN0 [] ?_
          refine dr_end [0, 1, 2, 3, 4, 5] [] [] [(2, Pt b1 0), (3, Bo false), (4, Sl (At b2 o1) (((wGet s).1).length) c1), (7, Sl a2 (((wGet x3).1).length) c2), (9, Pt b4 0)] (List.forall_mem_nil _) ?_
          refine tq_then ?_
          refine tc_seq ?_
          refine tc_rbn [0] [(67, I 0)] ?_
          refine tc_block ?_
          refine tc_empty ?_
          have hlm_hs1 : ((wGet s).1).length ≤ 9223372036854775807 := Nat.le_trans (hs1).le (hs1).max
          refine tc_loop (σ := Nat × Option Addr × Nat × List Seg × List Int) (fun q_ => (q_.1 ≤ 16) ∧ (TRow EU G3 q_.2.1 q_.2.2.1 q_.2.2.2.2 q_.2.2.2.1) ∧ (q_.2.2.2.2 = rsOf (nthT (wGet s).1 2) q_.1)) (fun q_ => [(2, Pt b1 0), (3, Bo false), (4, Sl (At b2 o1) (((wGet s).1).length) c1), (7, Sl a2 (((wGet x3).1).length) c2), (9, Pt b4 0), (67, I ((q_.1 : Int)))]) (fun q_ => G3) (fun q_ => [q_.2.2.2.1, [Sg b4 0 [I (((headRead x2).1).epoch), U (((headRead x2).1).root), U (((headRead x2).1).prev), I (((headRead x2).1).at_), Sr x4, Sl none 0 0, Sl q_.2.1 q_.2.2.2.2.length q_.2.2.1]], r2, [Sg b3 0 [I (((headRead x2).1).epoch), U (((headRead x2).1).root), U (((headRead x2).1).prev), I (((headRead x2).1).at_)]], [], [Sg b1 0 [I 0, U 0, U 0, I 0, Sr ([]), Sl none 0 0, Sl none 0 0]]]) (fun q_ => 16 - q_.1) ((0, none, 0, [], [])) ⟨(by (try dsimp only); first | exact Nat.zero_le _ | omega | simp), (TRow.none EU _), rfl⟩ (fun q_ hs => ?_)
          obtain ⟨k, asd, csd, rsd, xsd⟩ := q_
          obtain ⟨hi, hrsd, hxsd⟩ := hs
          dsimp only at hi hrsd hxsd
          refine tc_eq (fr' := [(2, Pt b1 0), (3, Bo false), (4, Sl (At b2 o1) (((wGet s).1).length) c1), (7, Sl a2 (((wGet x3).1).length) c2), (9, Pt b4 0), (67, I ((k : Int)))]) (L' := [rsd, [Sg b4 0 [I (((headRead x2).1).epoch), U (((headRead x2).1).root), U (((headRead x2).1).prev), I (((headRead x2).1).at_), Sr x4, Sl none 0 0, Sl asd xsd.length csd]], r2, [Sg b3 0 [I (((headRead x2).1).epoch), U (((headRead x2).1).root), U (((headRead x2).1).prev), I (((headRead x2).1).at_)]], [], [Sg b1 0 [I 0, U 0, U 0, I 0, Sr ([]), Sl none 0 0, Sl none 0 0]]]) rfl rfl ?_
          refine tc_rbn [0] [(68, Bo (decide ((k : Int) < 16)))] ?_
          refine tc_seq ?_
          refine tc_condP (decide ((k : Int) < 16)) (fun h5 => ?_) (fun h5 => ?_)
          ·
            refine tc_skip ?_
            refine tq_then ?_
            refine tc_seq ?_
            refine tc_block ?_
            refine tc_rbn [0,0] [(10, I ((k : Int)))] ?_
            refine tc_seq ?_
            refine tc_region ?_
            refine runL_bn [0] [(71, Sl (At b2 o1) (((wGet s).1).length) c1)] ?_
            obtain ⟨x5, hx5⟩ := getX (l := (wGet s).1) (k := 2) (by first | omega | (obtain rfl := Option.some.inj (hx1.symm.trans hx5); omega))
            obtain ⟨_, ⟨rfl, w5⟩, hc5⟩ := RS.get (hs1.mono hl3) hx5
            refine runL_idx (b := b2) (off := o1) (len := ((wGet s).1).length) (cap := c1) (ik := .i64) 72 9 1 2 (by first | omega | (obtain rfl := Option.some.inj (hx1.symm.trans hx5); omega)) ?_
            refine runL_ldG 73 9 (cs := [Sr x5]) 0 (Sr x5) hc5 ?_
            refine runL_bn [0,0,0,0,0] [(75, I (IntKind.i64.wrap (8 * ((k : Int))))), (78, I (IntKind.i64.wrap ((IntKind.i64.wrap (8 * ((k : Int)))) + 8)))] ?_
            have e2 : IntKind.i64.wrap (8 * ((k : Int))) = ((8 * k : Nat) : Int) := (IntWalk.i64_in _ (by first | omega | (obtain rfl := Option.some.inj (hx1.symm.trans hx5); omega))).trans (show 8 * ((k : Int)) = ((8 * k : Nat) : Int) by omega)
            have e3 : IntKind.i64.wrap ((((8 * k : Nat) : Int)) + 8) = ((8 * k + 8 : Nat) : Int) := (IntWalk.i64_in _ (by first | omega | (obtain rfl := Option.some.inj (hx1.symm.trans hx5); omega))).trans (show (((8 * k : Nat) : Int)) + 8 = ((8 * k + 8 : Nat) : Int) by omega)
            refine runL_put 75 (I (((8 * k : Nat) : Int))) (congrArg I e2) ?_
            refine runL_put 78 (I (((8 * k + 8 : Nat) : Int))) ((show (I (IntKind.i64.wrap ((IntKind.i64.wrap (8 * ((k : Int)))) + 8)) : Value) = I (((8 * k + 8 : Nat) : Int)) by simp only [e2, e3])) ?_
            clear e3 e2
            refine runL_ssl (l := x5) 79 (some (I (((8 * k : Nat) : Int)))) (some (I (((8 * k + 8 : Nat) : Int)))) (8 * k) (8 * k + 8) (.inr ⟨_, rfl⟩) (.inr ⟨_, rfl⟩) (by first | omega | (obtain rfl := Option.some.inj (hx1.symm.trans hx5); omega)) (by first | omega | (obtain rfl := Option.some.inj (hx1.symm.trans hx5); omega)) ?_
            refine runL_callV 80 (.tuple #[U ((readNum (((x5).take (8 * k + 8)).drop (8 * k))).1), I ((readNum (((x5).take (8 * k + 8)).drop (8 * k))).2)]) (readNum_con (((x5).take (8 * k + 8)).drop (8 * k)) G3) ?_
            refine runL_bn [0,0,0,0,0] [(11, U ((readNum (((x5).take (8 * k + 8)).drop (8 * k))).1))] ?_
            refine runL_nil ?_
            refine tq_then ?_
            refine tc_region ?_
            refine runL_bn [0,0,4,0] [(85, Sl asd xsd.length csd), (86, U ((readNum (((x5).take (8 * k + 8)).drop (8 * k))).1))] ?_
            refine runL_bsl 87 1 #[U ((readNum (((x5).take (8 * k + 8)).drop (8 * k))).1)] 22 (fun b5 => ?_)
            refine runL_app1' (b := b5) (cs := [U ((readNum (((x5).take (8 * k + 8)).drop (8 * k))).1)]) 88 22 1 0 (E := EU) ((readNum (((x5).take (8 * k + 8)).drop (8 * k))).1) hrsd ⟨rfl, (readNum_bd _)⟩ (by have q_ := congrArg List.length hxsd; rw [rsOf_len] at q_; (try simp only [EU, List.length_append, List.length_cons, List.length_nil]); omega) (by have q_ := congrArg List.length hxsd; rw [rsOf_len] at q_; (try simp only [EU, List.length_append, List.length_cons, List.length_nil]); omega) (fun a3 c3 r3 hr3 => ?_)
            refine runL_bsn [0,0,7] [] [[Sg b5 0 [U ((readNum (((x5).take (8 * k + 8)).drop (8 * k))).1)]], r3, [Sg b4 0 [I (((headRead x2).1).epoch), U (((headRead x2).1).root), U (((headRead x2).1).prev), I (((headRead x2).1).at_), Sr x4, Sl none 0 0, Sl a3 ((xsd ++ [(readNum (((x5).take (8 * k + 8)).drop (8 * k))).1]).length) c3]], r2, [Sg b3 0 [I (((headRead x2).1).epoch), U (((headRead x2).1).root), U (((headRead x2).1).prev), I (((headRead x2).1).at_)]], [], [Sg b1 0 [I 0, U 0, U 0, I 0, Sr ([]), Sl none 0 0, Sl none 0 0]]] ?_
            refine runL_nil ?_
            refine tq_block ?_
            refine tq_then ?_
            refine tc_region ?_
            refine runL_bn [0,0] [(67, I (IntKind.i64.wrap (((k : Int)) + 1)))] ?_
            refine runL_wi64 67 (((k : Int)) + 1) (by first | omega | (obtain rfl := Option.some.inj (hx1.symm.trans hx5); omega)) ?_
            refine runL_nil ?_
            refine tq_ownsA [r3, [Sg b4 0 [I (((headRead x2).1).epoch), U (((headRead x2).1).root), U (((headRead x2).1).prev), I (((headRead x2).1).at_), Sr x4, Sl none 0 0, Sl a3 ((xsd ++ [(readNum (((x5).take (8 * k + 8)).drop (8 * k))).1]).length) c3]], r2, [Sg b3 0 [I (((headRead x2).1).epoch), U (((headRead x2).1).root), U (((headRead x2).1).prev), I (((headRead x2).1).at_)]], [], [Sg b1 0 [I 0, U 0, U 0, I 0, Sr ([]), Sl none 0 0, Sl none 0 0]]] ?_
            exact tq_rnd ((k + 1, a3, c3, r3, xsd ++ [(readNum (((x5).take (8 * k + 8)).drop (8 * k))).1])) ⟨(by omega), hr3, (by (try dsimp only); rw [hxsd, ← rsOf_succ]; simp [rsAt, nthT_get hx5])⟩ (by (try dsimp only); omega)
          ·
            refine tc_exit ?_
            refine tq_then_exit ?_
            refine tq_rnd_exit ?_
            refine tq_block_here ?_
            refine tq_then ?_
            refine tc_seq ?_
            refine tc_seq ?_
            refine tc_region ?_
            refine runL_bn [0] [(92, Sl a2 (((wGet x3).1).length) c2)] ?_
            refine runL_frzR (E := ES) 2 hr2 (by have := wGet_len x3; simp only [ES]; omega) (fun G4 hl4 hs2 => ?_)
            refine runL_callR 93 (chunk_con G4 a2 (((wGet x3).1).length) c2) (fun v G5 L1 hl5 hp => ?_)
            obtain ⟨bs1, bn1, rfl, rfl⟩ := hp
            refine runL_frz1 (b := bs1) (o := 0) (cs := [Sl a2 (((wGet x3).1).length) c2]) 1 (fun G6 hl6 hz1 => ?_)
            refine runL_frz1 (b := bn1) (o := 0) (cs := [I 2]) 0 (fun G7 hl7 hz2 => ?_)
            refine runL_nil ?_
            refine tq_then ?_
            refine tc_block ?_
            refine tc_ownsA [rsd, [Sg b4 0 [I (((headRead x2).1).epoch), U (((headRead x2).1).root), U (((headRead x2).1).prev), I (((headRead x2).1).at_), Sr x4, Sl none 0 0, Sl asd xsd.length csd]], [Sg b1 0 [I 0, U 0, U 0, I 0, Sr ([]), Sl none 0 0, Sl none 0 0]]] ?_
            refine tc_empty ?_
            refine tc_front 2 ?_
            obtain ⟨n_, hn_⟩ : ∃ n_, ((wGet x3).1).length = 2 * n_ := ⟨((wGet x3).1).length / 2, by omega⟩
            have h60_ : ((wGet x3).1).length ≤ 60 := wGet_le _
            have hobs_ : ∀ s_ ∈ ([rsd, [Sg b1 0 [I 0, U 0, U 0, I 0, Sr ([]), Sl none 0 0, Sl none 0 0]]] : List (List Seg)).flatten, s_.ob = none := by
              intro s_ hs_
              simp only [List.flatten_cons, List.flatten_nil, List.append_nil, List.mem_append, List.mem_singleton] at hs_
              first | (rcases hs_ with hs_ | rfl; exact ((hrsd.mono (Mem.le_trans (Mem.le_trans (Mem.le_trans hl4 hl5) hl6) hl7))).ob s_ hs_; rfl) | (rcases hs_ with rfl | hs_; rfl; exact ((hrsd.mono (Mem.le_trans (Mem.le_trans (Mem.le_trans hl4 hl5) hl6) hl7))).ob s_ hs_)
            refine tc_rangeA (E := EEnt) (gf := 74) (lb := #[Pt bs1 0, Pt bn1 0]) (bb := b4) (ke := 5) (bcs := [I (((headRead x2).1).epoch), U (((headRead x2).1).root), U (((headRead x2).1).prev), I (((headRead x2).1).at_), Sr x4, Sl none 0 0, Sl asd xsd.length csd]) (Lr := [rsd, [Sg b1 0 [I 0, U 0, U 0, I 0, Sr ([]), Sl none 0 0, Sl none 0 0]]]) (fun x : Fin n_ => entAt ((wGet x3).1) x.1) (fun h_ => h_) (by kernel_rfl) rfl (by show 94 < 110; decide) (fun _ _ => rfl) (fun x => Sl (adA a2 (x.1 * 2)) 2 2) (fun xs => xs.map Fin.val = List.range n_) n_ (by simp only [EEnt]; omega) rfl hobs_ (fun w_ hw_ => chunk_stops (hs2.mono (Mem.le_trans (Mem.le_trans hl5 hl6) hl7)) hn_ (by omega) ((fun j v hv => hl7 _ _ _ (hz1 j v hv)) 0 _ rfl) (hz2 0 _ rfl) w_ hw_) (fun x => [(9, Pt b4 0), (13, Sl (adA a2 (x.1 * 2)) 2 2)]) ?_ ?_ ?_
            ·
              intro l_ x W_
              refine tw_region ?_
              refine rw_p 13 (Sl (adA a2 (x.1 * 2)) 2 2) _ rfl ?_
              refine rw_end ?_
              intro a_ ha_
              exact ⟨rfl, ha_.sub (sub_of_map (by as_aux_lemma => kernel_rfl))⟩
            ·
              intro l_ pre_ x W_ Gm a_ c_ hlen_ hle_ hRS_ ho_ hcv_ hsp_
              have hx_ := x.2
              have hml_ : (pre_.map (fun x : Fin n_ => entAt ((wGet x3).1) x.1)).length = pre_.length := List.length_map ..
              rw [← hml_] at hcv_
              obtain ⟨bp_, op_, rfl⟩ := RS.addr (hs2.mono (Mem.le_trans (Mem.le_trans hl5 hl6) hl7)) (k := 2 * x.1) (by omega)
              have hc0_ : ∀ (j : Nat) v, ([Sr (nthT ((wGet x3).1) (2 * x.1 + 0))] : List Value)[j]? = some v → Gm bp_ (op_ + x.1 * 2 + 0 * 1 + j) = some v := fun j v hv => by rw [show op_ + x.1 * 2 + 0 * 1 + j = op_ + (2 * x.1 + 0) + j by omega]; exact hle_ _ _ _ (ps_cell (hs2.mono (Mem.le_trans (Mem.le_trans hl5 hl6) hl7)) (by omega) j v hv)
              have hc1_ : ∀ (j : Nat) v, ([Sr (nthT ((wGet x3).1) (2 * x.1 + 1))] : List Value)[j]? = some v → Gm bp_ (op_ + x.1 * 2 + 1 * 1 + j) = some v := fun j v hv => by rw [show op_ + x.1 * 2 + 1 * 1 + j = op_ + (2 * x.1 + 1) + j by omega]; exact hle_ _ _ _ (ps_cell (hs2.mono (Mem.le_trans (Mem.le_trans hl5 hl6) hl7)) (by omega) j v hv)
              show TR _ _ _ _ _ [(9, Pt b4 0), (13, Sl (At bp_ (op_ + x.1 * 2)) 2 2)] _ _
              refine tr_block ?_
              refine tr_draw (fun h_ => by obtain ⟨_, _, h_⟩ := h_; exact h_) [10, 11, 14] ?_
              refine dr_V [(0, Pt b4 4), (1, Pt b4 5), (2, Sl a_ ((pre_.map (fun x : Fin n_ => entAt ((wGet x3).1) x.1)).length) c_), (3, Sl (At bp_ (op_ + x.1 * 2)) 2 2), (4, Pt bp_ (op_ + x.1 * 2 + 0 * 1)), (5, Sr (nthT ((wGet x3).1) (2 * x.1 + 0))), (6, Sl (At bp_ (op_ + x.1 * 2)) 2 2), (7, Pt bp_ (op_ + x.1 * 2 + 1 * 1)), (8, Sr (nthT ((wGet x3).1) (2 * x.1 + 1))), (9, .agg #[Sr (nthT ((wGet x3).1) (2 * x.1 + 0)), Sr (nthT ((wGet x3).1) (2 * x.1 + 1))])] ?_
              refine dr_mid [] [(0,0), (1,0), (3,0), (6,0), (9,0)] [2, 4, 5, 7, 8] [10] (fmc ?_ (fmc ?_ (fmc ?_ (fmc ?_ (fmc ?_ fm0))))) (fmc ?_ fm0)
              · refine stab_of 2 97 (Sl a_ ((pre_.map (fun x : Fin n_ => entAt ((wGet x3).1) x.1)).length) c_) [(96, Pt b4 5)] (fun X => ?_)
                exact runL_ldOldC (p := b4) (q := 5) 97 25 (Sl a_ (pre_.map (fun x : Fin n_ => entAt ((wGet x3).1) x.1)).length c_) ho_ hcv_ stab_end
              · refine stab_of 4 99 (Pt bp_ (op_ + x.1 * 2 + 0 * 1)) [(98, Sl (At bp_ (op_ + x.1 * 2)) 2 2)] (fun X => ?_)
                exact runL_idx (b := bp_) (off := op_ + x.1 * 2) (len := 2) (cap := 2) (ik := .i64) 99 9 1 0 (by decide) stab_end
              · refine stab_of 5 100 (Sr (nthT ((wGet x3).1) (2 * x.1 + 0))) [(99, Pt bp_ (op_ + x.1 * 2 + 0 * 1))] (fun X => ?_)
                exact runL_ldG (b := bp_) (o' := op_ + x.1 * 2 + 0 * 1) 100 9 (cs := [Sr (nthT ((wGet x3).1) (2 * x.1 + 0))]) 0 (Sr (nthT ((wGet x3).1) (2 * x.1 + 0))) hc0_ stab_end
              · refine stab_of 7 102 (Pt bp_ (op_ + x.1 * 2 + 1 * 1)) [(101, Sl (At bp_ (op_ + x.1 * 2)) 2 2)] (fun X => ?_)
                exact runL_idx (b := bp_) (off := op_ + x.1 * 2) (len := 2) (cap := 2) (ik := .i64) 102 9 1 1 (by decide) stab_end
              · refine stab_of 8 103 (Sr (nthT ((wGet x3).1) (2 * x.1 + 1))) [(102, Pt bp_ (op_ + x.1 * 2 + 1 * 1))] (fun X => ?_)
                exact runL_ldG (b := bp_) (o' := op_ + x.1 * 2 + 1 * 1) 103 9 (cs := [Sr (nthT ((wGet x3).1) (2 * x.1 + 1))]) 0 (Sr (nthT ((wGet x3).1) (2 * x.1 + 1))) hc1_ stab_end
              refine act_of 10 [(104, .agg #[Sr (nthT ((wGet x3).1) (2 * x.1 + 0)), Sr (nthT ((wGet x3).1) (2 * x.1 + 1))])] (fun X => ?_)
              refine runL_bsl 105 1 #[Sr (nthT ((wGet x3).1) (2 * x.1 + 0)), Sr (nthT ((wGet x3).1) (2 * x.1 + 1))] 58 (fun b6 => ?_)
              refine act_endN [(10, Sl (At b6 0) 1 1)] ?_
              refine dr_mid [3, 4, 5, 6, 7, 8, 9] [(0,0), (1,0)] [2] [11] (fmc ?_ fm0) (fmc ?_ fm0)
              · refine stab_of 2 97 (Sl a_ ((pre_.map (fun x : Fin n_ => entAt ((wGet x3).1) x.1)).length) c_) [(96, Pt b4 5)] (fun X => ?_)
                exact runL_ldOldC (p := b4) (q := 5) 97 25 (Sl a_ (pre_.map (fun x : Fin n_ => entAt ((wGet x3).1) x.1)).length c_) ho_ hcv_ stab_end
              refine act_of 11 [(97, Sl a_ ((pre_.map (fun x : Fin n_ => entAt ((wGet x3).1) x.1)).length) c_), (105, Sl (At b6 0) 1 1)] (fun X => ?_)
              refine runL_appOldF (E := EEnt) (b := b6) (cs := [Sr (nthT ((wGet x3).1) (2 * x.1 + 0)), Sr (nthT ((wGet x3).1) (2 * x.1 + 1))]) 106 58 0 (entAt ((wGet x3).1) x.1) hRS_ ⟨rfl, ps_wf (hs2.mono (Mem.le_trans (Mem.le_trans hl5 hl6) hl7)) _, ps_wf (hs2.mono (Mem.le_trans (Mem.le_trans hl5 hl6) hl7)) _⟩ hsp_ (by omega) (by simp only [EEnt]; omega) (fun w1_ a1_ c1_ r1_ hF_ => ?_)
              refine act_endNC [(11, Sl a1_ ((pre_.map (fun x : Fin n_ => entAt ((wGet x3).1) x.1)).length + 1) c1_), (12, Pt b4 4), (13, Pt b4 5)] ?_
              refine dr_mid [0, 1, 2, 3, 4, 5, 6, 7, 8, 9] [(12,0), (13,0)] [] [14] (List.forall_mem_nil _) (fmc ?_ fm0)
              refine act_of 14 [(106, Sl a1_ ((pre_.map (fun x : Fin n_ => entAt ((wGet x3).1) x.1)).length + 1) c1_), (108, Pt b4 5)] (fun X => ?_)
              refine runL_stOldC b4 5 (Sl a1_ ((pre_.map (fun x : Fin n_ => entAt ((wGet x3).1) x.1)).length + 1) c1_) (AppF.old hF_ ho_) ?_
              refine act_endNC0 [] ?_
              refine dr_end [0, 1, 2, 3, 4, 5, 6, 7, 8, 9, 12, 13] [] [] [] (List.forall_mem_nil _) ?_
              refine tq_block ?_
              intro a9_ w_ ha_ hw_
              rw [hml_] at hw_
              rcases hF_ with ⟨ab_, ao_, h1_, h2_, h3_, h4_, h5_, h6_⟩ | ⟨h1_, h2_⟩
              · subst h3_ h4_ h5_
                exact .inl ⟨ab_, ao_, _, h1_, by omega, ⟨rfl, ps_wf (hs2.mono (Mem.le_trans (Mem.le_trans hl5 hl6) hl7)) _, ps_wf (hs2.mono (Mem.le_trans (Mem.le_trans hl5 hl6) hl7)) _⟩, _, _, hw_⟩
              · subst h1_
                exact .inr ⟨_, _, _, _, _, h2_, hw_⟩
            ·
              rintro D_ xs_ ar_ cr_ rr_ hS_ hT_
              have he_ := fin_map hn_ hS_
              rw [he_] at hT_
              have hl_ : xs_.length = (entsOf ((wGet x3).1)).length := by rw [← he_, List.length_map]
              rw [hl_]
              show TQ _ _ _ _ _ [[Ob D_ (.deferred (some []))], [Sg b4 0 [I (((headRead x2).1).epoch), U (((headRead x2).1).root), U (((headRead x2).1).prev), I (((headRead x2).1).at_), Sr x4, Sl ar_ ((entsOf ((wGet x3).1)).length) cr_, Sl asd xsd.length csd]], rr_, rsd, [Sg b1 0 [I 0, U 0, U 0, I 0, Sr ([]), Sl none 0 0, Sl none 0 0]]]
              refine tq_block ?_
              refine tq_then ?_
              refine tc_rbsn [4,11,0] [(3, Bo true)] [[Ob D_ (.deferred (some []))], [Sg b4 0 [I (((headRead x2).1).epoch), U (((headRead x2).1).root), U (((headRead x2).1).prev), I (((headRead x2).1).at_), Sr x4, Sl ar_ ((entsOf ((wGet x3).1)).length) cr_, Sl asd xsd.length csd]], rr_, rsd, [Sg b1 0 [I (((headRead x2).1).epoch), U (((headRead x2).1).root), U (((headRead x2).1).prev), I (((headRead x2).1).at_), Sr x4, Sl ar_ ((entsOf ((wGet x3).1)).length) cr_, Sl asd xsd.length csd]]] ?_
              refine tc_ret ?_
              refine tq_frzR (E := EEnt) 2 hT_ (by (try simp only [EEnt]); (have q_ := entsOf_len ((wGet x3).1)); omega) (fun G8 hl8 hs3 => ?_)
              refine tq_frzR (E := EU) 3 (hrsd.mono (Mem.le_trans (Mem.le_trans (Mem.le_trans (Mem.le_trans hl4 hl5) hl6) hl7) hl8)) (by have q_ := congrArg List.length hxsd; rw [rsOf_len] at q_; (try simp only [EU, List.length_append, List.length_cons, List.length_nil]); omega) (fun G9 hl9 hs4 => ?_)
              have hf5 : rdRead s = ((⟨((headRead x2).1), (⟨x4, entsOf ((wGet x3).1), xsd⟩ : ProofD)⟩ : ReplyD), true) := by
                first | exact rd_no (fun q_ => by first | omega | (obtain ⟨q1_, q2_, q3_, q4_, q5_, q6_⟩ := q_; first | (rw [nthT_get hx1] at q3_; omega) | (rw [nthT_get hx2] at q4_; rw [nthT_get hx3] at q5_ q6_; first | omega | (simp_all; done)) | (simp_all; done))) | (have q_ : k = 16 := (by omega); subst q_; subst hxsd; rw [rdRead_of (l := (wGet s).1) (Prod.ext rfl h1.1) (by omega) (by rw [nthT_get hx1]; omega) (by rw [nthT_get hx2]; exact h3.1) (by rw [nthT_get hx3]; exact h3.2) (by rw [nthT_get hx3]; omega)]; unfold rdGot; rw [nthT_get hx2, nthT_get hx3, nthT_get hx4])
              refine tqd_ret [4, 0] [.agg #[I (((headRead x2).1).epoch), U (((headRead x2).1).root), U (((headRead x2).1).prev), I (((headRead x2).1).at_), Sr x4, Sl ar_ ((entsOf ((wGet x3).1)).length) cr_, Sl asd xsd.length csd], Bo true] (bp_rowsA [] (Mem.le_trans (Mem.le_trans (Mem.le_trans (Mem.le_trans (Mem.le_trans (Mem.le_trans (Mem.le_trans (Mem.le_trans hl1 hl2) hl3) hl4) hl5) hl6) hl7) hl8) hl9) ?_)
              rw [hf5]
              try dsimp only
              exact ⟨ar_, cr_, asd, csd, rfl, (headRead_w _).1, (headRead_w _).2.1, (headRead_w _).2.2.1, (headRead_w _).2.2.2, w4, (hs3.mono hl9), hs4, rfl⟩

theorem serveRead_con (G : Mem) (s : List UInt8) (hw_s : (s).length ≤ 140737488351232)  : ConP 7 #[Sr s] G [] (fun u G' L' => ∃ (a1 : Option Addr) (c2 : Nat) (a3 : Option Addr) (c4 : Nat), u = .tuple #[.agg #[I (((serveRead s).1).head.epoch), U (((serveRead s).1).head.root), U (((serveRead s).1).head.prev), I (((serveRead s).1).head.at_), Sr (((serveRead s).1).proof.name), Sl a1 ((((serveRead s).1).proof.entries).length) c2, Sl a3 ((((serveRead s).1).proof.sides).length) c4], I ((serveRead s).2)] ∧ (-9223372036854775808 ≤ (((serveRead s).1).head.epoch) ∧ (((serveRead s).1).head.epoch) < 9223372036854775808) ∧ (0 ≤ (((serveRead s).1).head.root) ∧ (((serveRead s).1).head.root) < 18446744073709551616) ∧ (0 ≤ (((serveRead s).1).head.prev) ∧ (((serveRead s).1).head.prev) < 18446744073709551616) ∧ (-9223372036854775808 ≤ (((serveRead s).1).head.at_) ∧ (((serveRead s).1).head.at_) < 9223372036854775808) ∧ ((((serveRead s).1).proof.name).length ≤ 140737488351232) ∧ (RS EEnt G' a1 c2 (((serveRead s).1).proof.entries)) ∧ (RS EU G' a3 c4 (((serveRead s).1).proof.sides)) ∧ L' = []) := by
  refine con_of Tryz.func7 30 [(0, Sr s)] rfl (fun w0 G0 => ?_)
  refine tc_seq ?_
  refine tc_region ?_
  refine runL_box 2 #[I 0, U 0, U 0, I 0, Sr ([]), Sl none 0 0, Sl none 0 0] 30 (fun b1 => ?_)
  refine runL_bn [0] [] ?_
  refine runL_nil ?_
  refine tq_then ?_
  refine tc_seq ?_
  refine tc_region ?_
  refine runL_bn [0] [(9, Sr s)] ?_
  refine runL_callR 10 (rdRead_con G s hw_s) (fun v G1 L1 hl1 hp => ?_)
  obtain ⟨a1, c1, a2, c2, rfl, w1, w2, w3, w4, w5, hs1, hs2, rfl⟩ := hp
  refine runL_bn [0,0,0] [(11, .agg #[I (((rdRead s).1).head.epoch), U (((rdRead s).1).head.root), U (((rdRead s).1).head.prev), I (((rdRead s).1).head.at_), Sr (((rdRead s).1).proof.name), Sl a1 ((((rdRead s).1).proof.entries).length) c1, Sl a2 ((((rdRead s).1).proof.sides).length) c2]), (12, Bo ((rdRead s).2))] ?_
  refine runL_box 4 #[I 0, U 0, U 0, I 0, Sr ([]), Sl none 0 0, Sl none 0 0] 30 (fun b2 => ?_)
  refine runL_bsn [3,0] [(5, Bo ((rdRead s).2))] [[Sg b2 0 [I (((rdRead s).1).head.epoch), U (((rdRead s).1).head.root), U (((rdRead s).1).head.prev), I (((rdRead s).1).head.at_), Sr (((rdRead s).1).proof.name), Sl a1 ((((rdRead s).1).proof.entries).length) c1, Sl a2 ((((rdRead s).1).proof.sides).length) c2]], [Sg b1 0 [I 0, U 0, U 0, I 0, Sr ([]), Sl none 0 0, Sl none 0 0]]] ?_
  refine runL_nil ?_
  refine tq_then ?_
  refine tc_seq ?_
  refine tc_rbn [0,0] [(14, Bo (!((rdRead s).2)))] ?_
  refine tc_condP (!((rdRead s).2)) (fun h1 => ?_) (fun h1 => ?_)
  ·
    refine tc_rbn [0,5,0] [(3, I 3)] ?_
    refine tc_ret ?_
    refine tq_then_ret ?_
    have hf1 : serveRead s = ((⟨(⟨0, 0, 0, 0⟩ : HeadD), (⟨[], [], []⟩ : ProofD)⟩ : ReplyD), 3) := by
      unfold serveRead replyZ proofZ headZ; simp_all; try omega
    refine tq_ret [1, 0] [.agg #[I 0, U 0, U 0, I 0, Sr ([]), Sl none 0 0, Sl none 0 0], I 3] (bp_rowsA [] hl1 ?_)
    rw [hf1]
    try dsimp only
    exact ⟨none, 0, none, 0, rfl, (by first | assumption | omega | (simp; done)), (by first | assumption | omega | (simp; done)), (by first | assumption | omega | (simp; done)), (by first | assumption | omega | (simp; done)), (by first | assumption | omega | (simp; done)), (RS.nil' EEnt G1), (RS.nil' EU G1), rfl⟩
  ·
    refine tc_skip ?_
    refine tq_then ?_
    refine tc_seq ?_
    refine tc_seq ?_
    refine tc_region ?_
    refine runL_bn [2] [(17, .agg #[I (((rdRead s).1).head.epoch), U (((rdRead s).1).head.root), U (((rdRead s).1).head.prev), I (((rdRead s).1).head.at_), Sr (((rdRead s).1).proof.name), Sl a1 ((((rdRead s).1).proof.entries).length) c1, Sl a2 ((((rdRead s).1).proof.sides).length) c2])] ?_
    refine runL_callR 18 (serveSaid_con G1 [I (((rdRead s).1).head.epoch), U (((rdRead s).1).head.root), U (((rdRead s).1).head.prev), I (((rdRead s).1).head.at_), Sr (((rdRead s).1).proof.name), Sl a1 ((((rdRead s).1).proof.entries).length) c1, Sl a2 ((((rdRead s).1).proof.sides).length) c2] (((rdRead s).1)) (⟨a1, c1, a2, c2, rfl, w1, w2, w3, w4, w5, hs1, hs2⟩)) (fun v G2 L1 hl2 hp => ?_)
    obtain ⟨rfl, w6, rfl⟩ := hp
    refine runL_bn [0,0,0,0,0] [(6, Sr ((serveSaid (((rdRead s).1))).1)), (7, I ((serveSaid (((rdRead s).1))).2))] ?_
    refine runL_nil ?_
    refine tq_then ?_
    refine tc_seq ?_
    refine tc_region ?_
    refine runL_bn [0,0,0] [(23, Bo (!decide ((serveSaid (((rdRead s).1))).2 = 0)))] ?_
    refine runL_b2n (!decide ((serveSaid (((rdRead s).1))).2 = 0)) [23] [1,1,1,0] [0,0,0,0] (fun bb => [(27, Bo (bb || (!((B ((serveSaid (((rdRead s).1))).1)).toList == (B s).toList))))]) ?_
    refine runL_put 27 (Bo ((!decide ((serveSaid (((rdRead s).1))).2 = 0)) || (!((serveSaid (((rdRead s).1))).1 == s)))) ((show (Bo ((!decide ((serveSaid (((rdRead s).1))).2 = 0)) || (!((B ((serveSaid (((rdRead s).1))).1)).toList == (B s).toList))) : Value) = Bo ((!decide ((serveSaid (((rdRead s).1))).2 = 0)) || (!((serveSaid (((rdRead s).1))).1 == s))) by simp only [B_toList])) ?_
    refine runL_nil ?_
    refine tq_then ?_
    refine tc_condP ((!decide ((serveSaid (((rdRead s).1))).2 = 0)) || (!((serveSaid (((rdRead s).1))).1 == s))) (fun h2 => ?_) (fun h2 => ?_)
    ·
      refine tc_rbn [0,5,0] [(3, I 3)] ?_
      refine tc_ret ?_
      refine tq_then_ret ?_
      have hf2 : serveRead s = ((⟨(⟨0, 0, 0, 0⟩ : HeadD), (⟨[], [], []⟩ : ProofD)⟩ : ReplyD), 3) := by
        unfold serveRead replyZ proofZ headZ; simp_all; try omega
      refine tq_ret [1, 0] [.agg #[I 0, U 0, U 0, I 0, Sr ([]), Sl none 0 0, Sl none 0 0], I 3] (bp_rowsA [] (Mem.le_trans hl1 hl2) ?_)
      rw [hf2]
      try dsimp only
      exact ⟨none, 0, none, 0, rfl, (by first | assumption | omega | (simp; done)), (by first | assumption | omega | (simp; done)), (by first | assumption | omega | (simp; done)), (by first | assumption | omega | (simp; done)), (by first | assumption | omega | (simp; done)), (RS.nil' EEnt G2), (RS.nil' EU G2), rfl⟩
    ·
      refine tc_skip ?_
      refine tq_then ?_
      refine tc_rbsn [2,5,0] [(3, I 0)] [[Sg b2 0 [I (((rdRead s).1).head.epoch), U (((rdRead s).1).head.root), U (((rdRead s).1).head.prev), I (((rdRead s).1).head.at_), Sr (((rdRead s).1).proof.name), Sl a1 ((((rdRead s).1).proof.entries).length) c1, Sl a2 ((((rdRead s).1).proof.sides).length) c2]], [Sg b1 0 [I (((rdRead s).1).head.epoch), U (((rdRead s).1).head.root), U (((rdRead s).1).head.prev), I (((rdRead s).1).head.at_), Sr (((rdRead s).1).proof.name), Sl a1 ((((rdRead s).1).proof.entries).length) c1, Sl a2 ((((rdRead s).1).proof.sides).length) c2]]] ?_
      refine tc_ret ?_
      have hf3 : serveRead s = (((rdRead s).1), 0) := by
        unfold serveRead replyZ proofZ headZ; simp_all; try omega
      refine tq_ret [1, 0] [.agg #[I (((rdRead s).1).head.epoch), U (((rdRead s).1).head.root), U (((rdRead s).1).head.prev), I (((rdRead s).1).head.at_), Sr (((rdRead s).1).proof.name), Sl a1 ((((rdRead s).1).proof.entries).length) c1, Sl a2 ((((rdRead s).1).proof.sides).length) c2], I 0] (bp_rowsA [] (Mem.le_trans hl1 hl2) ?_)
      rw [hf3]
      try dsimp only
      exact ⟨a1, c1, a2, c2, rfl, (by first | assumption | omega | (simp; done)), (by first | assumption | omega | (simp; done)), (by first | assumption | omega | (simp; done)), (by first | assumption | omega | (simp; done)), (by first | assumption | omega | (simp; done)), (hs1.mono hl2), (hs2.mono hl2), rfl⟩

theorem serveBack_con (G : Mem) (vs_r : List Value) (r : ReplyD) (h_r : EReply.R G vs_r r) (s : List UInt8) (hw_s : (s).length ≤ 140737488351232)  : ConV 3 #[.agg vs_r.toArray, Sr s] G (Bo true) := by
  obtain ⟨a1, c1, a2, c2, rfl, w1, w2, w3, w4, w5, hs1, hs2⟩ := h_r
  refine con_of Tryz.func3 57 [(0, .agg #[I r.head.epoch, U r.head.root, U r.head.prev, I r.head.at_, Sr r.proof.name, Sl a1 r.proof.entries.length c1, Sl a2 r.proof.sides.length c2]), (1, Sr s)] rfl (fun w0 G0 => ?_)
  refine tc_seq ?_
  refine tc_region ?_
  refine runL_box 2 #[I r.head.epoch, U r.head.root, U r.head.prev, I r.head.at_, Sr r.proof.name, Sl a1 r.proof.entries.length c1, Sl a2 r.proof.sides.length c2] 30 (fun b1 => ?_)
  refine runL_bn [0] [] ?_
  refine runL_nil ?_
  refine tq_then ?_
  refine tc_seq ?_
  refine tc_seq ?_
  refine tc_region ?_
  refine runL_callV 13 (Bo true) (serves_con G) ?_
  refine runL_bn [0] [(14, Bo false)] ?_
  refine runL_nil ?_
  refine tq_then ?_
  refine tc_cond_false ?_
  refine tc_skip ?_
  refine tq_then ?_
  refine tc_seq ?_
  refine tc_region ?_
  refine runL_bn [2] [(16, .agg #[I r.head.epoch, U r.head.root, U r.head.prev, I r.head.at_, Sr r.proof.name, Sl a1 r.proof.entries.length c1, Sl a2 r.proof.sides.length c2])] ?_
  refine runL_callR 17 (serveSaid_con G [I r.head.epoch, U r.head.root, U r.head.prev, I r.head.at_, Sr r.proof.name, Sl a1 r.proof.entries.length c1, Sl a2 r.proof.sides.length c2] r (⟨a1, c1, a2, c2, rfl, w1, w2, w3, w4, w5, hs1, hs2⟩)) (fun v G1 L1 hl1 hp => ?_)
  obtain ⟨rfl, w6, rfl⟩ := hp
  refine runL_bn [0,0,0,0,0] [(5, Sr ((serveSaid r).1)), (6, I ((serveSaid r).2))] ?_
  refine runL_nil ?_
  refine tq_then ?_
  refine tc_seq ?_
  refine tc_rbn [0,0] [(21, Bo (decide ((serveSaid r).2 = 0)))] ?_
  refine tc_condP (decide ((serveSaid r).2 = 0)) (fun h1 => ?_) (fun h1 => ?_)
  ·
    refine tc_seq ?_
    refine tc_region ?_
    refine runL_bn [0] [(23, Sr ((serveSaid r).1))] ?_
    refine runL_callR 24 (serveRead_con G1 ((serveSaid r).1) w6) (fun v G2 L1 hl2 hp => ?_)
    obtain ⟨a3, c3, a4, c4, rfl, w7, w8, w9, w10, w11, hs3, hs4, rfl⟩ := hp
    refine runL_bn [0,0,0] [(25, .agg #[I (((serveRead ((serveSaid r).1)).1).head.epoch), U (((serveRead ((serveSaid r).1)).1).head.root), U (((serveRead ((serveSaid r).1)).1).head.prev), I (((serveRead ((serveSaid r).1)).1).head.at_), Sr (((serveRead ((serveSaid r).1)).1).proof.name), Sl a3 ((((serveRead ((serveSaid r).1)).1).proof.entries).length) c3, Sl a4 ((((serveRead ((serveSaid r).1)).1).proof.sides).length) c4]), (26, I ((serveRead ((serveSaid r).1)).2))] ?_
    refine runL_box 7 #[I 0, U 0, U 0, I 0, Sr ([]), Sl none 0 0, Sl none 0 0] 30 (fun b2 => ?_)
    refine runL_bsn [3,0] [(8, I ((serveRead ((serveSaid r).1)).2))] [[Sg b2 0 [I (((serveRead ((serveSaid r).1)).1).head.epoch), U (((serveRead ((serveSaid r).1)).1).head.root), U (((serveRead ((serveSaid r).1)).1).head.prev), I (((serveRead ((serveSaid r).1)).1).head.at_), Sr (((serveRead ((serveSaid r).1)).1).proof.name), Sl a3 ((((serveRead ((serveSaid r).1)).1).proof.entries).length) c3, Sl a4 ((((serveRead ((serveSaid r).1)).1).proof.sides).length) c4]], [Sg b1 0 [I r.head.epoch, U r.head.root, U r.head.prev, I r.head.at_, Sr r.proof.name, Sl a1 r.proof.entries.length c1, Sl a2 r.proof.sides.length c2]]] ?_
    refine runL_nil ?_
    refine tq_then ?_
    refine tc_seq ?_
    refine tc_region ?_
    refine runL_bn [0,0,0] [(29, Bo (!decide ((serveRead ((serveSaid r).1)).2 = 0)))] ?_
    refine runL_casesT [29] (!decide ((serveRead ((serveSaid r).1)).2 = 0)) (fun h2 => ?_) (fun h2 => ?_)
    ·
      refine runL_bn [1,1,1,1,0] [(34, Bo true)] ?_
      refine runL_nil ?_
      refine tq_then ?_
      refine tc_cond_true ?_
      refine tc_rbn [0] [(4, Bo false)] ?_
      refine tc_ret ?_
      refine tq_then_ret ?_
      refine tq_ret [0] [Bo false] (bp_ret (Mem.le_trans hl1 hl2) ?_)
      exfalso
      first | (have q_ := read_said (r := r) ⟨by unfold HeadW; omega, rsU_w (by assumption)⟩ h1; first | (rw [q_] at h2; exact h2 rfl) | (rw [q_] at h3; exact h3 rfl)) | (rw [serveRead_err (by assumption)]; decide) | (rw [serveRead_ok (by assumption)]; simp)
    ·
      refine runL_bn [2,4] [(30, .agg #[I (((serveRead ((serveSaid r).1)).1).head.epoch), U (((serveRead ((serveSaid r).1)).1).head.root), U (((serveRead ((serveSaid r).1)).1).head.prev), I (((serveRead ((serveSaid r).1)).1).head.at_), Sr (((serveRead ((serveSaid r).1)).1).proof.name), Sl a3 ((((serveRead ((serveSaid r).1)).1).proof.entries).length) c3, Sl a4 ((((serveRead ((serveSaid r).1)).1).proof.sides).length) c4]), (31, .agg #[I r.head.epoch, U r.head.root, U r.head.prev, I r.head.at_, Sr r.proof.name, Sl a1 r.proof.entries.length c1, Sl a2 r.proof.sides.length c2])] ?_
      refine runL_callV 32 (Bo (decide (((serveRead ((serveSaid r).1)).1) = r))) (sameR_con G2 [I (((serveRead ((serveSaid r).1)).1).head.epoch), U (((serveRead ((serveSaid r).1)).1).head.root), U (((serveRead ((serveSaid r).1)).1).head.prev), I (((serveRead ((serveSaid r).1)).1).head.at_), Sr (((serveRead ((serveSaid r).1)).1).proof.name), Sl a3 ((((serveRead ((serveSaid r).1)).1).proof.entries).length) c3, Sl a4 ((((serveRead ((serveSaid r).1)).1).proof.sides).length) c4] (((serveRead ((serveSaid r).1)).1)) (⟨a3, c3, a4, c4, rfl, w7, w8, w9, w10, w11, hs3, hs4⟩) [I r.head.epoch, U r.head.root, U r.head.prev, I r.head.at_, Sr r.proof.name, Sl a1 r.proof.entries.length c1, Sl a2 r.proof.sides.length c2] r (⟨a1, c1, a2, c2, rfl, w1, w2, w3, w4, w5, (hs1.mono (Mem.le_trans hl1 hl2)), (hs2.mono (Mem.le_trans hl1 hl2))⟩)) ?_
      refine runL_bn [0,0] [(34, Bo (!(decide (((serveRead ((serveSaid r).1)).1) = r))))] ?_
      refine runL_nil ?_
      refine tq_then ?_
      refine tc_condP (!(decide (((serveRead ((serveSaid r).1)).1) = r))) (fun h3 => ?_) (fun h3 => ?_)
      ·
        refine tc_rbn [0] [(4, Bo false)] ?_
        refine tc_ret ?_
        refine tq_then_ret ?_
        refine tq_ret [0] [Bo false] (bp_ret (Mem.le_trans hl1 hl2) ?_)
        exfalso
        first | (have q_ := read_said (r := r) ⟨by unfold HeadW; omega, rsU_w (by assumption)⟩ h1; first | (rw [q_] at h2; exact h2 rfl) | (rw [q_] at h3; exact h3 rfl)) | (rw [serveRead_err (by assumption)]; decide) | (rw [serveRead_ok (by assumption)]; simp)
      ·
        refine tc_skip ?_
        refine tq_then ?_
        refine tc_seq ?_
        refine tc_region ?_
        refine runL_bn [0] [(36, Sr s)] ?_
        refine runL_callR 37 (serveRead_con G2 s hw_s) (fun v G3 L1 hl3 hp => ?_)
        obtain ⟨a5, c5, a6, c6, rfl, w12, w13, w14, w15, w16, hs5, hs6, rfl⟩ := hp
        refine runL_bn [0,0,0] [(38, .agg #[I (((serveRead s).1).head.epoch), U (((serveRead s).1).head.root), U (((serveRead s).1).head.prev), I (((serveRead s).1).head.at_), Sr (((serveRead s).1).proof.name), Sl a5 ((((serveRead s).1).proof.entries).length) c5, Sl a6 ((((serveRead s).1).proof.sides).length) c6]), (39, I ((serveRead s).2))] ?_
        refine runL_box 9 #[I 0, U 0, U 0, I 0, Sr ([]), Sl none 0 0, Sl none 0 0] 30 (fun b3 => ?_)
        refine runL_bsn [3,0] [(10, I ((serveRead s).2))] [[Sg b3 0 [I (((serveRead s).1).head.epoch), U (((serveRead s).1).head.root), U (((serveRead s).1).head.prev), I (((serveRead s).1).head.at_), Sr (((serveRead s).1).proof.name), Sl a5 ((((serveRead s).1).proof.entries).length) c5, Sl a6 ((((serveRead s).1).proof.sides).length) c6]], [Sg b2 0 [I (((serveRead ((serveSaid r).1)).1).head.epoch), U (((serveRead ((serveSaid r).1)).1).head.root), U (((serveRead ((serveSaid r).1)).1).head.prev), I (((serveRead ((serveSaid r).1)).1).head.at_), Sr (((serveRead ((serveSaid r).1)).1).proof.name), Sl a3 ((((serveRead ((serveSaid r).1)).1).proof.entries).length) c3, Sl a4 ((((serveRead ((serveSaid r).1)).1).proof.sides).length) c4]], [Sg b1 0 [I r.head.epoch, U r.head.root, U r.head.prev, I r.head.at_, Sr r.proof.name, Sl a1 r.proof.entries.length c1, Sl a2 r.proof.sides.length c2]]] ?_
        refine runL_nil ?_
        refine tq_then ?_
        refine tc_seq ?_
        refine tc_rbn [0,0] [(41, Bo (!decide ((serveRead s).2 = 0)))] ?_
        refine tc_condP (!decide ((serveRead s).2 = 0)) (fun h4 => ?_) (fun h4 => ?_)
        ·
          refine tc_seq ?_
          refine tc_region ?_
          refine runL_bn [2,0] [(42, .agg #[I (((serveRead s).1).head.epoch), U (((serveRead s).1).head.root), U (((serveRead s).1).head.prev), I (((serveRead s).1).head.at_), Sr (((serveRead s).1).proof.name), Sl a5 ((((serveRead s).1).proof.entries).length) c5, Sl a6 ((((serveRead s).1).proof.sides).length) c6]), (43, .agg #[I 0, U 0, U 0, I 0, Sr ([]), Sl none 0 0, Sl none 0 0])] ?_
          refine runL_callV 44 (Bo (decide (((serveRead s).1) = (⟨(⟨0, 0, 0, 0⟩ : HeadD), (⟨[], [], []⟩ : ProofD)⟩ : ReplyD)))) (sameR_con G3 [I (((serveRead s).1).head.epoch), U (((serveRead s).1).head.root), U (((serveRead s).1).head.prev), I (((serveRead s).1).head.at_), Sr (((serveRead s).1).proof.name), Sl a5 ((((serveRead s).1).proof.entries).length) c5, Sl a6 ((((serveRead s).1).proof.sides).length) c6] (((serveRead s).1)) (⟨a5, c5, a6, c6, rfl, w12, w13, w14, w15, w16, hs5, hs6⟩) [I 0, U 0, U 0, I 0, Sr ([]), Sl none 0 0, Sl none 0 0] ((⟨(⟨0, 0, 0, 0⟩ : HeadD), (⟨[], [], []⟩ : ProofD)⟩ : ReplyD)) (⟨none, 0, none, 0, rfl, (by first | assumption | omega | (simp; done) | (simp; omega)), (by first | assumption | omega | (simp; done) | (simp; omega)), (by first | assumption | omega | (simp; done) | (simp; omega)), (by first | assumption | omega | (simp; done) | (simp; omega)), (Nat.le_of_ble_eq_true rfl), (RS.nil' EEnt G3), (RS.nil' EU G3)⟩)) ?_
          refine runL_bn [0] [(4, Bo (decide (((serveRead s).1) = (⟨(⟨0, 0, 0, 0⟩ : HeadD), (⟨[], [], []⟩ : ProofD)⟩ : ReplyD))))] ?_
          refine runL_nil ?_
          refine tq_then ?_
          refine tc_ret ?_
          refine tq_then_ret ?_
          refine tq_ret [0] [Bo (decide (((serveRead s).1) = (⟨(⟨0, 0, 0, 0⟩ : HeadD), (⟨[], [], []⟩ : ProofD)⟩ : ReplyD)))] (bp_ret (Mem.le_trans (Mem.le_trans hl1 hl2) hl3) ?_)
          have hf_ : (decide (((serveRead s).1) = (⟨(⟨0, 0, 0, 0⟩ : HeadD), (⟨[], [], []⟩ : ProofD)⟩ : ReplyD))) = true := by
            first | (have q_ := read_said (r := r) ⟨by unfold HeadW; omega, rsU_w (by assumption)⟩ h1; first | (rw [q_] at h2; exact h2 rfl) | (rw [q_] at h3; exact h3 rfl)) | (rw [serveRead_err (by assumption)]; decide) | (rw [serveRead_ok (by assumption)]; simp)
          exact congrArg Bo hf_
        ·
          refine tc_skip ?_
          refine tq_then ?_
          refine tc_seq ?_
          refine tc_region ?_
          refine runL_bn [2] [(46, .agg #[I (((serveRead s).1).head.epoch), U (((serveRead s).1).head.root), U (((serveRead s).1).head.prev), I (((serveRead s).1).head.at_), Sr (((serveRead s).1).proof.name), Sl a5 ((((serveRead s).1).proof.entries).length) c5, Sl a6 ((((serveRead s).1).proof.sides).length) c6])] ?_
          refine runL_callR 47 (serveSaid_con G3 [I (((serveRead s).1).head.epoch), U (((serveRead s).1).head.root), U (((serveRead s).1).head.prev), I (((serveRead s).1).head.at_), Sr (((serveRead s).1).proof.name), Sl a5 ((((serveRead s).1).proof.entries).length) c5, Sl a6 ((((serveRead s).1).proof.sides).length) c6] (((serveRead s).1)) (⟨a5, c5, a6, c6, rfl, w12, w13, w14, w15, w16, hs5, hs6⟩)) (fun v G4 L1 hl4 hp => ?_)
          obtain ⟨rfl, w17, rfl⟩ := hp
          refine runL_bn [0,0,0,0,0] [(11, Sr ((serveSaid (((serveRead s).1))).1)), (12, I ((serveSaid (((serveRead s).1))).2))] ?_
          refine runL_nil ?_
          refine tq_then ?_
          refine tc_seq ?_
          refine tc_region ?_
          refine runL_bn [0,0,0] [(52, Bo (decide ((serveSaid (((serveRead s).1))).2 = 0)))] ?_
          refine runL_b2n (decide ((serveSaid (((serveRead s).1))).2 = 0)) [52] [0,0,0,0] [1,1,1,0] (fun bb => [(56, Bo (bb && (((B ((serveSaid (((serveRead s).1))).1)).toList == (B s).toList))))]) ?_
          refine runL_put 56 (Bo ((decide ((serveSaid (((serveRead s).1))).2 = 0)) && (((serveSaid (((serveRead s).1))).1 == s)))) ((show (Bo ((decide ((serveSaid (((serveRead s).1))).2 = 0)) && (((B ((serveSaid (((serveRead s).1))).1)).toList == (B s).toList))) : Value) = Bo ((decide ((serveSaid (((serveRead s).1))).2 = 0)) && (((serveSaid (((serveRead s).1))).1 == s))) by simp only [B_toList])) ?_
          refine runL_bn [0] [(4, Bo ((decide ((serveSaid (((serveRead s).1))).2 = 0)) && (((serveSaid (((serveRead s).1))).1 == s))))] ?_
          refine runL_nil ?_
          refine tq_then ?_
          refine tc_ret ?_
          refine tq_ret [0] [Bo ((decide ((serveSaid (((serveRead s).1))).2 = 0)) && (((serveSaid (((serveRead s).1))).1 == s)))] (bp_ret (Mem.le_trans (Mem.le_trans (Mem.le_trans hl1 hl2) hl3) hl4) ?_)
          have hf_ : ((decide ((serveSaid (((serveRead s).1))).2 = 0)) && (((serveSaid (((serveRead s).1))).1 == s))) = true := by
            first | (have q_ := read_said (r := r) ⟨by unfold HeadW; omega, rsU_w (by assumption)⟩ h1; first | (rw [q_] at h2; exact h2 rfl) | (rw [q_] at h3; exact h3 rfl)) | (rw [serveRead_err (by assumption)]; decide) | (rw [serveRead_ok (by assumption)]; simp)
          exact congrArg Bo hf_
  ·
    refine tc_skip ?_
    refine tq_then ?_
    refine tc_seq ?_
    refine tc_region ?_
    refine runL_bn [0] [(36, Sr s)] ?_
    refine runL_callR 37 (serveRead_con G1 s hw_s) (fun v G5 L1 hl5 hp => ?_)
    obtain ⟨a7, c7, a8, c8, rfl, w18, w19, w20, w21, w22, hs7, hs8, rfl⟩ := hp
    refine runL_bn [0,0,0] [(38, .agg #[I (((serveRead s).1).head.epoch), U (((serveRead s).1).head.root), U (((serveRead s).1).head.prev), I (((serveRead s).1).head.at_), Sr (((serveRead s).1).proof.name), Sl a7 ((((serveRead s).1).proof.entries).length) c7, Sl a8 ((((serveRead s).1).proof.sides).length) c8]), (39, I ((serveRead s).2))] ?_
    refine runL_box 9 #[I 0, U 0, U 0, I 0, Sr ([]), Sl none 0 0, Sl none 0 0] 30 (fun b4 => ?_)
    refine runL_bsn [3,0] [(10, I ((serveRead s).2))] [[Sg b4 0 [I (((serveRead s).1).head.epoch), U (((serveRead s).1).head.root), U (((serveRead s).1).head.prev), I (((serveRead s).1).head.at_), Sr (((serveRead s).1).proof.name), Sl a7 ((((serveRead s).1).proof.entries).length) c7, Sl a8 ((((serveRead s).1).proof.sides).length) c8]], [Sg b1 0 [I r.head.epoch, U r.head.root, U r.head.prev, I r.head.at_, Sr r.proof.name, Sl a1 r.proof.entries.length c1, Sl a2 r.proof.sides.length c2]]] ?_
    refine runL_nil ?_
    refine tq_then ?_
    refine tc_seq ?_
    refine tc_rbn [0,0] [(41, Bo (!decide ((serveRead s).2 = 0)))] ?_
    refine tc_condP (!decide ((serveRead s).2 = 0)) (fun h5 => ?_) (fun h5 => ?_)
    ·
      refine tc_seq ?_
      refine tc_region ?_
      refine runL_bn [2,0] [(42, .agg #[I (((serveRead s).1).head.epoch), U (((serveRead s).1).head.root), U (((serveRead s).1).head.prev), I (((serveRead s).1).head.at_), Sr (((serveRead s).1).proof.name), Sl a7 ((((serveRead s).1).proof.entries).length) c7, Sl a8 ((((serveRead s).1).proof.sides).length) c8]), (43, .agg #[I 0, U 0, U 0, I 0, Sr ([]), Sl none 0 0, Sl none 0 0])] ?_
      refine runL_callV 44 (Bo (decide (((serveRead s).1) = (⟨(⟨0, 0, 0, 0⟩ : HeadD), (⟨[], [], []⟩ : ProofD)⟩ : ReplyD)))) (sameR_con G5 [I (((serveRead s).1).head.epoch), U (((serveRead s).1).head.root), U (((serveRead s).1).head.prev), I (((serveRead s).1).head.at_), Sr (((serveRead s).1).proof.name), Sl a7 ((((serveRead s).1).proof.entries).length) c7, Sl a8 ((((serveRead s).1).proof.sides).length) c8] (((serveRead s).1)) (⟨a7, c7, a8, c8, rfl, w18, w19, w20, w21, w22, hs7, hs8⟩) [I 0, U 0, U 0, I 0, Sr ([]), Sl none 0 0, Sl none 0 0] ((⟨(⟨0, 0, 0, 0⟩ : HeadD), (⟨[], [], []⟩ : ProofD)⟩ : ReplyD)) (⟨none, 0, none, 0, rfl, (by first | assumption | omega | (simp; done) | (simp; omega)), (by first | assumption | omega | (simp; done) | (simp; omega)), (by first | assumption | omega | (simp; done) | (simp; omega)), (by first | assumption | omega | (simp; done) | (simp; omega)), (Nat.le_of_ble_eq_true rfl), (RS.nil' EEnt G5), (RS.nil' EU G5)⟩)) ?_
      refine runL_bn [0] [(4, Bo (decide (((serveRead s).1) = (⟨(⟨0, 0, 0, 0⟩ : HeadD), (⟨[], [], []⟩ : ProofD)⟩ : ReplyD))))] ?_
      refine runL_nil ?_
      refine tq_then ?_
      refine tc_ret ?_
      refine tq_then_ret ?_
      refine tq_ret [0] [Bo (decide (((serveRead s).1) = (⟨(⟨0, 0, 0, 0⟩ : HeadD), (⟨[], [], []⟩ : ProofD)⟩ : ReplyD)))] (bp_ret (Mem.le_trans hl1 hl5) ?_)
      have hf_ : (decide (((serveRead s).1) = (⟨(⟨0, 0, 0, 0⟩ : HeadD), (⟨[], [], []⟩ : ProofD)⟩ : ReplyD))) = true := by
        first | (have q_ := read_said (r := r) ⟨by unfold HeadW; omega, rsU_w (by assumption)⟩ h1; first | (rw [q_] at h2; exact h2 rfl) | (rw [q_] at h3; exact h3 rfl)) | (rw [serveRead_err (by assumption)]; decide) | (rw [serveRead_ok (by assumption)]; simp)
      exact congrArg Bo hf_
    ·
      refine tc_skip ?_
      refine tq_then ?_
      refine tc_seq ?_
      refine tc_region ?_
      refine runL_bn [2] [(46, .agg #[I (((serveRead s).1).head.epoch), U (((serveRead s).1).head.root), U (((serveRead s).1).head.prev), I (((serveRead s).1).head.at_), Sr (((serveRead s).1).proof.name), Sl a7 ((((serveRead s).1).proof.entries).length) c7, Sl a8 ((((serveRead s).1).proof.sides).length) c8])] ?_
      refine runL_callR 47 (serveSaid_con G5 [I (((serveRead s).1).head.epoch), U (((serveRead s).1).head.root), U (((serveRead s).1).head.prev), I (((serveRead s).1).head.at_), Sr (((serveRead s).1).proof.name), Sl a7 ((((serveRead s).1).proof.entries).length) c7, Sl a8 ((((serveRead s).1).proof.sides).length) c8] (((serveRead s).1)) (⟨a7, c7, a8, c8, rfl, w18, w19, w20, w21, w22, hs7, hs8⟩)) (fun v G6 L1 hl6 hp => ?_)
      obtain ⟨rfl, w23, rfl⟩ := hp
      refine runL_bn [0,0,0,0,0] [(11, Sr ((serveSaid (((serveRead s).1))).1)), (12, I ((serveSaid (((serveRead s).1))).2))] ?_
      refine runL_nil ?_
      refine tq_then ?_
      refine tc_seq ?_
      refine tc_region ?_
      refine runL_bn [0,0,0] [(52, Bo (decide ((serveSaid (((serveRead s).1))).2 = 0)))] ?_
      refine runL_b2n (decide ((serveSaid (((serveRead s).1))).2 = 0)) [52] [0,0,0,0] [1,1,1,0] (fun bb => [(56, Bo (bb && (((B ((serveSaid (((serveRead s).1))).1)).toList == (B s).toList))))]) ?_
      refine runL_put 56 (Bo ((decide ((serveSaid (((serveRead s).1))).2 = 0)) && (((serveSaid (((serveRead s).1))).1 == s)))) ((show (Bo ((decide ((serveSaid (((serveRead s).1))).2 = 0)) && (((B ((serveSaid (((serveRead s).1))).1)).toList == (B s).toList))) : Value) = Bo ((decide ((serveSaid (((serveRead s).1))).2 = 0)) && (((serveSaid (((serveRead s).1))).1 == s))) by simp only [B_toList])) ?_
      refine runL_bn [0] [(4, Bo ((decide ((serveSaid (((serveRead s).1))).2 = 0)) && (((serveSaid (((serveRead s).1))).1 == s))))] ?_
      refine runL_nil ?_
      refine tq_then ?_
      refine tc_ret ?_
      refine tq_ret [0] [Bo ((decide ((serveSaid (((serveRead s).1))).2 = 0)) && (((serveSaid (((serveRead s).1))).1 == s)))] (bp_ret (Mem.le_trans (Mem.le_trans hl1 hl5) hl6) ?_)
      have hf_ : ((decide ((serveSaid (((serveRead s).1))).2 = 0)) && (((serveSaid (((serveRead s).1))).1 == s))) = true := by
        first | (have q_ := read_said (r := r) ⟨by unfold HeadW; omega, rsU_w (by assumption)⟩ h1; first | (rw [q_] at h2; exact h2 rfl) | (rw [q_] at h3; exact h3 rfl)) | (rw [serveRead_err (by assumption)]; decide) | (rw [serveRead_ok (by assumption)]; simp)
      exact congrArg Bo hf_
end Go.Proofs.YtpofnmobbbcpgaaGreatDoor
