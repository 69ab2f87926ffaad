import Derived.Test.YtmpakffajpnffaaKbChain
namespace Go.Proofs.Ytmpakffajpnffaa
open Go.Tx
set_option linter.unusedVariables false
set_option linter.unusedSimpArgs false
def pairsOf (x : HeadD) (b : List HeadD) : List HHD := (b.filter fun y => decide (x.epoch = y.epoch)).map fun y => ⟨x, y⟩
def bothL (a b : List HeadD) : List HHD := (a.map fun x => pairsOf x b).flatten
theorem pairs_take {x y : HeadD} {b : List HeadD} {j : Nat} (h : b[j]? = some y) (e : x.epoch = y.epoch) : pairsOf x (b.take j) ++ [(⟨x, y⟩ : HHD)] = pairsOf x (b.take (j + 1)) := by
  unfold pairsOf; rw [List.take_add_one, h]; simp [e]
theorem pairs_skip {x y : HeadD} {b : List HeadD} {j : Nat} (h : b[j]? = some y) (e : ¬ x.epoch = y.epoch) : pairsOf x (b.take j) = pairsOf x (b.take (j + 1)) := by
  unfold pairsOf; rw [List.take_add_one, h]; simp [e]
theorem both_take {x : HeadD} {a b : List HeadD} {i : Nat} (h : a[i]? = some x) : bothL (a.take i) b ++ pairsOf x b = bothL (a.take (i + 1)) b := by
  unfold bothL; rw [List.take_add_one, h]; simp
theorem pairs_len (x : HeadD) (b : List HeadD) : (pairsOf x b).length ≤ b.length := by unfold pairsOf; rw [List.length_map]; exact List.length_filter_le _ _
theorem both_len (a b : List HeadD) : (bothL a b).length ≤ a.length * b.length := by
  unfold bothL
  induction a with
  | nil => simp
  | cons x a ih =>
    simp only [List.map_cons, List.flatten_cons, List.length_append, List.length_cons, Nat.add_mul, Nat.one_mul]
    have := pairs_len x b
    omega
theorem both_len2 {a b : List HeadD} (ha : a.length ≤ 40) (hb : b.length ≤ 40) (i : Nat) : (bothL (a.take i) b).length ≤ 1600 := by
  have h := both_len (a.take i) b
  have h1 : (a.take i).length ≤ 40 := by rw [List.length_take]; omega
  have h2 : (a.take i).length * b.length ≤ 40 * 40 := Nat.mul_le_mul h1 hb
  omega
theorem pairs_len2 (x : HeadD) {b : List HeadD} (hb : b.length ≤ 40) (j : Nat) : (pairsOf x (b.take j)).length ≤ 40 := by
  have := pairs_len x (b.take j)
  rw [List.length_take] at this; omega
def forkGo : List HHD → Int × Int
  | [] => (-1, 0)
  | p :: l => if p.x = p.y then forkGo l else (p.x.epoch, 0)
theorem forkGo_step {l : List HHD} {i : Nat} {p : HHD} (hp : l[i]? = some p) (h : p.x = p.y) : forkGo (l.drop i) = forkGo (l.drop (i + 1)) := by
  obtain ⟨h1, rfl⟩ := List.getElem?_eq_some_iff.1 hp
  rw [List.drop_eq_getElem_cons h1]
  show (if _ then _ else _) = _
  rw [if_pos h]
theorem forkGo_at {l : List HHD} {i : Nat} {p : HHD} (hp : l[i]? = some p) (h : ¬ p.x = p.y) : forkGo (l.drop i) = (p.x.epoch, 0) := by
  obtain ⟨h1, rfl⟩ := List.getElem?_eq_some_iff.1 hp
  rw [List.drop_eq_getElem_cons h1]
  show (if _ then _ else _) = _
  rw [if_neg h]
def chainFork (a b : List HeadD) : Int × Int := if checkAll [a, b] ≠ 0 then (0, checkAll [a, b]) else if (bothL a b).length = 0 then (0, 5) else forkGo (bothL a b)
theorem check2_iff {a b : List HeadD} : checkAll [a, b] = 0 ↔ ChainOk a ∧ ChainOk b := by rw [checkAll_iff]; simp
theorem check2_len {a b : List HeadD} (h : checkAll [a, b] = 0) : a.length ≤ 40 ∧ b.length ≤ 40 := by have := check2_iff.1 h; exact ⟨this.1.len, this.2.len⟩
theorem HH_get {p : HHD} : (p.x = p.y) ↔ p.x.epoch = p.y.epoch ∧ p.x.root = p.y.root ∧ p.x.prev = p.y.prev ∧ p.x.at_ = p.y.at_ := HeadD_ne
theorem pairs_mem {x : HeadD} {b : List HeadD} {p : HHD} : p ∈ pairsOf x b ↔ p.x = x ∧ p.y ∈ b ∧ x.epoch = p.y.epoch := by
  unfold pairsOf
  rw [List.mem_map]
  constructor
  · rintro ⟨y, hy, rfl⟩
    obtain ⟨h1, h2⟩ := List.mem_filter.1 hy
    exact ⟨rfl, h1, by simpa using h2⟩
  · rintro ⟨rfl, h2, h3⟩
    exact ⟨p.y, List.mem_filter.2 ⟨h2, by simpa using h3⟩, rfl⟩
theorem both_mem {a b : List HeadD} {p : HHD} : p ∈ bothL a b ↔ p.x ∈ a ∧ p.y ∈ b ∧ p.x.epoch = p.y.epoch := by
  unfold bothL
  rw [List.mem_flatten]
  constructor
  · rintro ⟨l, hl, hp⟩
    obtain ⟨x, hx, rfl⟩ := List.mem_map.1 hl
    obtain ⟨h1, h2, h3⟩ := pairs_mem.1 hp
    rw [h1]; exact ⟨hx, h2, h3⟩
  · rintro ⟨h1, h2, h3⟩
    exact ⟨pairsOf p.x b, List.mem_map.2 ⟨p.x, h1, rfl⟩, pairs_mem.2 ⟨rfl, h2, h3⟩⟩
theorem forkGo_same : ∀ (l : List HHD), (∀ p ∈ l, p.x = p.y) → forkGo l = (-1, 0)
  | [], _ => rfl
  | p :: l, h => by
    show (if p.x = p.y then forkGo l else _) = _
    rw [if_pos (h p (by simp)), forkGo_same l fun q hq => h q (by simp [hq])]
theorem ChainOk.uniq {l : List HeadD} (h : ChainOk l) {x y : HeadD} (hx : x ∈ l) (hy : y ∈ l) (e : x.epoch = y.epoch) : x = y := by
  obtain ⟨i, hi⟩ := List.getElem?_of_mem hx
  obtain ⟨j, hj⟩ := List.getElem?_of_mem hy
  have h1 := h.epoch _ _ hi
  have h2 := h.epoch _ _ hj
  have : i = j := by omega
  subst this
  rw [hi] at hj; exact Option.some.inj hj
theorem bothL_con (G : Mem) (a_a : Option Addr) (c_a : Nat) (a : List HeadD) (h_a : RS EHead G a_a c_a a) (a_b : Option Addr) (c_b : Nat) (b : List HeadD) (h_b : RS EHead G a_b c_b b) (ha : a.length ≤ 40) (hb : b.length ≤ 40) : Con Try.prog 25 #[Sl a_a a.length c_a, Sl a_b b.length c_b] G [] (fun u G' L' => ∃ (a1 : Option Addr) (c2 : Nat) (r3 : List Seg), u = Sl a1 ((bothL a b).length) c2 ∧ (TRow EHH G' a1 c2 (bothL a b) r3) ∧ L' = [r3]) := by
 refine con_of Try.func25 36 [(0, Sl a_a a.length c_a), (1, Sl a_b b.length c_b)] rfl (fun w0 G0 => ?_)
 refine tc_rb [0] [(0, Sl a_a a.length c_a), (1, Sl a_b b.length c_b)] ?_
 refine tc_rb [0] [(0, Sl a_a a.length c_a), (1, Sl a_b b.length c_b), (5, Sl none 0 0)] (tc_seq ?_)
 refine tc_rb [0,0,0] [(1, Sl a_b b.length c_b), (5, Sl none 0 0), (10, Sl a_a a.length c_a), (11, I (a.length : Int)), (12, I 0)] (tc_block ?_)
 refine tc_empty ?_
 have hlm_h_b : b.length ≤ 9223372036854775807 := Nat.le_trans (h_b).le (h_b).max
 have hlm_h_a : a.length ≤ 9223372036854775807 := Nat.le_trans (h_a).le (h_a).max
 refine tc_loop (σ := Nat × Option Addr × Nat × List Seg × List HHD × Mem) (fun q_ => (Mem.le G q_.2.2.2.2.2) ∧ (q_.1 ≤ a.length) ∧ (TRow EHH q_.2.2.2.2.2 q_.2.1 q_.2.2.1 q_.2.2.2.2.1 q_.2.2.2.1) ∧ (q_.2.2.2.2.1 = bothL (a.take q_.1) b)) (fun q_ => [(1, Sl a_b b.length c_b), (5, Sl q_.2.1 q_.2.2.2.2.1.length q_.2.2.1), (10, Sl a_a a.length c_a), (11, I (a.length : Int)), (12, I (q_.1 : Int))]) (fun q_ => q_.2.2.2.2.2) (fun q_ => [q_.2.2.2.1]) (fun q_ => a.length - q_.1) (0, none, 0, [], [], G) ⟨(Mem.le_refl _), (by (try dsimp only); first | exact Nat.zero_le _ | omega | simp), (TRow.none EHH _), (by (try dsimp only); first | rfl | simp)⟩ (fun q_ hs => ?_)
 obtain ⟨i, ao, co, ro, xo, g⟩ := q_
 obtain ⟨hle, hi, hro, hxo⟩ := hs
 dsimp only at hle hi hro hxo
 refine tc_eq (fr' := [(1, Sl a_b b.length c_b), (5, Sl ao xo.length co), (10, Sl a_a a.length c_a), (11, I (a.length : Int)), (12, I (i : Int))]) (L' := [ro]) rfl rfl ?_
 refine tc_rb [0] [(1, Sl a_b b.length c_b), (5, Sl ao xo.length co), (10, Sl a_a a.length c_a), (11, I (a.length : Int)), (12, I (i : Int)), (13, Bo (decide ((i : Int) < (a.length : Int))))] (tc_seq ?_)
 refine tc_cond (decide ((i : Int) < (a.length : Int))) (fun h1 => ?_) (fun h1 => ?_)
 ·
  try simp only [BB] at h1
  refine tc_skip (tq_then (tc_seq (tc_block (tc_seq (tc_region ?_)))))
  obtain ⟨b1, o1, rfl⟩ := RS.addr (h_a.mono hle) (k := i) (by omega)
  obtain ⟨x1, hx1⟩ := getX (l := a) (k := i) (by omega)
  obtain ⟨_, ⟨rfl, w1, w2, w3, w4⟩, hc1⟩ := RS.get (h_a.mono hle) hx1
  refine runL_idx (b := b1) (off := o1) (len := a.length) (cap := c_a) (ik := .i64) 14 31 4 i (by omega) ?_
  refine runL_ldG 15 31 (cs := [I x1.epoch, U x1.root, U x1.prev, I x1.at_]) 0 (.agg #[I x1.epoch, U x1.root, U x1.prev, I x1.at_]) hc1 ?_
  refine runL_box 7 #[I 0, U 0, U 0, I 0] 31 (fun b2 => ?_)
  refine runL_bs [3] [(1, Sl a_b b.length c_b), (5, Sl ao xo.length co), (7, Pt b2 0), (10, Sl (At b1 o1) a.length c_a), (11, I (a.length : Int)), (12, I (i : Int))] [[Sg b2 0 [I x1.epoch, U x1.root, U x1.prev, I x1.at_]], ro] (runL_nil (tq_then ?_))
  refine tc_rb [0,0,0] [(1, Sl a_b b.length c_b), (5, Sl ao xo.length co), (7, Pt b2 0), (10, Sl (At b1 o1) a.length c_a), (11, I (a.length : Int)), (12, I (i : Int)), (16, Sl a_b b.length c_b), (17, I (b.length : Int)), (18, I 0)] (tc_block ?_)
  have hlm_h_b : b.length ≤ 9223372036854775807 := Nat.le_trans (h_b).le (h_b).max
  have hlm_h_a : a.length ≤ 9223372036854775807 := Nat.le_trans (h_a).le (h_a).max
  refine tc_loop (σ := Nat × Option Addr × Nat × List Seg × List HHD × Mem) (fun q_ => (Mem.le g q_.2.2.2.2.2) ∧ (q_.1 ≤ b.length) ∧ (TRow EHH q_.2.2.2.2.2 q_.2.1 q_.2.2.1 q_.2.2.2.2.1 q_.2.2.2.1) ∧ (q_.2.2.2.2.1 = xo ++ pairsOf x1 (b.take q_.1))) (fun q_ => [(1, Sl a_b b.length c_b), (5, Sl q_.2.1 q_.2.2.2.2.1.length q_.2.2.1), (7, Pt b2 0), (10, Sl (At b1 o1) a.length c_a), (11, I (a.length : Int)), (12, I (i : Int)), (16, Sl a_b b.length c_b), (17, I (b.length : Int)), (18, I (q_.1 : Int))]) (fun q_ => q_.2.2.2.2.2) (fun q_ => [[Sg b2 0 [I x1.epoch, U x1.root, U x1.prev, I x1.at_]], q_.2.2.2.1]) (fun q_ => b.length - q_.1) (0, ao, co, ro, xo, g) ⟨(Mem.le_refl _), (by (try dsimp only); first | exact Nat.zero_le _ | omega | simp), hro, (by (try dsimp only); simp [pairsOf])⟩ (fun q_ hs => ?_)
  obtain ⟨j, ap, cp, rp, xp, g1_⟩ := q_
  obtain ⟨hle1_, hi, hrp, hxp⟩ := hs
  dsimp only at hle1_ hi hrp hxp
  refine tc_eq (fr' := [(1, Sl a_b b.length c_b), (5, Sl ap xp.length cp), (7, Pt b2 0), (10, Sl (At b1 o1) a.length c_a), (11, I (a.length : Int)), (12, I (i : Int)), (16, Sl a_b b.length c_b), (17, I (b.length : Int)), (18, I (j : Int))]) (L' := [[Sg b2 0 [I x1.epoch, U x1.root, U x1.prev, I x1.at_]], rp]) rfl rfl ?_
  refine tc_rb [0] [(1, Sl a_b b.length c_b), (5, Sl ap xp.length cp), (7, Pt b2 0), (10, Sl (At b1 o1) a.length c_a), (11, I (a.length : Int)), (12, I (i : Int)), (16, Sl a_b b.length c_b), (17, I (b.length : Int)), (18, I (j : Int)), (19, Bo (decide ((j : Int) < (b.length : Int))))] (tc_seq ?_)
  refine tc_cond (decide ((j : Int) < (b.length : Int))) (fun h2 => ?_) (fun h2 => ?_)
  ·
   try simp only [BB] at h2
   refine tc_skip (tq_then (tc_seq (tc_block (tc_seq (tc_region ?_)))))
   obtain ⟨b3, o2, rfl⟩ := RS.addr (h_b.mono (Mem.le_trans hle hle1_)) (k := j) (by omega)
   obtain ⟨x2, hx2⟩ := getX (l := b) (k := j) (by omega)
   obtain ⟨_, ⟨rfl, w5, w6, w7, w8⟩, hc2⟩ := RS.get (h_b.mono (Mem.le_trans hle hle1_)) hx2
   refine runL_idx (b := b3) (off := o2) (len := b.length) (cap := c_b) (ik := .i64) 20 31 4 j (by omega) ?_
   refine runL_ldG 21 31 (cs := [I x2.epoch, U x2.root, U x2.prev, I x2.at_]) 0 (.agg #[I x2.epoch, U x2.root, U x2.prev, I x2.at_]) hc2 ?_
   refine runL_box 9 #[I 0, U 0, U 0, I 0] 31 (fun b4 => ?_)
   refine runL_bs [3] [(1, Sl (At b3 o2) b.length c_b), (5, Sl ap xp.length cp), (7, Pt b2 0), (9, Pt b4 0), (10, Sl (At b1 o1) a.length c_a), (11, I (a.length : Int)), (12, I (i : Int)), (16, Sl (At b3 o2) b.length c_b), (17, I (b.length : Int)), (18, I (j : Int))] [[Sg b4 0 [I x2.epoch, U x2.root, U x2.prev, I x2.at_]], [Sg b2 0 [I x1.epoch, U x1.root, U x1.prev, I x1.at_]], rp] (runL_nil (tq_then ?_))
   refine tc_rb [0,4,0,2,0] [(1, Sl (At b3 o2) b.length c_b), (5, Sl ap xp.length cp), (7, Pt b2 0), (9, Pt b4 0), (10, Sl (At b1 o1) a.length c_a), (11, I (a.length : Int)), (12, I (i : Int)), (16, Sl (At b3 o2) b.length c_b), (17, I (b.length : Int)), (18, I (j : Int)), (26, Bo (decide (x1.epoch = x2.epoch)))] ?_
   refine tc_cond (decide (x1.epoch = x2.epoch)) (fun h3 => ?_) (fun h3 => ?_)
   ·
    try simp only [BB] at h3
    refine tc_region ?_
    refine runL_b [0,4,2,0] [(1, Sl (At b3 o2) b.length c_b), (5, Sl ap xp.length cp), (7, Pt b2 0), (10, Sl (At b1 o1) a.length c_a), (11, I (a.length : Int)), (12, I (i : Int)), (16, Sl (At b3 o2) b.length c_b), (17, I (b.length : Int)), (18, I (j : Int)), (27, Sl ap xp.length cp), (30, .agg #[I x1.epoch, U x1.root, U x1.prev, I x1.at_, I x2.epoch, U x2.root, U x2.prev, I x2.at_])] ?_
    refine runL_bsl 31 1 #[I x1.epoch, U x1.root, U x1.prev, I x1.at_, I x2.epoch, U x2.root, U x2.prev, I x2.at_] 67 (fun b5 => ?_)
    refine runL_app1' (b := b5) (cs := [I x1.epoch, U x1.root, U x1.prev, I x1.at_, I x2.epoch, U x2.root, U x2.prev, I x2.at_]) 32 67 3 0 (E := EHH) (⟨x1, x2⟩ : HHD) hrp ⟨rfl, w1, w2, w3, w4, w5, w6, w7, w8⟩ (by have q_ := both_len2 ha hb i; have q1_ := pairs_len2 x1 hb j; have q2_ := congrArg List.length hxo; have q3_ := congrArg List.length hxp; (try simp only [EHH, List.length_append, List.length_cons, List.length_nil] at *); omega) (by have q_ := both_len2 ha hb i; have q1_ := pairs_len2 x1 hb j; have q2_ := congrArg List.length hxo; have q3_ := congrArg List.length hxp; (try simp only [EHH, List.length_append, List.length_cons, List.length_nil] at *); omega) (fun a1 c1 r1 hr1 => ?_)
    refine runL_b [0] [(1, Sl (At b3 o2) b.length c_b), (5, Sl a1 ((xp ++ [(⟨x1, x2⟩ : HHD)]).length) c1), (7, Pt b2 0), (10, Sl (At b1 o1) a.length c_a), (11, I (a.length : Int)), (12, I (i : Int)), (16, Sl (At b3 o2) b.length c_b), (17, I (b.length : Int)), (18, I (j : Int))] (runL_nil (tq_block (tq_then (tc_region ?_))))
    refine runL_b [0,0] [(1, Sl (At b3 o2) b.length c_b), (5, Sl a1 ((xp ++ [(⟨x1, x2⟩ : HHD)]).length) c1), (7, Pt b2 0), (10, Sl (At b1 o1) a.length c_a), (11, I (a.length : Int)), (12, I (i : Int)), (16, Sl (At b3 o2) b.length c_b), (17, I (b.length : Int)), (18, I (IntKind.i64.wrap ((j : Int) + 1)))] ?_
    have e1 : IntKind.i64.wrap ((j : Int) + 1) = (j : Int) + 1 := IntWalk.i64_in _ (by omega)
    refine runL_eq (fr' := [(1, Sl (At b3 o2) b.length c_b), (5, Sl a1 ((xp ++ [(⟨x1, x2⟩ : HHD)]).length) c1), (7, Pt b2 0), (10, Sl (At b1 o1) a.length c_a), (11, I (a.length : Int)), (12, I (i : Int)), (16, Sl (At b3 o2) b.length c_b), (17, I (b.length : Int)), (18, I ((j : Int) + 1))]) (L' := [[Sg b5 0 [I x1.epoch, U x1.root, U x1.prev, I x1.at_, I x2.epoch, U x2.root, U x2.prev, I x2.at_]], [Sg b4 0 [I x2.epoch, U x2.root, U x2.prev, I x2.at_]], [Sg b2 0 [I x1.epoch, U x1.root, U x1.prev, I x1.at_]], r1]) (by simp only [e1]) (by rfl) ?_
    clear e1
    refine runL_nil ?_
    refine tq_owns [[Sg b2 0 [I x1.epoch, U x1.root, U x1.prev, I x1.at_]], r1] (.cons _ (.cons _ (.cons_cons _ (.cons_cons _ .slnil)))) ?_
    exact tq_rnd (j + 1, a1, c1, r1, xp ++ [(⟨x1, x2⟩ : HHD)], g1_) ⟨(Mem.le_trans hle1_ (Mem.le_refl _)), (by omega), hr1, (by rw [hxp]; first | (rw [List.append_assoc]; exact congrArg _ (pairs_take hx2 (by assumption))) | exact congrArg _ (pairs_skip hx2 (by assumption)))⟩ (by (try dsimp only); omega)
   ·
    try simp only [BB] at h3
    refine tc_skip (tq_block (tq_then (tc_region ?_)))
    refine runL_b [0,0] [(1, Sl (At b3 o2) b.length c_b), (5, Sl ap xp.length cp), (7, Pt b2 0), (10, Sl (At b1 o1) a.length c_a), (11, I (a.length : Int)), (12, I (i : Int)), (16, Sl (At b3 o2) b.length c_b), (17, I (b.length : Int)), (18, I (IntKind.i64.wrap ((j : Int) + 1)))] ?_
    have e2 : IntKind.i64.wrap ((j : Int) + 1) = (j : Int) + 1 := IntWalk.i64_in _ (by omega)
    refine runL_eq (fr' := [(1, Sl (At b3 o2) b.length c_b), (5, Sl ap xp.length cp), (7, Pt b2 0), (10, Sl (At b1 o1) a.length c_a), (11, I (a.length : Int)), (12, I (i : Int)), (16, Sl (At b3 o2) b.length c_b), (17, I (b.length : Int)), (18, I ((j : Int) + 1))]) (L' := [[Sg b4 0 [I x2.epoch, U x2.root, U x2.prev, I x2.at_]], [Sg b2 0 [I x1.epoch, U x1.root, U x1.prev, I x1.at_]], rp]) (by simp only [e2]) (by rfl) ?_
    clear e2
    refine runL_nil ?_
    refine tq_owns [[Sg b2 0 [I x1.epoch, U x1.root, U x1.prev, I x1.at_]], rp] (.cons _ (.cons_cons _ (.cons_cons _ .slnil))) ?_
    exact tq_rnd (j + 1, ap, cp, rp, xp, g1_) ⟨(Mem.le_trans hle1_ (Mem.le_refl _)), (by omega), hrp, (by rw [hxp]; first | (rw [List.append_assoc]; exact congrArg _ (pairs_take hx2 (by assumption))) | exact congrArg _ (pairs_skip hx2 (by assumption)))⟩ (by (try dsimp only); omega)
  ·
   try simp only [BB] at h2
   refine tc_exit (tq_then_exit (tq_rnd_exit (tq_block_here (tq_block (tq_then (tc_region ?_))))))
   refine runL_b [0,0] [(1, Sl a_b b.length c_b), (5, Sl ap xp.length cp), (10, Sl (At b1 o1) a.length c_a), (11, I (a.length : Int)), (12, I (IntKind.i64.wrap ((i : Int) + 1)))] ?_
   have e3 : IntKind.i64.wrap ((i : Int) + 1) = (i : Int) + 1 := IntWalk.i64_in _ (by omega)
   refine runL_eq (fr' := [(1, Sl a_b b.length c_b), (5, Sl ap xp.length cp), (10, Sl (At b1 o1) a.length c_a), (11, I (a.length : Int)), (12, I ((i : Int) + 1))]) (L' := [[Sg b2 0 [I x1.epoch, U x1.root, U x1.prev, I x1.at_]], rp]) (by simp only [e3]) (by rfl) ?_
   clear e3
   refine runL_nil ?_
   refine tq_owns [rp] (.cons _ (.cons_cons _ .slnil)) ?_
   exact tq_rnd (i + 1, ap, cp, rp, xp, g1_) ⟨(Mem.le_trans hle hle1_), (by omega), hrp, (by rw [hxp, List.take_of_length_le (by omega), hxo]; exact both_take hx1)⟩ (by (try dsimp only); omega)
 ·
  try simp only [BB] at h1
  refine tc_exit (tq_then_exit (tq_rnd_exit (tq_block_here (tq_then ?_))))
  refine tc_rb [0,0] [(4, Sl ao xo.length co)] (tc_ret ?_)
  refine tq_front 0 ?_
  have hf1 : bothL a b = xo := by
   rw [hxo, List.take_of_length_le (by omega)]
  refine tq_ret [0] [Sl ao xo.length co] (bp_rows [ro] (.cons_cons _ .slnil) hle ?_)
  rw [hf1]
  try dsimp only
  exact ⟨ao, co, ro, rfl, hro, rfl⟩
theorem chainFork_con (G : Mem) (a_a : Option Addr) (c_a : Nat) (a : List HeadD) (h_a : RS EHead G a_a c_a a) (a_b : Option Addr) (c_b : Nat) (b : List HeadD) (h_b : RS EHead G a_b c_b b)  : Con Try.prog 7 #[Sl a_a a.length c_a, Sl a_b b.length c_b] G [] (fun u G' L' => u = .tuple #[I ((chainFork a b).1), I ((chainFork a b).2)]) := by
 refine con_of Try.func7 38 [(0, Sl a_a a.length c_a), (1, Sl a_b b.length c_b)] rfl (fun w0 G0 => ?_)
 refine tc_rb [0,0] [(0, Sl a_a a.length c_a), (1, Sl a_b b.length c_b)] (tc_seq (tc_seq (tc_region ?_)))
 refine runL_b [0,0] [(0, Sl a_a a.length c_a), (1, Sl a_b b.length c_b), (10, Sl a_a a.length c_a), (11, Sl a_b b.length c_b)] ?_
 refine runL_bsl 12 2 #[Sl a_a a.length c_a, Sl a_b b.length c_b] 22 (fun b1 => ?_)
 refine runL_frz1 (b := b1) (o := 0) (cs := [Sl a_a a.length c_a, Sl a_b b.length c_b]) 0 (fun G1 hl1 hz1 => ?_)
 have hs1 : RS ESlHead G1 (At b1 0) 2 [a, b] := RS.lit [[Sl a_a a.length c_a], [Sl a_b b.length c_b]] [a, b] ⟨⟨a_a, c_a, rfl, (h_a.mono hl1)⟩, ⟨⟨a_b, c_b, rfl, (h_b.mono hl1)⟩, trivial⟩⟩ hz1 (Nat.le_of_ble_eq_true rfl) (Nat.le_of_ble_eq_true rfl)
 refine runL_callV 13 (I (checkAll ([a, b]))) (checkAll_con G1 (At b1 0) 2 ([a, b]) hs1) ?_
 refine runL_b [0] [(0, Sl a_a a.length c_a), (1, Sl a_b b.length c_b), (6, I (checkAll ([a, b])))] (runL_nil (tq_then ?_))
 refine tc_rb [0,0] [(0, Sl a_a a.length c_a), (1, Sl a_b b.length c_b), (6, I (checkAll ([a, b]))), (15, Bo (!decide (checkAll ([a, b]) = 0)))] ?_
 refine tc_cond (!decide (checkAll ([a, b]) = 0)) (fun h1 => ?_) (fun h1 => ?_)
 ·
  try simp only [BB] at h1
  refine tc_rb [0,0,0] [(4, I 0), (5, I (checkAll ([a, b])))] (tc_ret (tq_then_ret ?_))
  refine tq_ret [0, 0] [I 0, I (checkAll ([a, b]))] (bp_ret hl1 ?_)
  have hf_ : (chainFork a b) = (0, (checkAll ([a, b]))) := by
   unfold chainFork; first | (simp_all; done) | (rw [if_neg (by omega), if_neg (by omega), hn]; first | (rw [forkGo_at hx1 (by rw [HH_get]; simp_all)]; done) | (rw [List.drop_eq_nil_of_le (by omega)]; rfl))
  (try rw [hf_]); first | with_reducible rfl | (simp only [packR]; done) | rfl
 ·
  try simp only [BB] at h1
  refine tc_skip (tq_then (tc_seq (tc_region ?_)))
  refine runL_b [0,0] [(17, Sl a_a a.length c_a), (18, Sl a_b b.length c_b)] ?_
  refine runL_callR 19 (bothL_con G1 a_a c_a a (h_a.mono hl1) a_b c_b b (h_b.mono hl1) (by first | assumption | exact (check2_len (by assumption)).1 | exact (check2_len (by assumption)).2) (by first | assumption | exact (check2_len (by assumption)).1 | exact (check2_len (by assumption)).2)) (fun v G2 L1 hl2 hp => ?_)
  obtain ⟨a1, c1, r1, rfl, hr1, rfl⟩ := hp
  refine runL_b [0] [(7, Sl a1 ((bothL a b).length) c1)] (runL_nil (tq_then (tc_seq ?_)))
  refine tc_rb [0,0,0] [(7, Sl a1 ((bothL a b).length) c1), (22, Bo (decide (((bothL a b).length : Int) = 0)))] ?_
  refine tc_cond (decide (((bothL a b).length : Int) = 0)) (fun h2 => ?_) (fun h2 => ?_)
  ·
   try simp only [BB] at h2
   refine tc_rb [0,0] [(4, I 0), (5, I 5)] (tc_ret (tq_then_ret ?_))
   refine tq_ret [0, 0] [I 0, I 5] (bp_ret (Mem.le_trans hl1 hl2) ?_)
   have hf_ : (chainFork a b) = (0, 5) := by
    unfold chainFork; first | (simp_all; done) | (rw [if_neg (by omega), if_neg (by omega), hn]; first | (rw [forkGo_at hx1 (by rw [HH_get]; simp_all)]; done) | (rw [List.drop_eq_nil_of_le (by omega)]; rfl))
   (try rw [hf_]); first | with_reducible rfl | (simp only [packR]; done) | rfl
  ·
   try simp only [BB] at h2
   refine tc_skip (tq_then (tc_seq ?_))
   refine tc_rb [0,0,0] [(23, Sl a1 ((bothL a b).length) c1), (24, I ((bothL a b).length : Int)), (25, I 0)] (tc_block ?_)
   refine tc_frzR (E := EHH) 0 hr1 (by have q0_ := check2_len (by assumption); have q1_ := both_len2 q0_.1 q0_.2 40; rw [List.take_of_length_le q0_.1] at q1_; simp only [EHH]; omega) (fun G3 hl3 hs2 => ?_)
   have hlm_hs2 : (bothL a b).length ≤ 9223372036854775807 := Nat.le_trans (hs2).le (hs2).max
   refine tc_loop (σ := Nat) (fun q_ => (q_ ≤ (bothL a b).length) ∧ (forkGo (bothL a b) = forkGo ((bothL a b).drop q_))) (fun q_ => [(23, Sl a1 ((bothL a b).length) c1), (24, I ((bothL a b).length : Int)), (25, I (q_ : Int))]) (fun q_ => G3) (fun q_ => [[], []]) (fun q_ => (bothL a b).length - q_) 0 ⟨(by (try dsimp only); first | exact Nat.zero_le _ | omega | simp), rfl⟩ (fun q_ hs => ?_)
   revert hs; revert q_; intro i hs
   obtain ⟨hi, hn⟩ := hs
   refine tc_eq (fr' := [(23, Sl a1 ((bothL a b).length) c1), (24, I ((bothL a b).length : Int)), (25, I (i : Int))]) (L' := [[], []]) rfl rfl ?_
   refine tc_rb [0] [(23, Sl a1 ((bothL a b).length) c1), (24, I ((bothL a b).length : Int)), (25, I (i : Int)), (26, Bo (decide ((i : Int) < ((bothL a b).length : Int))))] (tc_seq ?_)
   refine tc_cond (decide ((i : Int) < ((bothL a b).length : Int))) (fun h3 => ?_) (fun h3 => ?_)
   ·
    try simp only [BB] at h3
    refine tc_skip (tq_then (tc_seq (tc_block (tc_seq (tc_region ?_)))))
    obtain ⟨b2, o1, rfl⟩ := RS.addr hs2 (k := i) (by omega)
    obtain ⟨x1, hx1⟩ := getX (l := bothL a b) (k := i) (by omega)
    obtain ⟨_, ⟨rfl, w1, w2, w3, w4, w5, w6, w7, w8⟩, hc1⟩ := RS.get hs2 hx1
    refine runL_idx (b := b2) (off := o1) (len := (bothL a b).length) (cap := c1) (ik := .i64) 27 67 8 i (by omega) ?_
    refine runL_ldG 28 67 (cs := [I x1.x.epoch, U x1.x.root, U x1.x.prev, I x1.x.at_, I x1.y.epoch, U x1.y.root, U x1.y.prev, I x1.y.at_]) 0 (.agg #[I x1.x.epoch, U x1.x.root, U x1.x.prev, I x1.x.at_, I x1.y.epoch, U x1.y.root, U x1.y.prev, I x1.y.at_]) hc1 ?_
    refine runL_box 9 #[I 0, U 0, U 0, I 0, I 0, U 0, U 0, I 0] 67 (fun b3 => ?_)
    refine runL_bs [3] [(9, Pt b3 0), (23, Sl (At b2 o1) ((bothL a b).length) c1), (24, I ((bothL a b).length : Int)), (25, I (i : Int))] [[Sg b3 0 [I x1.x.epoch, U x1.x.root, U x1.x.prev, I x1.x.at_, I x1.y.epoch, U x1.y.root, U x1.y.prev, I x1.y.at_]], [], []] (runL_nil (tq_then (tc_seq (tc_region ?_))))
    refine runL_b [0,2,0,2] [(9, Pt b3 0), (23, Sl (At b2 o1) ((bothL a b).length) c1), (24, I ((bothL a b).length : Int)), (25, I (i : Int)), (30, .agg #[I x1.x.epoch, U x1.x.root, U x1.x.prev, I x1.x.at_]), (32, .agg #[I x1.y.epoch, U x1.y.root, U x1.y.prev, I x1.y.at_])] ?_
    refine runL_eqv 33 (Bo (!(decide (x1.x.epoch = x1.y.epoch) && (decide (x1.x.root = x1.y.root) && (decide (x1.x.prev = x1.y.prev) && (decide (x1.x.at_ = x1.y.at_) && true)))))) (Bo (!(decide (x1.x.epoch = x1.y.epoch) && decide (x1.x.root = x1.y.root) && decide (x1.x.prev = x1.y.prev) && decide (x1.x.at_ = x1.y.at_)))) (by simp [B_toList, Bool.and_assoc]) ?_
    refine runL_nil (tq_then ?_)
    refine tc_cond (!(decide (x1.x.epoch = x1.y.epoch) && decide (x1.x.root = x1.y.root) && decide (x1.x.prev = x1.y.prev) && decide (x1.x.at_ = x1.y.at_))) (fun h4 => ?_) (fun h4 => ?_)
    ·
     try simp only [BB] at h4
     refine tc_rb [0,0,2,0,0] [(4, I x1.x.epoch), (5, I 0)] (tc_ret (tq_block_ret (tq_then_ret (tq_rnd_ret (tq_block_ret (tq_then_ret ?_))))))
     refine tq_ret [0, 0] [I x1.x.epoch, I 0] (bp_ret (Mem.le_trans (Mem.le_trans hl1 hl2) hl3) ?_)
     have hf_ : (chainFork a b) = (x1.x.epoch, 0) := by
      unfold chainFork; first | (simp_all; done) | (rw [if_neg (by omega), if_neg (by omega), hn]; first | (rw [forkGo_at hx1 (by rw [HH_get]; simp_all)]; done) | (rw [List.drop_eq_nil_of_le (by omega)]; rfl))
     (try rw [hf_]); first | with_reducible rfl | (simp only [packR]; done) | rfl
    ·
     try simp only [BB] at h4
     refine tc_skip (tq_block (tq_then (tc_region ?_)))
     refine runL_b [0,0] [(23, Sl (At b2 o1) ((bothL a b).length) c1), (24, I ((bothL a b).length : Int)), (25, I (IntKind.i64.wrap ((i : Int) + 1)))] ?_
     have e1 : IntKind.i64.wrap ((i : Int) + 1) = (i : Int) + 1 := IntWalk.i64_in _ (by omega)
     refine runL_eq (fr' := [(23, Sl (At b2 o1) ((bothL a b).length) c1), (24, I ((bothL a b).length : Int)), (25, I ((i : Int) + 1))]) (L' := [[Sg b3 0 [I x1.x.epoch, U x1.x.root, U x1.x.prev, I x1.x.at_, I x1.y.epoch, U x1.y.root, U x1.y.prev, I x1.y.at_]], [], []]) (by simp only [e1]) (by rfl) ?_
     clear e1
     refine runL_nil ?_
     refine tq_owns [[], []] (.cons _ (.cons_cons _ (.cons_cons _ .slnil))) ?_
     exact tq_rnd (i + 1) ⟨(by omega), (by rw [hn]; exact forkGo_step hx1 (HH_get.2 (by simp_all)))⟩ (by (try dsimp only); omega)
   ·
    try simp only [BB] at h3
    refine tc_exit (tq_then_exit (tq_rnd_exit (tq_block_here (tq_then ?_))))
    refine tc_rb [0,0] [(4, I (-1)), (5, I 0)] (tc_ret ?_)
    refine tq_ret [0, 0] [I (-1), I 0] (bp_ret (Mem.le_trans (Mem.le_trans hl1 hl2) hl3) ?_)
    have hf_ : (chainFork a b) = ((-1), 0) := by
     unfold chainFork; first | (simp_all; done) | (rw [if_neg (by omega), if_neg (by omega), hn]; first | (rw [forkGo_at hx1 (by rw [HH_get]; simp_all)]; done) | (rw [List.drop_eq_nil_of_le (by omega)]; rfl))
    (try rw [hf_]); first | with_reducible rfl | (simp only [packR]; done) | rfl
end Go.Proofs.Ytmpakffajpnffaa
