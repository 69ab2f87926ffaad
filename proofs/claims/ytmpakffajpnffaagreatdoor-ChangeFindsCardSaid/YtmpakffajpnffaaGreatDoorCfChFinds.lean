import Derived.Test.YtmpakffajpnffaaGreatDoorCfChLaws
import Derived.Test.YtmpakffajpnffaaGreatDoorCfProve
namespace Go.Proofs.YtmpakffajpnffaaGreatDoor
open Go.Tx
set_option linter.unusedVariables false
set_option linter.unusedSimpArgs false
open Go.Tx Go.Proofs Go.Shelf
def benB (p q : ProofD) : Bool := if ((proofSaid p).2 = 0 ∧ (proofSaid q).2 = 0) ∧ (proofSaid p).1.length = (proofSaid q).1.length then ((proofSaid p).1.zip (proofSaid q).1).any fun x => alikeB x.1 x.2 else false
theorem benB_off {p q : ProofD} (h : ¬ (((proofSaid p).2 = 0 ∧ (proofSaid q).2 = 0) ∧ (proofSaid p).1.length = (proofSaid q).1.length)) : benB p q = false := by unfold benB; rw [if_neg h]
theorem benB_yes {p q : ProofD} {i : Nat} {x y : List UInt8} (h : ((proofSaid p).2 = 0 ∧ (proofSaid q).2 = 0) ∧ (proofSaid p).1.length = (proofSaid q).1.length) (hx : (proofSaid p).1[i]? = some x) (hy : (proofSaid q).1[i]? = some y) (ha : alikeB x y = true) : benB p q = true := by
  unfold benB
  rw [if_pos h, List.any_eq_true]
  refine ⟨(x, y), ?_, ha⟩
  exact List.mem_of_getElem? (i := i) (by rw [List.getElem?_zip_eq_some]; exact ⟨hx, hy⟩)
theorem benB_no {p q : ProofD} (h : ∀ (i : Nat) x y, i < (proofSaid p).1.length → (proofSaid p).1[i]? = some x → (proofSaid q).1[i]? = some y → alikeB x y = false) : benB p q = false := by
  unfold benB
  split
  · rw [List.any_eq_false]
    rintro ⟨x, y⟩ hm
    obtain ⟨i, hi⟩ := List.getElem?_of_mem hm
    rw [List.getElem?_zip_eq_some] at hi
    rw [h i x y (List.getElem?_eq_some_iff.1 hi.1).1 hi.1 hi.2]; simp
  · rfl
theorem ben_next {p q : ProofD} {i : Nat} {x y : List UInt8} (h : ∀ (j : Nat) x y, j < i → (proofSaid p).1[j]? = some x → (proofSaid q).1[j]? = some y → alikeB x y = false) (hx : (proofSaid p).1[i]? = some x) (hy : (proofSaid q).1[i]? = some y) (ha : alikeB x y = false) : ∀ (j : Nat) x y, j < i + 1 → (proofSaid p).1[j]? = some x → (proofSaid q).1[j]? = some y → alikeB x y = false := by
  intro j x' y' hj hx' hy'
  by_cases e : j = i
  · subst e
    rw [hx] at hx'; rw [hy] at hy'
    rw [← Option.some.inj hx', ← Option.some.inj hy']; exact ha
  · exact h j x' y' (by omega) hx' hy'
theorem alike_at {w : List UInt8} {p q : List Int} {s t : List UInt8} (hl : p.length = q.length) (hp : ∀ m ∈ p, 0 ≤ m ∧ m < 2305843009213693951) (hq : ∀ m ∈ q, 0 ≤ m ∧ m < 2305843009213693951) :
    ∀ k, k ≤ p.length → (∀ a b, (pOut w 0 s p)[k]? = some a → (pOut w 0 t q)[k]? = some b → markOf a = markOf b) → s = t ∨ ∃ (i : Nat) (a b : List UInt8), (pOut w 0 s p)[i]? = some a ∧ (pOut w 0 t q)[i]? = some b ∧ alikeB a b = true
  | k, hk, hm => by
    obtain ⟨a, ha⟩ := pOut_get w p 0 s k hk
    obtain ⟨b, hb⟩ := pOut_get w q 0 t k (by omega)
    by_cases e : a = b
    · cases k with
      | zero =>
        rw [pOut_0] at ha hb
        exact .inl (by rw [Option.some.inj ha, Option.some.inj hb, e])
      | succ k =>
        refine alike_at hl hp hq k (by omega) fun c d hc hd => ?_
        have hpk : p[k]? = some (p[k]'(by omega)) := List.getElem?_eq_getElem _
        have hqk : q[k]? = some (q[k]'(by omega)) := List.getElem?_eq_getElem _
        have e1 := pOut_step w p 0 k s c _ hc hpk
        have e2 := pOut_step w q 0 k t d _ hd hqk
        rw [ha] at e1; rw [hb] at e2
        have e3 := Option.some.inj e1; have e4 := Option.some.inj e2
        rw [e3, e4] at e
        exact (pStep_inj (hp _ (List.mem_of_getElem? hpk)) (hq _ (List.mem_of_getElem? hqk)) e).1
    · refine .inr ⟨k, a, b, ha, hb, ?_⟩
      unfold alikeB
      simp only [Bool.and_eq_true, decide_eq_true_eq]
      exact ⟨by simpa using e, hm a b ha hb⟩
theorem look_sub {a b : List EntD} (ha : TreeOk a) (hb : TreeOk b) : ∀ (d : Nat) (q n : List UInt8), n ∈ (lookD a b d q).2 → n ∈ differ a b []
  | 0, q, n, h => by
    unfold lookD at h
    split at h
    · cases h
    · have h := (mem_differ ha hb).1 h
      exact (mem_differ ha hb).2 ⟨h.1, List.nil_prefix, h.2.2⟩
  | d + 1, q, n, h => by
    unfold lookD at h
    split at h
    · cases h
    · simp only [List.mem_append] at h
      rcases h with h | h
      · exact look_sub ha hb d _ n h
      · exact look_sub ha hb d _ n h
theorem look_in {a b : List EntD} (ha : TreeOk a) (hb : TreeOk b) {n : List UInt8} (hn : n ∈ differ a b []) (hw : WayOk (way n)) (hs : ∀ k, k ≤ 16 → ¬ sameAt a b ((way n).take k)) : ∀ (d : Nat) (q : List UInt8), q.length + d = 16 → q <+: way n → n ∈ (lookD a b d q).2
  | 0, q, hl, hq => by
    rw [lookD_leaf rfl (by rw [List.prefix_iff_eq_take.1 hq]; exact hs _ (by omega))]
    have hn := (mem_differ ha hb).1 hn
    exact (mem_differ ha hb).2 ⟨hn.1, hq, hn.2.2⟩
  | d + 1, q, hl, hq => by
    rw [lookD_fork (Nat.succ_pos d) (by rw [List.prefix_iff_eq_take.1 hq]; exact hs _ (by omega))]
    obtain ⟨r, hr⟩ := hq
    have hlen := hw.len
    cases r with
    | nil => rw [← hr] at hlen; simp at hlen; omega
    | cons y r =>
      have hyb := hw.bits y (by rw [← hr]; simp)
      have hp : q ++ [y] <+: way n := ⟨r, by rw [← hr]; simp⟩
      unfold isB at hyb
      simp only [Bool.or_eq_true, beq_iff_eq] at hyb
      simp only [List.mem_append, Nat.add_sub_cancel]
      rcases hyb with rfl | rfl
      · exact .inl (look_in ha hb hn hw hs d (q ++ [48]) (by simp; omega) hp)
      · exact .inr (look_in ha hb hn hw hs d (q ++ [49]) (by simp; omega) hp)
theorem side_bd {l : List EntD} {p : List UInt8} (n : Nat) : ∀ m ∈ sidesN l p n, 0 ≤ m := by
  intro m hm
  unfold sidesN at hm
  obtain ⟨i, _, rfl⟩ := List.mem_map.1 hm
  unfold sideAt
  exact (treeAtE_bd _ _).1
theorem finds_miss {a b : List EntD} {n : List UInt8} (ha : TreeOk a) (hb : TreeOk b) (hn : n ∈ differ a b []) (hm : ¬ n ∈ (lookD a b 16 []).2) : (proofMake a n).2 = 0 ∧ (proofMake b n).2 = 0 ∧ benB (proofMake a n).1 (proofMake b n).1 = true := by
  have hd := (mem_differ ha hb).1 hn
  have hp : pathName n = true := by
    rcases hd.1 with h1 | h1
    · obtain ⟨y, hy, rfl⟩ := List.mem_map.1 h1; exact right_name (ha.ok y hy)
    · obtain ⟨y, hy, rfl⟩ := List.mem_map.1 h1; exact right_name (hb.ok y hy)
  have hw := way_ok hp
  have mk : ∀ {l : List EntD}, TreeOk l → proofMake l n = (proofNew l n, 0) := by
    intro l hl
    unfold proofMake
    rw [if_neg (by rw [Decidable.not_not]; exact treeCheck_iff.2 hl), if_neg (by rw [Decidable.not_not]; unfold pathOf; rw [if_neg (by rw [hp]; simp)])]
    rfl
  rw [mk ha, mk hb]
  refine ⟨rfl, rfl, ?_⟩
  simp only
  have hk : ∃ k, k ≤ 16 ∧ sameAt a b ((way n).take k) := by
    apply Classical.byContradiction; intro hc
    exact hm (look_in ha hb hn hw (fun k hk hs => hc ⟨k, hk, hs⟩) 16 [] rfl List.nil_prefix)
  obtain ⟨k, hk, hs⟩ := hk
  have pa := new_ok ha hp; have pb := new_ok hb hp
  have ea := said_of pa; have eb := said_of pb
  have bits : ∀ x ∈ (way n).take k, isB x = true := fun x hx => hw.bits x (List.mem_of_mem_take hx)
  have lenk : ((way n).take k).length ≤ 16 := by rw [List.length_take]; omega
  unfold sameAt at hs
  rw [treeAtE_of ha lenk bits, treeAtE_of hb lenk bits] at hs
  obtain ⟨s, s1, s2⟩ := up_marks ha hw (16 - k) (by omega)
  obtain ⟨t, t1, t2⟩ := up_marks hb hw (16 - k) (by omega)
  rw [show 16 - (16 - k) = k by omega] at s2 t2
  have h := alike_at (w := way n) (p := sidesN a (way n) 16) (q := sidesN b (way n) 16) (s := treeSaid (ownE a (way n))) (t := treeSaid (ownE b (way n))) (by rw [sidesN_len, sidesN_len]) (fun m h => ⟨side_bd 16 m h, pa.marks m h⟩) (fun m h => ⟨side_bd 16 m h, pb.marks m h⟩) (16 - k) (by rw [sidesN_len]; omega) (fun x y hx hy => by
    rw [s1] at hx; rw [t1] at hy
    rw [← Option.some.inj hx, ← Option.some.inj hy, s2, t2]; exact hs)
  rcases h with h | ⟨i, x, y, hx, hy, hxy⟩
  · have e := said_inj pa.ents pb.ents h
    have ga := own_get ha hp; have gb := own_get hb hp
    have e : ownE a (way n) = ownE b (way n) := e
    rw [e] at ga
    have : treeGet a n = treeGet b n := ga.1.symm.trans gb.1
    exact absurd hd.2.2 (by unfold unlike; rw [this]; simp)
  · refine benB_yes (i := i) (x := x) (y := y) ⟨⟨by rw [ea], by rw [eb]⟩, by rw [ea, eb]; simp only [pOut_len]; rw [pa.sides, pb.sides]⟩ (by rw [ea]; exact hx) (by rw [eb]; exact hy) hxy
theorem finds_e (a b : List EntD) : (chDiff a b).2 = (chLook a b).2.2 := by
  unfold chDiff chLook
  split
  · rfl
  · rename_i h; simp
theorem diff_len (a b : List EntD) : (chDiff a b).1.length ≤ 48 := by
  by_cases h : (chDiff a b).2 = 0
  · obtain ⟨ha, hb, e⟩ := chDiff_ok h
    rw [e]
    have := differ_len a b []; have := ha.len; have := hb.len
    simp only; omega
  · rw [(chDiff_no h).1]; simp
theorem finds_no {a b : List EntD} (h : ¬ (chDiff a b).2 = 0) : (chDiff a b).1 = [] ∧ (chLook a b).1 = [] ∧ (chLook a b).2.1 = 0 := by
  unfold chDiff at h ⊢
  split at h
  · rename_i h1
    unfold chLook
    rw [if_pos h1, if_pos h1]; exact ⟨rfl, rfl, rfl⟩
  · exact absurd rfl h
theorem finds_ok {a b : List EntD} (h : (chDiff a b).2 = 0) : (treeAtE a []).2 = 0 ∧ (treeAtE b []).2 = 0 ∧ 1 ≤ (chLook a b).2.1 ∧ ((chLook a b).2.1 = 1 ↔ (treeAtE a []).1 = (treeAtE b []).1) ∧ (∀ (i : Nat) n, (chLook a b).1[i]? = some n → ((chDiff a b).1.any fun x => decide (n = x)) = true) ∧
    (∀ (i : Nat) n, (chDiff a b).1[i]? = some n → ((chLook a b).1.any fun x => decide (n = x)) = false → (proofMake a n).2 = 0 ∧ (proofMake b n).2 = 0 ∧ benB (proofMake a n).1 (proofMake b n).1 = true) := by
  obtain ⟨ha, hb, e⟩ := chDiff_ok h
  have hc : chCheck a b = 0 := by unfold chCheck; rw [treeCheck_iff.2 ha, treeCheck_iff.2 hb]; rfl
  have e2 : chLook a b = ((lookD a b 16 []).2, (lookD a b 16 []).1, 0) := by unfold chLook; rw [if_neg (by rw [Decidable.not_not]; exact hc)]
  rw [e, e2]
  have hn := look_n ha.len hb.len
  refine ⟨by rw [treeAtE_of ha (by simp) (by simp)], by rw [treeAtE_of hb (by simp) (by simp)], hn.1, hn.2, fun i n hi => ?_, fun i n hi hm => ?_⟩
  · rw [List.any_eq_true]
    exact ⟨n, look_sub ha hb 16 [] n (List.mem_of_getElem? hi), decide_eq_true rfl⟩
  · refine finds_miss ha hb (List.mem_of_getElem? hi) fun hc => ?_
    rw [List.any_eq_false] at hm
    exact hm n hc (decide_eq_true rfl)
theorem finds_both (a b : List EntD) : ((chDiff a b).2 = 0 ∧ (treeAtE a []).2 = 0 ∧ (treeAtE b []).2 = 0 ∧ 1 ≤ (chLook a b).2.1 ∧ ((chLook a b).2.1 = 1 ↔ (treeAtE a []).1 = (treeAtE b []).1) ∧ (∀ (i : Nat) n, (chLook a b).1[i]? = some n → ((chDiff a b).1.any fun x => decide (n = x)) = true) ∧
    (∀ (i : Nat) n, (chDiff a b).1[i]? = some n → ((chLook a b).1.any fun x => decide (n = x)) = false → (proofMake a n).2 = 0 ∧ (proofMake b n).2 = 0 ∧ benB (proofMake a n).1 (proofMake b n).1 = true)) ∨ (¬ (chDiff a b).2 = 0 ∧ (chDiff a b).1 = [] ∧ (chLook a b).1 = [] ∧ (chLook a b).2.1 = 0) := by
  by_cases h : (chDiff a b).2 = 0
  · exact .inl ⟨h, finds_ok h⟩
  · exact .inr ⟨h, finds_no h⟩
theorem benB_con (G : Mem) (vs_p : List Value) (p : ProofD) (h_p : EProof.R G vs_p p) (vs_q : List Value) (q : ProofD) (h_q : EProof.R G vs_q q)  : Con Tryz.prog 36 #[.agg vs_p.toArray, .agg vs_q.toArray] G [] (fun u G' L' => u = Bo (benB p q)) := by
 obtain ⟨a1, c1, a2, c2, rfl, w1, hs1, hs2⟩ := h_p
 obtain ⟨a3, c3, a4, c4, rfl, w2, hs3, hs4⟩ := h_q
 refine con_of Tryz.func36 47 [(0, .agg #[Sr p.name, Sl a1 p.entries.length c1, Sl a2 p.sides.length c2]), (1, .agg #[Sr q.name, Sl a3 q.entries.length c3, Sl a4 q.sides.length c4])] rfl (fun w0 G0 => ?_)
 refine tc_seq (tc_region ?_)
 refine runL_box 2 #[Sr p.name, Sl a1 p.entries.length c1, Sl a2 p.sides.length c2] 36 (fun b1 => ?_)
 refine runL_box 3 #[Sr q.name, Sl a3 q.entries.length c3, Sl a4 q.sides.length c4] 36 (fun b2 => ?_)
 refine runL_b [0] [(2, Pt b1 0), (3, Pt b2 0)] (runL_nil (tq_then (tc_seq (tc_region ?_))))
 refine runL_b [4] [(3, Pt b2 0), (11, .agg #[Sr p.name, Sl a1 p.entries.length c1, Sl a2 p.sides.length c2])] ?_
 refine runL_callR 12 (proofSaid_con G [Sr p.name, Sl a1 p.entries.length c1, Sl a2 p.sides.length c2] p (⟨a1, c1, a2, c2, rfl, w1, hs1, hs2⟩)) (fun v G1 L1 hl1 hp => ?_)
 obtain ⟨a5, c5, rfl, hs5, rfl⟩ := hp
 refine runL_b [0,0,0,0,0] [(3, Pt b2 0), (5, Sl a5 (((proofSaid p).1).length) c5), (6, I ((proofSaid p).2))] (runL_nil (tq_then (tc_seq (tc_region ?_))))
 refine runL_b [2] [(5, Sl a5 (((proofSaid p).1).length) c5), (6, I ((proofSaid p).2)), (16, .agg #[Sr q.name, Sl a3 q.entries.length c3, Sl a4 q.sides.length c4])] ?_
 refine runL_callR 17 (proofSaid_con G1 [Sr q.name, Sl a3 q.entries.length c3, Sl a4 q.sides.length c4] q (⟨a3, c3, a4, c4, rfl, w2, (hs3.mono hl1), (hs4.mono hl1)⟩)) (fun v G2 L1 hl2 hp => ?_)
 obtain ⟨a6, c6, rfl, hs6, rfl⟩ := hp
 refine runL_b [0,0,0,0,0] [(5, Sl a5 (((proofSaid p).1).length) c5), (6, I ((proofSaid p).2)), (7, Sl a6 (((proofSaid q).1).length) c6), (8, I ((proofSaid q).2))] (runL_nil (tq_then (tc_seq (tc_seq (tc_region ?_)))))
 refine runL_b [0,0] [(5, Sl a5 (((proofSaid p).1).length) c5), (7, Sl a6 (((proofSaid q).1).length) c6), (20, I ((proofSaid p).2)), (21, I ((proofSaid q).2))] ?_
 refine runL_bsl 22 2 #[I ((proofSaid p).2), I ((proofSaid q).2)] 39 (fun b3 => ?_)
 refine runL_frz1 (b := b3) (o := 0) (cs := [I ((proofSaid p).2), I ((proofSaid q).2)]) 0 (fun G3 hl3 hz1 => ?_)
 have hs7 : RS EErr G3 (At b3 0) 2 [(proofSaid p).2, (proofSaid q).2] := RS.lit [[I ((proofSaid p).2)], [I ((proofSaid q).2)]] [(proofSaid p).2, (proofSaid q).2] ⟨rfl, ⟨rfl, trivial⟩⟩ hz1 (Nat.le_of_ble_eq_true rfl) (Nat.le_of_ble_eq_true rfl)
 refine runL_callV 23 (Bo (!(([(proofSaid p).2, (proofSaid q).2]).any fun x0 => !decide (x0 = 0)))) (good_con G3 (At b3 0) 2 ([(proofSaid p).2, (proofSaid q).2]) hs7) ?_
 refine runL_b [0,0] [(5, Sl a5 (((proofSaid p).1).length) c5), (7, Sl a6 (((proofSaid q).1).length) c6), (25, Bo (!(!(([(proofSaid p).2, (proofSaid q).2]).any fun x0 => !decide (x0 = 0)))))] ?_
 refine runL_b2 (!(!(([(proofSaid p).2, (proofSaid q).2]).any fun x0 => !decide (x0 = 0)))) (fun bb => [(5, Sl a5 (((proofSaid p).1).length) c5), (7, Sl a6 (((proofSaid q).1).length) c6), (25, Bo bb)]) [1,1,1,1,1,0] [0,0,0,0,0,0] (fun bb => [(5, Sl a5 (((proofSaid p).1).length) c5), (7, Sl a6 (((proofSaid q).1).length) c6), (31, Bo (bb || (!decide ((((proofSaid p).1).length : Int) = (((proofSaid q).1).length : Int)))))]) ?_
 refine runL_nil (tq_then ?_)
 refine tc_cond ((!(!(([(proofSaid p).2, (proofSaid q).2]).any fun x0 => !decide (x0 = 0)))) || (!decide ((((proofSaid p).1).length : Int) = (((proofSaid q).1).length : Int)))) (fun h1 => ?_) (fun h1 => ?_)
 ·
  try simp only [BB] at h1
  refine tc_rb [0] [(4, Bo false)] (tc_ret (tq_then_ret ?_))
  refine tq_ret [0] [Bo false] (bp_ret (Mem.le_trans (Mem.le_trans hl1 hl2) hl3) ?_)
  have hf_ : (benB p q) = false := by
   first | (rw [benB_off (by rintro ⟨⟨u_, v_⟩, w_⟩; simp at h1; omega)]; done) | (obtain ⟨g1_, g2_⟩ := good2 h1.1; rw [benB_yes (i := i) ⟨⟨g1_, g2_⟩, by omega⟩ hx1 hx2 (by first | assumption | (unfold alikeB; simp; assumption) | (unfold alikeB; simp_all; done))]; done) | (rw [benB_no (fun j x y hj hx hy => hb j x y (by omega) hx hy)])
  (try rw [hf_]); first | with_reducible rfl | (simp only [packR]; done) | rfl
 ·
  try simp only [BB] at h1
  refine tc_skip (tq_then (tc_seq ?_))
  refine tc_rb [0,0,0] [(5, Sl a5 (((proofSaid p).1).length) c5), (7, Sl a6 (((proofSaid q).1).length) c6), (33, I (((proofSaid p).1).length : Int)), (34, I 0)] (tc_block ?_)
  have hlm_hs5 : ((proofSaid p).1).length ≤ 9223372036854775807 := Nat.le_trans (hs5).le (hs5).max
  have hlm_hs6 : ((proofSaid q).1).length ≤ 9223372036854775807 := Nat.le_trans (hs6).le (hs6).max
  refine tc_loop (σ := Nat × Mem) (fun q_ => (Mem.le G3 q_.2) ∧ (q_.1 ≤ ((proofSaid p).1).length) ∧ (∀ (j : Nat) x y, j < q_.1 → (proofSaid p).1[j]? = some x → (proofSaid q).1[j]? = some y → alikeB x y = false)) (fun q_ => [(5, Sl a5 (((proofSaid p).1).length) c5), (7, Sl a6 (((proofSaid q).1).length) c6), (33, I (((proofSaid p).1).length : Int)), (34, I (q_.1 : Int))]) (fun q_ => q_.2) (fun q_ => [[], [Sg b2 0 [Sr q.name, Sl a3 q.entries.length c3, Sl a4 q.sides.length c4]], [Sg b1 0 [Sr p.name, Sl a1 p.entries.length c1, Sl a2 p.sides.length c2]]]) (fun q_ => ((proofSaid p).1).length - q_.1) (0, G3) ⟨(Mem.le_refl _), (by (try dsimp only); first | exact Nat.zero_le _ | omega | simp), (by (try dsimp only); intro j x y hj; omega)⟩ (fun q_ hs => ?_)
  obtain ⟨i, g⟩ := q_
  obtain ⟨hle, hi, hb⟩ := hs
  dsimp only at hle hi hb
  refine tc_eq (fr' := [(5, Sl a5 (((proofSaid p).1).length) c5), (7, Sl a6 (((proofSaid q).1).length) c6), (33, I (((proofSaid p).1).length : Int)), (34, I (i : Int))]) (L' := [[], [Sg b2 0 [Sr q.name, Sl a3 q.entries.length c3, Sl a4 q.sides.length c4]], [Sg b1 0 [Sr p.name, Sl a1 p.entries.length c1, Sl a2 p.sides.length c2]]]) rfl rfl ?_
  refine tc_rb [0] [(5, Sl a5 (((proofSaid p).1).length) c5), (7, Sl a6 (((proofSaid q).1).length) c6), (33, I (((proofSaid p).1).length : Int)), (34, I (i : Int)), (35, Bo (decide ((i : Int) < (((proofSaid p).1).length : Int))))] (tc_seq ?_)
  refine tc_cond (decide ((i : Int) < (((proofSaid p).1).length : Int))) (fun h2 => ?_) (fun h2 => ?_)
  ·
   try simp only [BB] at h2
   refine tc_skip (tq_then (tc_seq (tc_block ?_)))
   refine tc_rb [0,0] [(5, Sl a5 (((proofSaid p).1).length) c5), (7, Sl a6 (((proofSaid q).1).length) c6), (9, I (i : Int)), (33, I (((proofSaid p).1).length : Int)), (34, I (i : Int))] (tc_seq ?_)
   obtain ⟨b4, o1, rfl⟩ := RS.addr (hs5.mono (Mem.le_trans (Mem.le_trans hl2 hl3) hle)) (k := i) (by omega)
   obtain ⟨x1, hx1⟩ := getX (l := (proofSaid p).1) (k := i) (by omega)
   obtain ⟨_, ⟨rfl, w3⟩, hc1⟩ := RS.get (hs5.mono (Mem.le_trans (Mem.le_trans hl2 hl3) hle)) hx1
   obtain ⟨b5, o2, rfl⟩ := RS.addr (hs6.mono (Mem.le_trans hl3 hle)) (k := i) (by omega)
   obtain ⟨x2, hx2⟩ := getX (l := (proofSaid q).1) (k := i) (by omega)
   obtain ⟨_, ⟨rfl, w4⟩, hc2⟩ := RS.get (hs6.mono (Mem.le_trans hl3 hle)) hx2
   refine tc_draw [] ?_
   refine dr_V [(0, Sl (At b4 o1) (((proofSaid p).1).length) c5), (1, I (i : Int)), (2, Pt b4 (o1 + i * 1)), (3, Sr x1), (4, Sl (At b5 o2) (((proofSaid q).1).length) c6), (5, I (i : Int)), (6, Pt b5 (o2 + i * 1)), (7, Sr x2), (8, Bo (!(x1 == x2) && decide (markOf x1 = markOf x2)))] ?_
   refine dr_end [] [(0,0), (1,0), (4,0), (5,0)] [2, 3, 6, 7, 8] [(5, Sl (At b4 o1) (((proofSaid p).1).length) c5), (7, Sl (At b5 o2) (((proofSaid q).1).length) c6), (33, I (((proofSaid p).1).length : Int)), (34, I (i : Int)), (45, Bo (!(x1 == x2) && decide (markOf x1 = markOf x2)))] (List.forall_mem_cons.2 ⟨?_, (List.forall_mem_cons.2 ⟨?_, (List.forall_mem_cons.2 ⟨?_, (List.forall_mem_cons.2 ⟨?_, (List.forall_mem_cons.2 ⟨?_, List.forall_mem_nil _⟩)⟩)⟩)⟩)⟩) ?_
   ·
    refine stab_of 2 39 (Pt b4 (o1 + i * 1)) [(37, Sl (At b4 o1) (((proofSaid p).1).length) c5), (38, I (i : Int))] (fun X => ?_)
    exact runL_idx (b := b4) (off := o1) (len := ((proofSaid p).1).length) (cap := c5) (ik := .i64) 39 9 1 i (by omega) stab_end
   ·
    refine stab_of 3 40 (Sr x1) [(39, Pt b4 (o1 + i * 1))] (fun X => ?_)
    exact runL_ldG 40 9 (cs := [Sr x1]) 0 (Sr x1) hc1 stab_end
   ·
    refine stab_of 6 43 (Pt b5 (o2 + i * 1)) [(41, Sl (At b5 o2) (((proofSaid q).1).length) c6), (42, I (i : Int))] (fun X => ?_)
    exact runL_idx (b := b5) (off := o2) (len := ((proofSaid q).1).length) (cap := c6) (ik := .i64) 43 9 1 i (by omega) stab_end
   ·
    refine stab_of 7 44 (Sr x2) [(43, Pt b5 (o2 + i * 1))] (fun X => ?_)
    exact runL_ldG 44 9 (cs := [Sr x2]) 0 (Sr x2) hc2 stab_end
   ·
    refine stab_of 8 45 (Bo (!(x1 == x2) && decide (markOf x1 = markOf x2))) [(40, Sr x1), (44, Sr x2)] (fun X => ?_)
    exact runL_callV 45 (Bo (!(x1 == x2) && decide (markOf x1 = markOf x2))) (markAlike_con x1 x2 (le48r' w3) (le48r' w4) g) stab_end
   refine tq_then ?_
   refine tc_cond (!(x1 == x2) && decide (markOf x1 = markOf x2)) (fun h3 => ?_) (fun h3 => ?_)
   ·
    try simp only [BB] at h3
    refine tc_rb [0] [(4, Bo true)] (tc_ret (tq_block_ret (tq_then_ret (tq_rnd_ret (tq_block_ret (tq_then_ret ?_))))))
    refine tq_ret [0] [Bo true] (bp_ret (Mem.le_trans (Mem.le_trans (Mem.le_trans hl1 hl2) hl3) hle) ?_)
    have hf_ : (benB p q) = true := by
     first | (rw [benB_off (by rintro ⟨⟨u_, v_⟩, w_⟩; simp at h1; omega)]; done) | (obtain ⟨g1_, g2_⟩ := good2 h1.1; rw [benB_yes (i := i) ⟨⟨g1_, g2_⟩, by omega⟩ hx1 hx2 (by first | assumption | (unfold alikeB; simp; assumption) | (unfold alikeB; simp_all; done))]; done) | (rw [benB_no (fun j x y hj hx hy => hb j x y (by omega) hx hy)])
    (try rw [hf_]); first | with_reducible rfl | (simp only [packR]; done) | rfl
   ·
    try simp only [BB] at h3
    refine tc_skip (tq_block (tq_then (tc_region ?_)))
    refine runL_b [0,0] [(5, Sl (At b4 o1) (((proofSaid p).1).length) c5), (7, Sl (At b5 o2) (((proofSaid q).1).length) c6), (33, I (((proofSaid p).1).length : Int)), (34, I (IntKind.i64.wrap ((i : Int) + 1)))] ?_
    have e1 : IntKind.i64.wrap ((i : Int) + 1) = (i : Int) + 1 := IntWalk.i64_in _ (by omega)
    refine runL_eq (fr' := [(5, Sl (At b4 o1) (((proofSaid p).1).length) c5), (7, Sl (At b5 o2) (((proofSaid q).1).length) c6), (33, I (((proofSaid p).1).length : Int)), (34, I ((i : Int) + 1))]) (L' := [[], [Sg b2 0 [Sr q.name, Sl a3 q.entries.length c3, Sl a4 q.sides.length c4]], [Sg b1 0 [Sr p.name, Sl a1 p.entries.length c1, Sl a2 p.sides.length c2]]]) (by simp only [e1]) (by rfl) ?_
    clear e1
    refine runL_nil ?_
    exact tq_rnd (i + 1, g) ⟨(Mem.le_trans hle (Mem.le_refl _)), (by omega), (ben_next hb hx1 hx2 (by first | assumption | (unfold alikeB; simp; assumption) | (unfold alikeB; simp_all; done)))⟩ (by (try dsimp only); omega)
  ·
   try simp only [BB] at h2
   refine tc_exit (tq_then_exit (tq_rnd_exit (tq_block_here (tq_then ?_))))
   refine tc_rb [0] [(4, Bo false)] (tc_ret ?_)
   refine tq_ret [0] [Bo false] (bp_ret (Mem.le_trans (Mem.le_trans (Mem.le_trans hl1 hl2) hl3) hle) ?_)
   have hf_ : (benB p q) = false := by
    first | (rw [benB_off (by rintro ⟨⟨u_, v_⟩, w_⟩; simp at h1; omega)]; done) | (obtain ⟨g1_, g2_⟩ := good2 h1.1; rw [benB_yes (i := i) ⟨⟨g1_, g2_⟩, by omega⟩ hx1 hx2 (by first | assumption | (unfold alikeB; simp; assumption) | (unfold alikeB; simp_all; done))]; done) | (rw [benB_no (fun j x y hj hx hy => hb j x y (by omega) hx hy)])
   (try rw [hf_]); first | with_reducible rfl | (simp only [packR]; done) | rfl
theorem changeFinds_con (G : Mem) (a_a : Option Addr) (c_a : Nat) (a : List EntD) (h_a : RS EEnt G a_a c_a a) (a_b : Option Addr) (c_b : Nat) (b : List EntD) (h_b : RS EEnt G a_b c_b b) (hf_a : a.length * 32 ≤ 140737488351232) (hf_b : b.length * 32 ≤ 140737488351232) : Con Tryz.prog 8 #[Sl a_a a.length c_a, Sl a_b b.length c_b] G [] (fun u G' L' => u = Bo true) := by
 refine con_of Tryz.func8 129 [(0, Sl a_a a.length c_a), (1, Sl a_b b.length c_b)] rfl (fun w0 G0 => ?_)
 refine tc_rb [0] [(0, Sl a_a a.length c_a), (1, Sl a_b b.length c_b)] (tc_seq (tc_seq (tc_region ?_)))
 refine runL_callV 22 (Bo true) (changes_con G) ?_
 refine runL_b [0] [(0, Sl a_a a.length c_a), (1, Sl a_b b.length c_b), (23, Bo false)] (runL_nil (tq_then ?_))
 refine tc_cond_false ?_
 refine tc_skip (tq_then (tc_seq (tc_region ?_)))
 refine runL_b [0,0] [(0, Sl a_a a.length c_a), (1, Sl a_b b.length c_b), (25, Sl a_a a.length c_a), (26, Sl a_b b.length c_b)] ?_
 refine runL_callR 27 (chDiff_con G a_a c_a a h_a a_b c_b b h_b) (fun v G1 L1 hl1 hp => ?_)
 obtain ⟨a1, c1, rfl, hs1, rfl⟩ := hp
 refine runL_b [0,0,0,0,0] [(0, Sl a_a a.length c_a), (1, Sl a_b b.length c_b), (5, Sl a1 (((chDiff a b).1).length) c1), (6, I ((chDiff a b).2))] (runL_nil (tq_then (tc_seq (tc_region ?_))))
 refine runL_b [0,0] [(0, Sl a_a a.length c_a), (1, Sl a_b b.length c_b), (5, Sl a1 (((chDiff a b).1).length) c1), (6, I ((chDiff a b).2)), (31, Sl a_a a.length c_a), (32, Sl a_b b.length c_b)] ?_
 refine runL_callR 33 (chLook_con G1 a_a c_a a (h_a.mono hl1) a_b c_b b (h_b.mono hl1)) (fun v G2 L1 hl2 hp => ?_)
 obtain ⟨a2, c2, rfl, hs2, rfl⟩ := hp
 refine runL_b [0,0,0,0,0,0,0] [(0, Sl a_a a.length c_a), (1, Sl a_b b.length c_b), (5, Sl a1 (((chDiff a b).1).length) c1), (6, I ((chDiff a b).2)), (7, Sl a2 (((chLook a b).1).length) c2), (8, I ((chLook a b).2.1)), (9, I ((chLook a b).2.2))] (runL_nil (tq_then (tc_seq (tc_seq (tc_region ?_)))))
 refine runL_b [0,0,0] [(0, Sl a_a a.length c_a), (1, Sl a_b b.length c_b), (5, Sl a1 (((chDiff a b).1).length) c1), (6, I ((chDiff a b).2)), (7, Sl a2 (((chLook a b).1).length) c2), (8, I ((chLook a b).2.1)), (9, I ((chLook a b).2.2)), (39, Bo (!decide ((chDiff a b).2 = 0)))] ?_
 refine runL_b2 (!decide ((chDiff a b).2 = 0)) (fun bb => [(0, Sl a_a a.length c_a), (1, Sl a_b b.length c_b), (5, Sl a1 (((chDiff a b).1).length) c1), (6, I ((chDiff a b).2)), (7, Sl a2 (((chLook a b).1).length) c2), (8, I ((chLook a b).2.1)), (9, I ((chLook a b).2.2)), (39, Bo bb)]) [1,1,0] [0,0,0] (fun bb => [(0, Sl a_a a.length c_a), (1, Sl a_b b.length c_b), (5, Sl a1 (((chDiff a b).1).length) c1), (6, I ((chDiff a b).2)), (7, Sl a2 (((chLook a b).1).length) c2), (8, I ((chLook a b).2.1)), (9, I ((chLook a b).2.2)), (42, Bo (bb || (!decide ((chLook a b).2.2 = 0))))]) ?_
 refine runL_nil (tq_then ?_)
 refine tc_cond ((!decide ((chDiff a b).2 = 0)) || (!decide ((chLook a b).2.2 = 0))) (fun h1 => ?_) (fun h1 => ?_)
 ·
  try simp only [BB] at h1
  refine tc_seq (tc_region ?_)
  refine runL_b [0,0,0,0] [(5, Sl a1 (((chDiff a b).1).length) c1), (7, Sl a2 (((chLook a b).1).length) c2), (8, I ((chLook a b).2.1)), (46, Bo (decide ((chDiff a b).2 = (chLook a b).2.2)))] ?_
  refine runL_cases (fun bb => [(5, Sl a1 (((chDiff a b).1).length) c1), (7, Sl a2 (((chLook a b).1).length) c2), (8, I ((chLook a b).2.1)), (46, Bo bb)]) (decide ((chDiff a b).2 = (chLook a b).2.2)) (fun h2 => ?_) (fun h2 => ?_)
  ·
   try simp only [BB] at h2
   refine runL_b [0,0,0,0,0,0,0,0] [(8, I ((chLook a b).2.1)), (54, Bo (decide (IntKind.i64.wrap ((((chDiff a b).1).length : Int) + (((chLook a b).1).length : Int)) = 0)))] ?_
   have e1 : IntKind.i64.wrap ((((chDiff a b).1).length : Int) + (((chLook a b).1).length : Int)) = (((chDiff a b).1).length : Int) + (((chLook a b).1).length : Int) := IntWalk.i64_in _ (by first | omega | (have q1_ := look_len a b; have q2_ := diff_len a b; omega))
   refine runL_eq (fr' := [(8, I ((chLook a b).2.1)), (54, Bo (decide ((((chDiff a b).1).length : Int) + (((chLook a b).1).length : Int) = 0)))]) (L' := []) (by simp only [e1]) (by rfl) ?_
   clear e1
   refine runL_b2 (decide ((((chDiff a b).1).length : Int) + (((chLook a b).1).length : Int) = 0)) (fun bb => [(8, I ((chLook a b).2.1)), (54, Bo bb)]) [0,0,0] [1,1,0] (fun bb => [(57, Bo (bb && (decide ((chLook a b).2.1 = 0))))]) ?_
   refine runL_b [0] [(4, Bo ((decide ((((chDiff a b).1).length : Int) + (((chLook a b).1).length : Int) = 0)) && (decide ((chLook a b).2.1 = 0))))] (runL_nil (tq_then (tc_ret (tq_then_ret ?_))))
   refine tq_ret [0] [Bo ((decide ((((chDiff a b).1).length : Int) + (((chLook a b).1).length : Int) = 0)) && (decide ((chLook a b).2.1 = 0)))] (bp_ret (Mem.le_trans hl1 hl2) ?_)
   have hf_ : ((decide ((((chDiff a b).1).length : Int) + (((chLook a b).1).length : Int) = 0)) && (decide ((chLook a b).2.1 = 0))) = true := by
    first | rfl | (have q0_ := finds_e a b; rcases finds_both a b with ⟨e1_, q1_, q2_, q3_, q4_, q5_, q6_⟩ | ⟨e1_, q1_, q2_, q3_⟩; (focus first | (exfalso; omega) | (refine absurd (q5_ _ _ hx1) ?_; simp only [Bool.not_eq_true]; assumption) | (have u0_ := q6_ _ _ hx2; clear q5_ q6_; specialize u0_ (by assumption); obtain ⟨u1_, u2_, u3_⟩ := u0_; first | omega | (revert h8; rw [u1_, u2_]; simp; done) | (refine absurd u3_ ?_; simp only [Bool.not_eq_true]; assumption)) | (clear q5_ q6_; simp [q1_, q2_] at *; omega) | (clear q5_ q6_; simp_all; omega) | (clear q5_ q6_; simp_all; done)); (first | (exfalso; omega) | (simp [q0_, q1_, q2_, q3_]; done)))
   exact congrArg Bo hf_
  ·
   try simp only [BB] at h2
   refine runL_b [1,1,1,1,1,1,0,0,1,1,0,0] [(4, Bo false)] (runL_nil (tq_then (tc_ret (tq_then_ret ?_))))
   refine tq_ret [0] [Bo false] (bp_ret (Mem.le_trans hl1 hl2) ?_)
   exfalso
   first | rfl | (have q0_ := finds_e a b; rcases finds_both a b with ⟨e1_, q1_, q2_, q3_, q4_, q5_, q6_⟩ | ⟨e1_, q1_, q2_, q3_⟩; (focus first | (exfalso; omega) | (refine absurd (q5_ _ _ hx1) ?_; simp only [Bool.not_eq_true]; assumption) | (have u0_ := q6_ _ _ hx2; clear q5_ q6_; specialize u0_ (by assumption); obtain ⟨u1_, u2_, u3_⟩ := u0_; first | omega | (revert h8; rw [u1_, u2_]; simp; done) | (refine absurd u3_ ?_; simp only [Bool.not_eq_true]; assumption)) | (clear q5_ q6_; simp [q1_, q2_] at *; omega) | (clear q5_ q6_; simp_all; omega) | (clear q5_ q6_; simp_all; done)); (first | (exfalso; omega) | (simp [q0_, q1_, q2_, q3_]; done)))
 ·
  try simp only [BB] at h1
  refine tc_skip (tq_then (tc_seq (tc_region ?_)))
  refine runL_b [0] [(0, Sl a_a a.length c_a), (1, Sl a_b b.length c_b), (5, Sl a1 (((chDiff a b).1).length) c1), (7, Sl a2 (((chLook a b).1).length) c2), (8, I ((chLook a b).2.1)), (59, Sl a_a a.length c_a)] ?_
  refine runL_callV 60 (.tuple #[U ((treeAtE a []).1), I ((treeAtE a []).2)]) (treeRoot_con G2 a_a c_a a (h_a.mono (Mem.le_trans hl1 hl2))) ?_
  refine runL_b [0,0,0,0,0] [(0, Sl a_a a.length c_a), (1, Sl a_b b.length c_b), (5, Sl a1 (((chDiff a b).1).length) c1), (7, Sl a2 (((chLook a b).1).length) c2), (8, I ((chLook a b).2.1)), (10, U ((treeAtE a []).1)), (11, I ((treeAtE a []).2))] (runL_nil (tq_then (tc_seq (tc_region ?_))))
  refine runL_b [0] [(0, Sl a_a a.length c_a), (1, Sl a_b b.length c_b), (5, Sl a1 (((chDiff a b).1).length) c1), (7, Sl a2 (((chLook a b).1).length) c2), (8, I ((chLook a b).2.1)), (10, U ((treeAtE a []).1)), (11, I ((treeAtE a []).2)), (64, Sl a_b b.length c_b)] ?_
  refine runL_callV 65 (.tuple #[U ((treeAtE b []).1), I ((treeAtE b []).2)]) (treeRoot_con G2 a_b c_b b (h_b.mono (Mem.le_trans hl1 hl2))) ?_
  refine runL_b [0,0,0,0,0] [(0, Sl a_a a.length c_a), (1, Sl a_b b.length c_b), (5, Sl a1 (((chDiff a b).1).length) c1), (7, Sl a2 (((chLook a b).1).length) c2), (8, I ((chLook a b).2.1)), (10, U ((treeAtE a []).1)), (11, I ((treeAtE a []).2)), (12, U ((treeAtE b []).1)), (13, I ((treeAtE b []).2))] (runL_nil (tq_then (tc_seq (tc_seq (tc_region ?_)))))
  refine runL_b [0,0] [(0, Sl a_a a.length c_a), (1, Sl a_b b.length c_b), (5, Sl a1 (((chDiff a b).1).length) c1), (7, Sl a2 (((chLook a b).1).length) c2), (8, I ((chLook a b).2.1)), (10, U ((treeAtE a []).1)), (12, U ((treeAtE b []).1)), (68, I ((treeAtE a []).2)), (69, I ((treeAtE b []).2))] ?_
  refine runL_bsl 70 2 #[I ((treeAtE a []).2), I ((treeAtE b []).2)] 39 (fun b1 => ?_)
  refine runL_frz1 (b := b1) (o := 0) (cs := [I ((treeAtE a []).2), I ((treeAtE b []).2)]) 0 (fun G3 hl3 hz1 => ?_)
  have hs3 : RS EErr G3 (At b1 0) 2 [(treeAtE a []).2, (treeAtE b []).2] := RS.lit [[I ((treeAtE a []).2)], [I ((treeAtE b []).2)]] [(treeAtE a []).2, (treeAtE b []).2] ⟨rfl, ⟨rfl, trivial⟩⟩ hz1 (Nat.le_of_ble_eq_true rfl) (Nat.le_of_ble_eq_true rfl)
  refine runL_callV 71 (Bo (!(([(treeAtE a []).2, (treeAtE b []).2]).any fun x0 => !decide (x0 = 0)))) (good_con G3 (At b1 0) 2 ([(treeAtE a []).2, (treeAtE b []).2]) hs3) ?_
  refine runL_b [0,0] [(0, Sl a_a a.length c_a), (1, Sl a_b b.length c_b), (5, Sl a1 (((chDiff a b).1).length) c1), (7, Sl a2 (((chLook a b).1).length) c2), (8, I ((chLook a b).2.1)), (10, U ((treeAtE a []).1)), (12, U ((treeAtE b []).1)), (73, Bo (!(!(([(treeAtE a []).2, (treeAtE b []).2]).any fun x0 => !decide (x0 = 0)))))] ?_
  refine runL_b2 (!(!(([(treeAtE a []).2, (treeAtE b []).2]).any fun x0 => !decide (x0 = 0)))) (fun bb => [(0, Sl a_a a.length c_a), (1, Sl a_b b.length c_b), (5, Sl a1 (((chDiff a b).1).length) c1), (7, Sl a2 (((chLook a b).1).length) c2), (8, I ((chLook a b).2.1)), (10, U ((treeAtE a []).1)), (12, U ((treeAtE b []).1)), (73, Bo bb)]) [1,1,0] [0,0,0] (fun bb => [(0, Sl a_a a.length c_a), (1, Sl a_b b.length c_b), (5, Sl a1 (((chDiff a b).1).length) c1), (7, Sl a2 (((chLook a b).1).length) c2), (8, I ((chLook a b).2.1)), (10, U ((treeAtE a []).1)), (12, U ((treeAtE b []).1)), (76, Bo (bb || (decide ((chLook a b).2.1 < 1))))]) ?_
  refine runL_b [0] [(0, Sl a_a a.length c_a), (1, Sl a_b b.length c_b), (5, Sl a1 (((chDiff a b).1).length) c1), (7, Sl a2 (((chLook a b).1).length) c2), (8, I ((chLook a b).2.1)), (10, U ((treeAtE a []).1)), (12, U ((treeAtE b []).1)), (77, Bo ((!(!(([(treeAtE a []).2, (treeAtE b []).2]).any fun x0 => !decide (x0 = 0)))) || (decide ((chLook a b).2.1 < 1))))] ?_
  refine runL_b2 ((!(!(([(treeAtE a []).2, (treeAtE b []).2]).any fun x0 => !decide (x0 = 0)))) || (decide ((chLook a b).2.1 < 1))) (fun bb => [(0, Sl a_a a.length c_a), (1, Sl a_b b.length c_b), (5, Sl a1 (((chDiff a b).1).length) c1), (7, Sl a2 (((chLook a b).1).length) c2), (8, I ((chLook a b).2.1)), (10, U ((treeAtE a []).1)), (12, U ((treeAtE b []).1)), (77, Bo bb)]) [1,1,1,1,1,1,0] [0,0,0,0,0,0,0] (fun bb => [(0, Sl a_a a.length c_a), (1, Sl a_b b.length c_b), (5, Sl a1 (((chDiff a b).1).length) c1), (7, Sl a2 (((chLook a b).1).length) c2), (84, Bo (bb || (!((decide ((chLook a b).2.1 = 1)) == (decide ((treeAtE a []).1 = (treeAtE b []).1))))))]) ?_
  refine runL_nil (tq_then ?_)
  refine tc_cond (((!(!(([(treeAtE a []).2, (treeAtE b []).2]).any fun x0 => !decide (x0 = 0)))) || (decide ((chLook a b).2.1 < 1))) || (!((decide ((chLook a b).2.1 = 1)) == (decide ((treeAtE a []).1 = (treeAtE b []).1))))) (fun h3 => ?_) (fun h3 => ?_)
  ·
   try simp only [BB] at h3
   refine tc_rb [0] [(4, Bo false)] (tc_ret (tq_then_ret ?_))
   refine tq_ret [0] [Bo false] (bp_ret (Mem.le_trans (Mem.le_trans hl1 hl2) hl3) ?_)
   exfalso
   first | rfl | (have q0_ := finds_e a b; rcases finds_both a b with ⟨e1_, q1_, q2_, q3_, q4_, q5_, q6_⟩ | ⟨e1_, q1_, q2_, q3_⟩; (focus first | (exfalso; omega) | (refine absurd (q5_ _ _ hx1) ?_; simp only [Bool.not_eq_true]; assumption) | (have u0_ := q6_ _ _ hx2; clear q5_ q6_; specialize u0_ (by assumption); obtain ⟨u1_, u2_, u3_⟩ := u0_; first | omega | (revert h8; rw [u1_, u2_]; simp; done) | (refine absurd u3_ ?_; simp only [Bool.not_eq_true]; assumption)) | (clear q5_ q6_; simp [q1_, q2_] at *; omega) | (clear q5_ q6_; simp_all; omega) | (clear q5_ q6_; simp_all; done)); (first | (exfalso; omega) | (simp [q0_, q1_, q2_, q3_]; done)))
  ·
   try simp only [BB] at h3
   refine tc_skip (tq_then (tc_seq ?_))
   refine tc_rb [0,0,0] [(0, Sl a_a a.length c_a), (1, Sl a_b b.length c_b), (5, Sl a1 (((chDiff a b).1).length) c1), (7, Sl a2 (((chLook a b).1).length) c2), (85, Sl a2 (((chLook a b).1).length) c2), (86, I (((chLook a b).1).length : Int)), (87, I 0)] (tc_block ?_)
   have hlm_h_a : a.length ≤ 9223372036854775807 := Nat.le_trans (h_a).le (h_a).max
   have hlm_h_b : b.length ≤ 9223372036854775807 := Nat.le_trans (h_b).le (h_b).max
   have hlm_hs1 : ((chDiff a b).1).length ≤ 9223372036854775807 := Nat.le_trans (hs1).le (hs1).max
   have hlm_hs2 : ((chLook a b).1).length ≤ 9223372036854775807 := Nat.le_trans (hs2).le (hs2).max
   refine tc_loop (σ := Nat × Mem) (fun q_ => (Mem.le G3 q_.2) ∧ (q_.1 ≤ ((chLook a b).1).length)) (fun q_ => [(0, Sl a_a a.length c_a), (1, Sl a_b b.length c_b), (5, Sl a1 (((chDiff a b).1).length) c1), (7, Sl a2 (((chLook a b).1).length) c2), (85, Sl a2 (((chLook a b).1).length) c2), (86, I (((chLook a b).1).length : Int)), (87, I (q_.1 : Int))]) (fun q_ => q_.2) (fun q_ => [[]]) (fun q_ => ((chLook a b).1).length - q_.1) (0, G3) ⟨(Mem.le_refl _), (by (try dsimp only); first | exact Nat.zero_le _ | omega | simp)⟩ (fun q_ hs => ?_)
   obtain ⟨i, g⟩ := q_
   obtain ⟨hle, hi⟩ := hs
   dsimp only at hle hi
   refine tc_eq (fr' := [(0, Sl a_a a.length c_a), (1, Sl a_b b.length c_b), (5, Sl a1 (((chDiff a b).1).length) c1), (7, Sl a2 (((chLook a b).1).length) c2), (85, Sl a2 (((chLook a b).1).length) c2), (86, I (((chLook a b).1).length : Int)), (87, I (i : Int))]) (L' := [[]]) rfl rfl ?_
   refine tc_rb [0] [(0, Sl a_a a.length c_a), (1, Sl a_b b.length c_b), (5, Sl a1 (((chDiff a b).1).length) c1), (7, Sl a2 (((chLook a b).1).length) c2), (85, Sl a2 (((chLook a b).1).length) c2), (86, I (((chLook a b).1).length : Int)), (87, I (i : Int)), (88, Bo (decide ((i : Int) < (((chLook a b).1).length : Int))))] (tc_seq ?_)
   refine tc_cond (decide ((i : Int) < (((chLook a b).1).length : Int))) (fun h4 => ?_) (fun h4 => ?_)
   ·
    try simp only [BB] at h4
    refine tc_skip (tq_then (tc_seq (tc_block (tc_seq (tc_region ?_)))))
    obtain ⟨b2, o1, rfl⟩ := RS.addr (hs2.mono (Mem.le_trans hl3 hle)) (k := i) (by first | omega | (have q1_ := look_len a b; have q2_ := diff_len a b; omega))
    obtain ⟨x1, hx1⟩ := getX (l := (chLook a b).1) (k := i) (by first | omega | (have q1_ := look_len a b; have q2_ := diff_len a b; omega))
    obtain ⟨_, ⟨rfl, w1⟩, hc1⟩ := RS.get (hs2.mono (Mem.le_trans hl3 hle)) hx1
    refine runL_idx (b := b2) (off := o1) (len := ((chLook a b).1).length) (cap := c2) (ik := .i64) 89 9 1 i (by first | omega | (have q1_ := look_len a b; have q2_ := diff_len a b; omega)) ?_
    refine runL_ldG 90 9 (cs := [Sr x1]) 0 (Sr x1) hc1 ?_
    refine runL_b [0] [(0, Sl a_a a.length c_a), (1, Sl a_b b.length c_b), (5, Sl a1 (((chDiff a b).1).length) c1), (7, Sl (At b2 o1) (((chLook a b).1).length) c2), (15, Sr x1), (85, Sl (At b2 o1) (((chLook a b).1).length) c2), (86, I (((chLook a b).1).length : Int)), (87, I (i : Int))] (runL_nil (tq_then (tc_seq (tc_region ?_))))
    refine runL_b [0,0] [(0, Sl a_a a.length c_a), (1, Sl a_b b.length c_b), (5, Sl a1 (((chDiff a b).1).length) c1), (7, Sl (At b2 o1) (((chLook a b).1).length) c2), (85, Sl (At b2 o1) (((chLook a b).1).length) c2), (86, I (((chLook a b).1).length : Int)), (87, I (i : Int)), (91, Sl a1 (((chDiff a b).1).length) c1), (92, Sr x1)] ?_
    refine runL_callV 93 (Bo (((chDiff a b).1).any (fun x => decide (x1 = x)))) (shas_ES g a1 c1 ((chDiff a b).1) (hs1.mono (Mem.le_trans (Mem.le_trans hl2 hl3) hle)) x1) ?_
    refine runL_b [0] [(0, Sl a_a a.length c_a), (1, Sl a_b b.length c_b), (5, Sl a1 (((chDiff a b).1).length) c1), (7, Sl (At b2 o1) (((chLook a b).1).length) c2), (85, Sl (At b2 o1) (((chLook a b).1).length) c2), (86, I (((chLook a b).1).length : Int)), (87, I (i : Int)), (94, Bo (!(((chDiff a b).1).any (fun x => decide (x1 = x)))))] (runL_nil (tq_then ?_))
    refine tc_cond (!(((chDiff a b).1).any (fun x => decide (x1 = x)))) (fun h5 => ?_) (fun h5 => ?_)
    ·
     try simp only [BB] at h5
     refine tc_rb [0] [(4, Bo false)] (tc_ret (tq_block_ret (tq_then_ret (tq_rnd_ret (tq_block_ret (tq_then_ret ?_))))))
     refine tq_ret [0] [Bo false] (bp_ret (Mem.le_trans (Mem.le_trans (Mem.le_trans hl1 hl2) hl3) hle) ?_)
     exfalso
     first | rfl | (have q0_ := finds_e a b; rcases finds_both a b with ⟨e1_, q1_, q2_, q3_, q4_, q5_, q6_⟩ | ⟨e1_, q1_, q2_, q3_⟩; (focus first | (exfalso; omega) | (refine absurd (q5_ _ _ hx1) ?_; simp only [Bool.not_eq_true]; assumption) | (have u0_ := q6_ _ _ hx2; clear q5_ q6_; specialize u0_ (by assumption); obtain ⟨u1_, u2_, u3_⟩ := u0_; first | omega | (revert h8; rw [u1_, u2_]; simp; done) | (refine absurd u3_ ?_; simp only [Bool.not_eq_true]; assumption)) | (clear q5_ q6_; simp [q1_, q2_] at *; omega) | (clear q5_ q6_; simp_all; omega) | (clear q5_ q6_; simp_all; done)); (first | (exfalso; omega) | (simp [q0_, q1_, q2_, q3_]; done)))
    ·
     try simp only [BB] at h5
     refine tc_skip (tq_block (tq_then (tc_region ?_)))
     refine runL_b [0,0] [(0, Sl a_a a.length c_a), (1, Sl a_b b.length c_b), (5, Sl a1 (((chDiff a b).1).length) c1), (7, Sl (At b2 o1) (((chLook a b).1).length) c2), (85, Sl (At b2 o1) (((chLook a b).1).length) c2), (86, I (((chLook a b).1).length : Int)), (87, I (IntKind.i64.wrap ((i : Int) + 1)))] ?_
     have e2 : IntKind.i64.wrap ((i : Int) + 1) = (i : Int) + 1 := IntWalk.i64_in _ (by first | omega | (have q1_ := look_len a b; have q2_ := diff_len a b; omega))
     refine runL_eq (fr' := [(0, Sl a_a a.length c_a), (1, Sl a_b b.length c_b), (5, Sl a1 (((chDiff a b).1).length) c1), (7, Sl (At b2 o1) (((chLook a b).1).length) c2), (85, Sl (At b2 o1) (((chLook a b).1).length) c2), (86, I (((chLook a b).1).length : Int)), (87, I ((i : Int) + 1))]) (L' := [[]]) (by simp only [e2]) (by rfl) ?_
     clear e2
     refine runL_nil ?_
     exact tq_rnd (i + 1, g) ⟨(Mem.le_trans hle (Mem.le_refl _)), (by omega)⟩ (by (try dsimp only); omega)
   ·
    try simp only [BB] at h4
    refine tc_exit (tq_then_exit (tq_rnd_exit (tq_block_here (tq_then (tc_seq ?_)))))
    refine tc_rb [0,0,0] [(0, Sl a_a a.length c_a), (1, Sl a_b b.length c_b), (7, Sl a2 (((chLook a b).1).length) c2), (96, Sl a1 (((chDiff a b).1).length) c1), (97, I (((chDiff a b).1).length : Int)), (98, I 0)] (tc_block ?_)
    have hlm_h_a : a.length ≤ 9223372036854775807 := Nat.le_trans (h_a).le (h_a).max
    have hlm_h_b : b.length ≤ 9223372036854775807 := Nat.le_trans (h_b).le (h_b).max
    have hlm_hs2 : ((chLook a b).1).length ≤ 9223372036854775807 := Nat.le_trans (hs2).le (hs2).max
    have hlm_hs1 : ((chDiff a b).1).length ≤ 9223372036854775807 := Nat.le_trans (hs1).le (hs1).max
    refine tc_loop (σ := Nat × Mem) (fun q_ => (Mem.le g q_.2) ∧ (q_.1 ≤ ((chDiff a b).1).length)) (fun q_ => [(0, Sl a_a a.length c_a), (1, Sl a_b b.length c_b), (7, Sl a2 (((chLook a b).1).length) c2), (96, Sl a1 (((chDiff a b).1).length) c1), (97, I (((chDiff a b).1).length : Int)), (98, I (q_.1 : Int))]) (fun q_ => q_.2) (fun q_ => [[]]) (fun q_ => ((chDiff a b).1).length - q_.1) (0, g) ⟨(Mem.le_refl _), (by (try dsimp only); first | exact Nat.zero_le _ | omega | simp)⟩ (fun q_ hs => ?_)
    obtain ⟨i, g1_⟩ := q_
    obtain ⟨hle1_, hi⟩ := hs
    dsimp only at hle1_ hi
    refine tc_eq (fr' := [(0, Sl a_a a.length c_a), (1, Sl a_b b.length c_b), (7, Sl a2 (((chLook a b).1).length) c2), (96, Sl a1 (((chDiff a b).1).length) c1), (97, I (((chDiff a b).1).length : Int)), (98, I (i : Int))]) (L' := [[]]) rfl rfl ?_
    refine tc_rb [0] [(0, Sl a_a a.length c_a), (1, Sl a_b b.length c_b), (7, Sl a2 (((chLook a b).1).length) c2), (96, Sl a1 (((chDiff a b).1).length) c1), (97, I (((chDiff a b).1).length : Int)), (98, I (i : Int)), (99, Bo (decide ((i : Int) < (((chDiff a b).1).length : Int))))] (tc_seq ?_)
    refine tc_cond (decide ((i : Int) < (((chDiff a b).1).length : Int))) (fun h6 => ?_) (fun h6 => ?_)
    ·
     try simp only [BB] at h6
     refine tc_skip (tq_then (tc_seq (tc_block (tc_seq (tc_region ?_)))))
     obtain ⟨b3, o2, rfl⟩ := RS.addr (hs1.mono (Mem.le_trans (Mem.le_trans (Mem.le_trans hl2 hl3) hle) hle1_)) (k := i) (by first | omega | (have q1_ := look_len a b; have q2_ := diff_len a b; omega))
     obtain ⟨x2, hx2⟩ := getX (l := (chDiff a b).1) (k := i) (by first | omega | (have q1_ := look_len a b; have q2_ := diff_len a b; omega))
     obtain ⟨_, ⟨rfl, w2⟩, hc2⟩ := RS.get (hs1.mono (Mem.le_trans (Mem.le_trans (Mem.le_trans hl2 hl3) hle) hle1_)) hx2
     refine runL_idx (b := b3) (off := o2) (len := ((chDiff a b).1).length) (cap := c1) (ik := .i64) 100 9 1 i (by first | omega | (have q1_ := look_len a b; have q2_ := diff_len a b; omega)) ?_
     refine runL_ldG 101 9 (cs := [Sr x2]) 0 (Sr x2) hc2 ?_
     refine runL_b [0] [(0, Sl a_a a.length c_a), (1, Sl a_b b.length c_b), (7, Sl a2 (((chLook a b).1).length) c2), (17, Sr x2), (96, Sl (At b3 o2) (((chDiff a b).1).length) c1), (97, I (((chDiff a b).1).length : Int)), (98, I (i : Int))] (runL_nil (tq_then (tc_seq (tc_seq (tc_region ?_)))))
     refine runL_b [0,0] [(0, Sl a_a a.length c_a), (1, Sl a_b b.length c_b), (7, Sl a2 (((chLook a b).1).length) c2), (17, Sr x2), (96, Sl (At b3 o2) (((chDiff a b).1).length) c1), (97, I (((chDiff a b).1).length : Int)), (98, I (i : Int)), (102, Sl a2 (((chLook a b).1).length) c2), (103, Sr x2)] ?_
     refine runL_callV 104 (Bo (((chLook a b).1).any (fun x => decide (x2 = x)))) (shas_ES g1_ a2 c2 ((chLook a b).1) (hs2.mono (Mem.le_trans (Mem.le_trans hl3 hle) hle1_)) x2) ?_
     refine runL_nil (tq_then ?_)
     refine tc_cond (((chLook a b).1).any (fun x => decide (x2 = x))) (fun h7 => ?_) (fun h7 => ?_)
     ·
      try simp only [BB] at h7
      refine tc_exit (tq_then_exit (tq_block_here (tq_then (tc_region ?_))))
      refine runL_b [0,0] [(0, Sl a_a a.length c_a), (1, Sl a_b b.length c_b), (7, Sl a2 (((chLook a b).1).length) c2), (96, Sl (At b3 o2) (((chDiff a b).1).length) c1), (97, I (((chDiff a b).1).length : Int)), (98, I (IntKind.i64.wrap ((i : Int) + 1)))] ?_
      have e3 : IntKind.i64.wrap ((i : Int) + 1) = (i : Int) + 1 := IntWalk.i64_in _ (by first | omega | (have q1_ := look_len a b; have q2_ := diff_len a b; omega))
      refine runL_eq (fr' := [(0, Sl a_a a.length c_a), (1, Sl a_b b.length c_b), (7, Sl a2 (((chLook a b).1).length) c2), (96, Sl (At b3 o2) (((chDiff a b).1).length) c1), (97, I (((chDiff a b).1).length : Int)), (98, I ((i : Int) + 1))]) (L' := [[]]) (by simp only [e3]) (by rfl) ?_
      clear e3
      refine runL_nil ?_
      exact tq_rnd (i + 1, g1_) ⟨(Mem.le_trans hle1_ (Mem.le_refl _)), (by omega)⟩ (by (try dsimp only); omega)
     ·
      try simp only [BB] at h7
      refine tc_skip (tq_then (tc_seq (tc_region ?_)))
      refine runL_b [0,0] [(0, Sl a_a a.length c_a), (1, Sl a_b b.length c_b), (7, Sl a2 (((chLook a b).1).length) c2), (17, Sr x2), (96, Sl (At b3 o2) (((chDiff a b).1).length) c1), (97, I (((chDiff a b).1).length : Int)), (98, I (i : Int)), (106, Sl a_a a.length c_a), (107, Sr x2)] ?_
      refine runL_callR 108 (proofMake_con g1_ a_a c_a a (h_a.mono (Mem.le_trans (Mem.le_trans (Mem.le_trans (Mem.le_trans hl1 hl2) hl3) hle) hle1_)) x2 w2) (fun v G4 L1 hl4 hp => ?_)
      obtain ⟨a3, c3, a4, c4, rfl, w3, hs4, hs5, rfl⟩ := hp
      refine runL_b [0,0,0] [(0, Sl a_a a.length c_a), (1, Sl a_b b.length c_b), (7, Sl a2 (((chLook a b).1).length) c2), (17, Sr x2), (96, Sl (At b3 o2) (((chDiff a b).1).length) c1), (97, I (((chDiff a b).1).length : Int)), (98, I (i : Int)), (109, .agg #[Sr (((proofMake a x2).1).name), Sl a3 ((((proofMake a x2).1).entries).length) c3, Sl a4 ((((proofMake a x2).1).sides).length) c4]), (110, I ((proofMake a x2).2))] ?_
      refine runL_box 18 #[Sr ([]), Sl none 0 0, Sl none 0 0] 36 (fun b4 => ?_)
      refine runL_bs [3,0] [(0, Sl a_a a.length c_a), (1, Sl a_b b.length c_b), (7, Sl a2 (((chLook a b).1).length) c2), (17, Sr x2), (18, Pt b4 0), (19, I ((proofMake a x2).2)), (96, Sl (At b3 o2) (((chDiff a b).1).length) c1), (97, I (((chDiff a b).1).length : Int)), (98, I (i : Int))] [[Sg b4 0 [Sr (((proofMake a x2).1).name), Sl a3 ((((proofMake a x2).1).entries).length) c3, Sl a4 ((((proofMake a x2).1).sides).length) c4]], []] (runL_nil (tq_then (tc_seq (tc_region ?_))))
      refine runL_b [0,0] [(0, Sl a_a a.length c_a), (1, Sl a_b b.length c_b), (7, Sl a2 (((chLook a b).1).length) c2), (18, Pt b4 0), (19, I ((proofMake a x2).2)), (96, Sl (At b3 o2) (((chDiff a b).1).length) c1), (97, I (((chDiff a b).1).length : Int)), (98, I (i : Int)), (112, Sl a_b b.length c_b), (113, Sr x2)] ?_
      refine runL_callR 114 (proofMake_con G4 a_b c_b b (h_b.mono (Mem.le_trans (Mem.le_trans (Mem.le_trans (Mem.le_trans (Mem.le_trans hl1 hl2) hl3) hle) hle1_) hl4)) x2 w2) (fun v G5 L1 hl5 hp => ?_)
      obtain ⟨a5, c5, a6, c6, rfl, w4, hs6, hs7, rfl⟩ := hp
      refine runL_b [0,0,0] [(0, Sl a_a a.length c_a), (1, Sl a_b b.length c_b), (7, Sl a2 (((chLook a b).1).length) c2), (18, Pt b4 0), (19, I ((proofMake a x2).2)), (96, Sl (At b3 o2) (((chDiff a b).1).length) c1), (97, I (((chDiff a b).1).length : Int)), (98, I (i : Int)), (115, .agg #[Sr (((proofMake b x2).1).name), Sl a5 ((((proofMake b x2).1).entries).length) c5, Sl a6 ((((proofMake b x2).1).sides).length) c6]), (116, I ((proofMake b x2).2))] ?_
      refine runL_box 20 #[Sr ([]), Sl none 0 0, Sl none 0 0] 36 (fun b5 => ?_)
      refine runL_bs [3,0] [(0, Sl a_a a.length c_a), (1, Sl a_b b.length c_b), (7, Sl a2 (((chLook a b).1).length) c2), (18, Pt b4 0), (19, I ((proofMake a x2).2)), (20, Pt b5 0), (21, I ((proofMake b x2).2)), (96, Sl (At b3 o2) (((chDiff a b).1).length) c1), (97, I (((chDiff a b).1).length : Int)), (98, I (i : Int))] [[Sg b5 0 [Sr (((proofMake b x2).1).name), Sl a5 ((((proofMake b x2).1).entries).length) c5, Sl a6 ((((proofMake b x2).1).sides).length) c6]], [Sg b4 0 [Sr (((proofMake a x2).1).name), Sl a3 ((((proofMake a x2).1).entries).length) c3, Sl a4 ((((proofMake a x2).1).sides).length) c4]], []] (runL_nil (tq_then (tc_seq (tc_region ?_))))
      refine runL_b [0,0] [(0, Sl a_a a.length c_a), (1, Sl a_b b.length c_b), (7, Sl a2 (((chLook a b).1).length) c2), (18, Pt b4 0), (20, Pt b5 0), (96, Sl (At b3 o2) (((chDiff a b).1).length) c1), (97, I (((chDiff a b).1).length : Int)), (98, I (i : Int)), (117, I ((proofMake a x2).2)), (118, I ((proofMake b x2).2))] ?_
      refine runL_bsl 119 2 #[I ((proofMake a x2).2), I ((proofMake b x2).2)] 39 (fun b6 => ?_)
      refine runL_frz1 (b := b6) (o := 0) (cs := [I ((proofMake a x2).2), I ((proofMake b x2).2)]) 0 (fun G6 hl6 hz2 => ?_)
      have hs8 : RS EErr G6 (At b6 0) 2 [(proofMake a x2).2, (proofMake b x2).2] := RS.lit [[I ((proofMake a x2).2)], [I ((proofMake b x2).2)]] [(proofMake a x2).2, (proofMake b x2).2] ⟨rfl, ⟨rfl, trivial⟩⟩ hz2 (Nat.le_of_ble_eq_true rfl) (Nat.le_of_ble_eq_true rfl)
      refine runL_callV 120 (Bo (!(([(proofMake a x2).2, (proofMake b x2).2]).any fun x0 => !decide (x0 = 0)))) (good_con G6 (At b6 0) 2 ([(proofMake a x2).2, (proofMake b x2).2]) hs8) ?_
      refine runL_b [0,0] [(0, Sl a_a a.length c_a), (1, Sl a_b b.length c_b), (7, Sl a2 (((chLook a b).1).length) c2), (18, Pt b4 0), (20, Pt b5 0), (96, Sl (At b3 o2) (((chDiff a b).1).length) c1), (97, I (((chDiff a b).1).length : Int)), (98, I (i : Int)), (122, Bo (!(!(([(proofMake a x2).2, (proofMake b x2).2]).any fun x0 => !decide (x0 = 0)))))] ?_
      refine runL_cases (fun bb => [(0, Sl a_a a.length c_a), (1, Sl a_b b.length c_b), (7, Sl a2 (((chLook a b).1).length) c2), (18, Pt b4 0), (20, Pt b5 0), (96, Sl (At b3 o2) (((chDiff a b).1).length) c1), (97, I (((chDiff a b).1).length : Int)), (98, I (i : Int)), (122, Bo bb)]) (!(!(([(proofMake a x2).2, (proofMake b x2).2]).any fun x0 => !decide (x0 = 0)))) (fun h8 => ?_) (fun h8 => ?_)
      ·
       try simp only [BB] at h8
       refine runL_b [1,1,1,1,0] [(0, Sl a_a a.length c_a), (1, Sl a_b b.length c_b), (7, Sl a2 (((chLook a b).1).length) c2), (96, Sl (At b3 o2) (((chDiff a b).1).length) c1), (97, I (((chDiff a b).1).length : Int)), (98, I (i : Int)), (127, Bo true)] (runL_nil (tq_then ?_))
       refine tc_cond_true ?_
       refine tc_rb [0] [(4, Bo false)] (tc_ret (tq_block_ret (tq_then_ret (tq_rnd_ret (tq_block_ret (tq_then_ret ?_))))))
       refine tq_ret [0] [Bo false] (bp_ret (Mem.le_trans (Mem.le_trans (Mem.le_trans (Mem.le_trans (Mem.le_trans (Mem.le_trans (Mem.le_trans hl1 hl2) hl3) hle) hle1_) hl4) hl5) hl6) ?_)
       exfalso
       first | rfl | (have q0_ := finds_e a b; rcases finds_both a b with ⟨e1_, q1_, q2_, q3_, q4_, q5_, q6_⟩ | ⟨e1_, q1_, q2_, q3_⟩; (focus first | (exfalso; omega) | (refine absurd (q5_ _ _ hx1) ?_; simp only [Bool.not_eq_true]; assumption) | (have u0_ := q6_ _ _ hx2; clear q5_ q6_; specialize u0_ (by assumption); obtain ⟨u1_, u2_, u3_⟩ := u0_; first | omega | (revert h8; rw [u1_, u2_]; simp; done) | (refine absurd u3_ ?_; simp only [Bool.not_eq_true]; assumption)) | (clear q5_ q6_; simp [q1_, q2_] at *; omega) | (clear q5_ q6_; simp_all; omega) | (clear q5_ q6_; simp_all; done)); (first | (exfalso; omega) | (simp [q0_, q1_, q2_, q3_]; done)))
      ·
       try simp only [BB] at h8
       refine runL_b [6,4] [(0, Sl a_a a.length c_a), (1, Sl a_b b.length c_b), (7, Sl a2 (((chLook a b).1).length) c2), (96, Sl (At b3 o2) (((chDiff a b).1).length) c1), (97, I (((chDiff a b).1).length : Int)), (98, I (i : Int)), (122, Bo false), (123, .agg #[Sr (((proofMake a x2).1).name), Sl a3 ((((proofMake a x2).1).entries).length) c3, Sl a4 ((((proofMake a x2).1).sides).length) c4]), (124, .agg #[Sr (((proofMake b x2).1).name), Sl a5 ((((proofMake b x2).1).entries).length) c5, Sl a6 ((((proofMake b x2).1).sides).length) c6])] ?_
       refine runL_callV 125 (Bo (benB ((proofMake a x2).1) ((proofMake b x2).1))) (benB_con G6 [Sr (((proofMake a x2).1).name), Sl a3 ((((proofMake a x2).1).entries).length) c3, Sl a4 ((((proofMake a x2).1).sides).length) c4] ((proofMake a x2).1) (⟨a3, c3, a4, c4, rfl, w3, (hs4.mono (Mem.le_trans hl5 hl6)), (hs5.mono (Mem.le_trans hl5 hl6))⟩) [Sr (((proofMake b x2).1).name), Sl a5 ((((proofMake b x2).1).entries).length) c5, Sl a6 ((((proofMake b x2).1).sides).length) c6] ((proofMake b x2).1) (⟨a5, c5, a6, c6, rfl, w4, (hs6.mono hl6), (hs7.mono hl6)⟩)) ?_
       refine runL_b [0,0] [(0, Sl a_a a.length c_a), (1, Sl a_b b.length c_b), (7, Sl a2 (((chLook a b).1).length) c2), (96, Sl (At b3 o2) (((chDiff a b).1).length) c1), (97, I (((chDiff a b).1).length : Int)), (98, I (i : Int)), (127, Bo (!(benB ((proofMake a x2).1) ((proofMake b x2).1))))] (runL_nil (tq_then ?_))
       refine tc_cond (!(benB ((proofMake a x2).1) ((proofMake b x2).1))) (fun h9 => ?_) (fun h9 => ?_)
       ·
        try simp only [BB] at h9
        refine tc_rb [0] [(4, Bo false)] (tc_ret (tq_block_ret (tq_then_ret (tq_rnd_ret (tq_block_ret (tq_then_ret ?_))))))
        refine tq_ret [0] [Bo false] (bp_ret (Mem.le_trans (Mem.le_trans (Mem.le_trans (Mem.le_trans (Mem.le_trans (Mem.le_trans (Mem.le_trans hl1 hl2) hl3) hle) hle1_) hl4) hl5) hl6) ?_)
        exfalso
        first | rfl | (have q0_ := finds_e a b; rcases finds_both a b with ⟨e1_, q1_, q2_, q3_, q4_, q5_, q6_⟩ | ⟨e1_, q1_, q2_, q3_⟩; (focus first | (exfalso; omega) | (refine absurd (q5_ _ _ hx1) ?_; simp only [Bool.not_eq_true]; assumption) | (have u0_ := q6_ _ _ hx2; clear q5_ q6_; specialize u0_ (by assumption); obtain ⟨u1_, u2_, u3_⟩ := u0_; first | omega | (revert h8; rw [u1_, u2_]; simp; done) | (refine absurd u3_ ?_; simp only [Bool.not_eq_true]; assumption)) | (clear q5_ q6_; simp [q1_, q2_] at *; omega) | (clear q5_ q6_; simp_all; omega) | (clear q5_ q6_; simp_all; done)); (first | (exfalso; omega) | (simp [q0_, q1_, q2_, q3_]; done)))
       ·
        try simp only [BB] at h9
        refine tc_skip (tq_block (tq_then (tc_region ?_)))
        refine runL_b [0,0] [(0, Sl a_a a.length c_a), (1, Sl a_b b.length c_b), (7, Sl a2 (((chLook a b).1).length) c2), (96, Sl (At b3 o2) (((chDiff a b).1).length) c1), (97, I (((chDiff a b).1).length : Int)), (98, I (IntKind.i64.wrap ((i : Int) + 1)))] ?_
        have e4 : IntKind.i64.wrap ((i : Int) + 1) = (i : Int) + 1 := IntWalk.i64_in _ (by first | omega | (have q1_ := look_len a b; have q2_ := diff_len a b; omega))
        refine runL_eq (fr' := [(0, Sl a_a a.length c_a), (1, Sl a_b b.length c_b), (7, Sl a2 (((chLook a b).1).length) c2), (96, Sl (At b3 o2) (((chDiff a b).1).length) c1), (97, I (((chDiff a b).1).length : Int)), (98, I ((i : Int) + 1))]) (L' := [[], [Sg b5 0 [Sr (((proofMake b x2).1).name), Sl a5 ((((proofMake b x2).1).entries).length) c5, Sl a6 ((((proofMake b x2).1).sides).length) c6]], [Sg b4 0 [Sr (((proofMake a x2).1).name), Sl a3 ((((proofMake a x2).1).entries).length) c3, Sl a4 ((((proofMake a x2).1).sides).length) c4]], []]) (by simp only [e4]) (by rfl) ?_
        clear e4
        refine runL_nil ?_
        refine tq_owns [[]] (.cons _ (.cons _ (.cons _ (.cons_cons _ .slnil)))) ?_
        exact tq_rnd (i + 1, G6) ⟨(Mem.le_trans hle1_ (Mem.le_trans (Mem.le_trans hl4 hl5) hl6)), (by omega)⟩ (by (try dsimp only); omega)
    ·
     try simp only [BB] at h6
     refine tc_exit (tq_then_exit (tq_rnd_exit (tq_block_here (tq_then ?_))))
     refine tc_rb [0] [(4, Bo true)] (tc_ret ?_)
     refine tq_ret [0] [Bo true] (bp_ret (Mem.le_trans (Mem.le_trans (Mem.le_trans (Mem.le_trans hl1 hl2) hl3) hle) hle1_) ?_)
     rfl
end Go.Proofs.YtmpakffajpnffaaGreatDoor
