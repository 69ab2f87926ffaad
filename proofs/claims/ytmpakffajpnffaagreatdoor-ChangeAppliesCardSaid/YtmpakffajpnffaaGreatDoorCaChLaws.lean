import Derived.Test.YtmpakffajpnffaaGreatDoorCaChLook
namespace Go.Proofs.YtmpakffajpnffaaGreatDoor
open Go.Tx
set_option linter.unusedVariables false
set_option linter.unusedSimpArgs false
open Go.Tx Go.Proofs Go.Shelf
theorem look_n {a b : List EntD} (ha : a.length ≤ 24) (hb : b.length ≤ 24) : 1 ≤ (lookD a b 16 []).1 ∧ ((lookD a b 16 []).1 = 1 ↔ sameAt a b []) := by
  refine ⟨(lookD_bd ha hb 16 []).1, ?_, fun h => by rw [lookD_same h]⟩
  intro h
  apply Classical.byContradiction; intro hc
  rw [lookD_fork (by decide) hc] at h
  have h1 := (lookD_bd ha hb (16 - 1) ([] ++ [48])).1
  have h2 := (lookD_bd ha hb (16 - 1) ([] ++ [49])).1
  simp only at h
  omega
theorem changes_law : (chLook [] []).2.2 = 0 ∧ (chLook [] []).2.1 = 1 := by
  have h : chCheck [] [] = 0 := by decide +kernel
  unfold chLook
  rw [if_neg (by rw [Decidable.not_not]; exact h)]
  exact ⟨rfl, (look_n (Nat.zero_le _) (Nat.zero_le _)).2.2 rfl⟩
def apGo : List EntD → List EntD → List EntD × Int
  | out, [] => (out, 0)
  | out, x :: c => if ¬ (treeSet out x.name x.value).2 = 0 then ([], (treeSet out x.name x.value).2) else apGo (treeSet out x.name x.value).1 c
def chApply (l c : List EntD) : List EntD × Int := if ¬ treeCheck l = 0 then ([], treeCheck l) else apGo l c
theorem apGo_step {out c : List EntD} {i : Nat} {x : EntD} (hx : c[i]? = some x) (h : (treeSet out x.name x.value).2 = 0) : apGo out (c.drop i) = apGo (treeSet out x.name x.value).1 (c.drop (i + 1)) := by
  obtain ⟨h1, rfl⟩ := List.getElem?_eq_some_iff.1 hx
  rw [List.drop_eq_getElem_cons h1]
  show (if _ then _ else _) = _
  rw [if_neg (by rw [Decidable.not_not]; exact h)]
theorem apGo_no {out c : List EntD} {i : Nat} {x : EntD} (hx : c[i]? = some x) (h : ¬ (treeSet out x.name x.value).2 = 0) : apGo out (c.drop i) = ([], (treeSet out x.name x.value).2) := by
  obtain ⟨h1, rfl⟩ := List.getElem?_eq_some_iff.1 hx
  rw [List.drop_eq_getElem_cons h1]
  show (if _ then _ else _) = _
  rw [if_pos h]
theorem apGo_end {out c : List EntD} {i : Nat} (h : c.length ≤ i) : apGo out (c.drop i) = (out, 0) := by
  rw [List.drop_eq_nil_of_le h]; rfl
theorem apGo_err : ∀ (c out : List EntD), ¬ (apGo out c).2 = 0 → (apGo out c).1 = []
  | [], out, h => absurd rfl h
  | x :: c, out, h => by
    unfold apGo at h ⊢
    split
    · rfl
    · rename_i h1; rw [if_neg h1] at h; exact apGo_err c _ h
theorem apply_err {l c : List EntD} (h : ¬ (chApply l c).2 = 0) : (chApply l c).1 = [] := by
  unfold chApply at h ⊢
  split
  · rfl
  · rename_i h1; rw [if_neg h1] at h; exact apGo_err _ _ h
theorem apGo_ok : ∀ (c out : List EntD), TreeOk out → (apGo out c).2 = 0 → TreeOk (apGo out c).1 ∧ (∀ y, y ∈ (apGo out c).1 → y ∈ c ∨ y ∈ out) ∧ (∀ y, y ∈ out → (∀ z ∈ c, ¬ z.name = y.name) → y ∈ (apGo out c).1) ∧ ((c.Pairwise fun x y => ¬ x.name = y.name) → ∀ y, y ∈ c → y ∈ (apGo out c).1)
  | [], out, ho, _ => ⟨ho, fun y hy => .inr hy, fun y hy _ => hy, fun _ y hy => by cases hy⟩
  | x :: c, out, ho, h => by
    unfold apGo at h ⊢
    by_cases h1 : (treeSet out x.name x.value).2 = 0
    · rw [if_neg (by rw [Decidable.not_not]; exact h1)] at h ⊢
      obtain ⟨_, _, s3, s4⟩ := treeSet_ok h1
      obtain ⟨r1, r2, r3, r4⟩ := apGo_ok c _ s3 h
      refine ⟨r1, fun y hy => ?_, fun y hy hn => ?_, fun hp y hy => ?_⟩
      · rcases r2 y hy with hy | hy
        · exact .inl (List.mem_cons_of_mem _ hy)
        · rcases (s4 y).1 hy with hy | hy
          · left; rw [hy]; exact List.mem_cons_self ..
          · exact .inr hy.1
      · exact r3 y ((s4 y).2 (.inr ⟨hy, fun e => hn x (List.mem_cons_self ..) e.symm⟩)) (fun z hz => hn z (List.mem_cons_of_mem _ hz))
      · rw [List.pairwise_cons] at hp
        rcases List.mem_cons.1 hy with hy | hy
        · exact r3 y ((s4 y).2 (.inl hy)) (fun z hz e => hp.1 z hz (by rw [hy] at e; exact e.symm))
        · exact r4 hp.2 y hy
    · rw [if_pos h1] at h; exact absurd h h1
theorem tree_ne {l : List EntD} (h : TreeOk l) : l.Pairwise fun x y => ¬ x.name = y.name := by
  rw [List.pairwise_iff_getElem]
  intro i j hi hj hij e
  have := h.ord i j _ _ hij (List.getElem?_eq_getElem hi) (List.getElem?_eq_getElem hj)
  have := ordN_zero.2 e
  omega
theorem applies_1 {a b : List EntD} (h : (chApply a b).2 = 0) : TreeOk a ∧ TreeOk (chApply a b).1 := by
  unfold chApply at h ⊢
  by_cases h1 : treeCheck a = 0
  · rw [if_neg (by rw [Decidable.not_not]; exact h1)] at h ⊢
    have ha := treeCheck_iff.1 h1
    exact ⟨ha, (apGo_ok b a ha h).1⟩
  · rw [if_pos h1] at h; exact absurd h h1
theorem applies_2 {a b : List EntD} {n : List UInt8} {i : Nat} (h : (chApply a b).2 = 0) (hb : treeCheck b = 0) (hn : (chDiff (chApply a b).1 b).1[i]? = some n) : (treeGet b n).2.1 = false ∧ (treeGet b n).2.2 = 0 ∧ (treeGet a n).2.1 = true ∧ (treeGet a n).2.2 = 0 := by
  obtain ⟨ha, hx⟩ := applies_1 h
  have hb := treeCheck_iff.1 hb
  rw [chDiff_can hx hb] at hn
  have hn := (mem_differ hx hb).1 (List.mem_of_getElem? hn)
  have e : chApply a b = apGo a b := by unfold chApply; rw [if_neg (by rw [Decidable.not_not]; exact treeCheck_iff.2 ha)]
  rw [e] at h hx hn
  obtain ⟨r1, r2, r3, r4⟩ := apGo_ok b a ha h
  obtain ⟨h1, _, h3⟩ := hn
  have hp : pathName n = true := by
    rcases h1 with h1 | h1
    · obtain ⟨y, hy, rfl⟩ := List.mem_map.1 h1; exact right_name (hx.ok y hy)
    · obtain ⟨y, hy, rfl⟩ := List.mem_map.1 h1; exact right_name (hb.ok y hy)
  have hno : ∀ y ∈ b, ¬ y.name = n := by
    rintro y hy rfl
    have g1 := treeGet_in hb hy hp
    have g2 := treeGet_in hx (r4 (tree_ne hb) y hy) hp
    rw [unlike, g1, g2] at h3
    simp at h3
  rw [treeGet_no hb hp hno]
  refine ⟨rfl, rfl, ?_⟩
  rcases h1 with h1 | h1
  · obtain ⟨y, hy, rfl⟩ := List.mem_map.1 h1
    rcases r2 y hy with hy | hy
    · exact absurd rfl (hno y hy)
    · rw [treeGet_in ha hy hp]; exact ⟨rfl, rfl⟩
  · obtain ⟨y, hy, e⟩ := List.mem_map.1 h1
    exact absurd e (hno y hy)
theorem applies_f {a b : List EntD} (h : (chApply a b).2 = 0) : treeCheck (chApply a b).1 = 0 ∧ (treeCheck b = 0 → (chDiff (chApply a b).1 b).2 = 0) := by
  obtain ⟨ha, hx⟩ := applies_1 h
  exact ⟨treeCheck_iff.2 hx, fun hb => by rw [chDiff_can hx (treeCheck_iff.1 hb)]⟩
theorem apGo_len : ∀ (c out : List EntD), out.length ≤ 1000 → (apGo out c).1.length ≤ 1000
  | [], out, h => h
  | x :: c, out, h => by
    unfold apGo; split
    · simp
    · exact apGo_len c _ (Nat.le_trans (treeSet_len _ _ _) (by decide))
theorem apply_len (l c : List EntD) : (chApply l c).1.length ≤ 1000 := by
  unfold chApply; split
  · simp
  · rename_i h; exact apGo_len c l (by have := (treeCheck_iff.1 (Decidable.not_not.1 h)).len; omega)
theorem chLook_con (G : Mem) (a_a : Option Addr) (c_a : Nat) (a : List EntD) (h_a : RS EEnt G a_a c_a a) (a_b : Option Addr) (c_b : Nat) (b : List EntD) (h_b : RS EEnt G a_b c_b b)  : Con Tryz.prog 32 #[Sl a_a a.length c_a, Sl a_b b.length c_b] G [] (fun u G' L' => ∃ (a1 : Option Addr) (c2 : Nat), u = .tuple #[Sl a1 (((chLook a b).1).length) c2, I ((chLook a b).2.1), I ((chLook a b).2.2)] ∧ (RS ES G' a1 c2 ((chLook a b).1)) ∧ L' = []) := by
 refine con_of Tryz.func32 22 [(0, Sl a_a a.length c_a), (1, Sl a_b b.length c_b)] rfl (fun w0 G0 => ?_)
 refine tc_seq (tc_region ?_)
 refine runL_box 2 #[Sl a_a a.length c_a] 33 (fun b1 => ?_)
 refine runL_box 3 #[Sl a_b b.length c_b] 33 (fun b2 => ?_)
 refine runL_b [0,0,0] [(2, Pt b1 0), (3, Pt b2 0)] (runL_nil (tq_then (tc_seq (tc_seq (tc_region ?_)))))
 refine runL_b [4,2] [(2, Pt b1 0), (3, Pt b2 0), (11, Sl a_a a.length c_a), (12, Sl a_b b.length c_b)] ?_
 refine runL_callV 13 (I (chCheck a b)) (chCheck_con G a_a c_a a h_a a_b c_b b h_b) ?_
 refine runL_b [0] [(2, Pt b1 0), (3, Pt b2 0), (7, I (chCheck a b))] (runL_nil (tq_then ?_))
 refine tc_rb [0,0] [(2, Pt b1 0), (3, Pt b2 0), (7, I (chCheck a b)), (15, Bo (!decide (chCheck a b = 0)))] ?_
 refine tc_cond (!decide (chCheck a b = 0)) (fun h1 => ?_) (fun h1 => ?_)
 ·
  try simp only [BB] at h1
  refine tc_rb [0,0,0,0] [(4, Sl none 0 0), (5, I 0), (6, I (chCheck a b))] (tc_ret (tq_then_ret ?_))
  have hf1 : chLook a b = ([], 0, chCheck a b) := by
   unfold chLook; first | (rw [if_pos (by assumption)]; done) | (rw [if_neg (by simp_all)]; simp; done)
  refine tq_ret [0, 0, 0] [Sl none 0 0, I 0, I (chCheck a b)] (bp_rows [] (.cons _ (.cons _ .slnil)) (Mem.le_refl _) ?_)
  rw [hf1]
  try dsimp only
  exact ⟨none, 0, rfl, (RS.nil' ES G), rfl⟩
 ·
  try simp only [BB] at h1
  refine tc_skip (tq_then (tc_seq (tc_region ?_)))
  refine runL_box 8 #[Sl none 0 0] 70 (fun b3 => ?_)
  refine runL_nil (tq_then (tc_seq (tc_region ?_)))
  refine runL_box 9 #[I 0] 3 (fun b4 => ?_)
  refine runL_b [3] [(2, Pt b1 0), (3, Pt b2 0), (8, Pt b3 0), (9, Pt b4 0)] (runL_nil (tq_then (tc_seq (tc_region ?_))))
  refine runL_box 10 #[.nilFunc] 132 (fun b5 => ?_)
  refine runL_nil (tq_then ?_)
  refine tc_rbs [0,3] [(8, Pt b3 0), (9, Pt b4 0), (10, Pt b5 0)] [[Sg b5 0 [.func (.func 72) #[] #[Pt b4 0, Pt b1 0, Pt b2 0, Pt b3 0, Pt b5 0]]], [Sg b4 0 [I 0]], [Sg b3 0 [Sl none 0 0]], [Sg b2 0 [Sl a_b b.length c_b]], [Sg b1 0 [Sl a_a a.length c_a]]] ?_
  refine tc_seq (tc_region ?_)
  refine runL_b [2] [(8, Pt b3 0), (9, Pt b4 0), (18, .func (.func 72) #[] #[Pt b4 0, Pt b1 0, Pt b2 0, Pt b3 0, Pt b5 0])] ?_
  refine runL_empty ?_
  refine runL_frz1 (b := b1) (o := 0) (cs := [Sl a_a a.length c_a]) 5 (fun G1 hl1 hz1 => ?_)
  refine runL_frz1 (b := b2) (o := 0) (cs := [Sl a_b b.length c_b]) 4 (fun G2 hl2 hz2 => ?_)
  refine runL_frz1 (b := b5) (o := 0) (cs := [.func (.func 72) #[] #[Pt b4 0, Pt b1 0, Pt b2 0, Pt b3 0, Pt b5 0]]) 1 (fun G3 hl3 hz3 => ?_)
  refine runL_front 0 ?_
  refine runL_front 3 ?_
  refine runL_front 3 ?_
  refine runL_callL (Ls := [[Sg b4 0 [I 0]], [Sg b3 0 [Sl none 0 0]], []]) (Lr := [[], [], []]) 19 (look_con 16 G3 b4 b1 b2 b3 b5 a b a_a c_a a_b c_b (h_a.mono (Mem.le_trans (Mem.le_trans hl1 hl2) hl3)) (h_b.mono (Mem.le_trans (Mem.le_trans hl1 hl2) hl3)) (fun j v hv => (Mem.le_trans hl2 hl3) _ _ _ (hz1 j v hv)) (fun j v hv => hl3 _ _ _ (hz2 j v hv)) hz3 (chCheck_ok (a := a) (b := b) (by assumption)).1.len (chCheck_ok (a := a) (b := b) (by assumption)).2.len ([]) rfl 0 (by decide) none 0 ([] : List (List UInt8)) [] (TRow.none ES _) (by decide)) (fun v G4 L1 hl4 hp => ?_)
  obtain ⟨a1, c1, r1, rfl, hr1, rfl⟩ := hp
  refine runL_nil (tq_then (tc_seq ?_))
  refine tc_draw [] ?_
  refine dr_V [(0, Sl a1 ((([] : List (List UInt8)) ++ (lookD a b 16 ([])).2).length) c1), (1, I (0 + (lookD a b 16 ([])).1)), (2, Sl a1 ((([] : List (List UInt8)) ++ (lookD a b 16 ([])).2).length) c1), (3, I (0 + (lookD a b 16 ([])).1)), (4, I 0)] ?_
  refine dr_end [] [(0,4), (1,2), (2,0), (3,0), (4,0)] [] [(4, Sl a1 ((([] : List (List UInt8)) ++ (lookD a b 16 ([])).2).length) c1), (5, I (0 + (lookD a b 16 ([])).1)), (6, I 0)] (List.forall_mem_nil _) ?_
  refine tq_then (tc_ret ?_)
  refine tq_frzR (E := ES) 2 hr1 (by have q_ := chCheck_ok (a := a) (b := b) (by assumption); have q1_ := (lookD_bd q_.1.len q_.2.len 16 []).2.2; rw [show P2 16 = 65536 from by decide] at q1_; simp only [ES, List.length_append, List.length_nil]; omega) (fun G5 hl5 hs1 => ?_)
  have hf2 : chLook a b = ((([] : List (List UInt8)) ++ (lookD a b 16 ([])).2), 0 + (lookD a b 16 ([])).1, 0) := by
   unfold chLook; first | (rw [if_pos (by assumption)]; done) | (rw [if_neg (by simp_all)]; simp; done)
  refine tq_ret [0, 0, 0] [Sl a1 ((([] : List (List UInt8)) ++ (lookD a b 16 ([])).2).length) c1, I (0 + (lookD a b 16 ([])).1), I 0] (bp_rows [] (.cons _ (.cons _ (.cons _ (.cons _ (.cons _ (.cons _ .slnil)))))) (Mem.le_trans (Mem.le_trans (Mem.le_trans (Mem.le_trans hl1 hl2) hl3) hl4) hl5) ?_)
  rw [hf2]
  try dsimp only
  exact ⟨a1, c1, rfl, hs1, rfl⟩
theorem changes_con (G : Mem)   : Con Tryz.prog 29 #[] G [] (fun u G' L' => u = Bo true) := by
 refine con_of Tryz.func29 15 [] rfl (fun w0 G0 => ?_)
 refine tc_rb [0] [] (tc_seq (tc_region ?_))
 refine runL_callR 5 (chLook_con G none 0 ([]) (RS.nil' EEnt G) none 0 ([]) (RS.nil' EEnt G)) (fun v G1 L1 hl1 hp => ?_)
 obtain ⟨a1, c1, rfl, hs1, rfl⟩ := hp
 refine runL_b [0,0,0,0,0,0,0] [(2, I ((chLook ([]) ([])).2.1)), (3, I ((chLook ([]) ([])).2.2))] (runL_nil (tq_then (tc_seq (tc_region ?_))))
 refine runL_b [0,0,0] [(2, I ((chLook ([]) ([])).2.1)), (11, Bo (decide ((chLook ([]) ([])).2.2 = 0)))] ?_
 refine runL_b2 (decide ((chLook ([]) ([])).2.2 = 0)) (fun bb => [(2, I ((chLook ([]) ([])).2.1)), (11, Bo bb)]) [0,0,0] [1,1,0] (fun bb => [(14, Bo (bb && (decide ((chLook ([]) ([])).2.1 = 1))))]) ?_
 refine runL_b [0] [(0, Bo ((decide ((chLook ([]) ([])).2.2 = 0)) && (decide ((chLook ([]) ([])).2.1 = 1))))] (runL_nil (tq_then (tc_ret ?_)))
 refine tq_ret [0] [Bo ((decide ((chLook ([]) ([])).2.2 = 0)) && (decide ((chLook ([]) ([])).2.1 = 1)))] (bp_ret hl1 ?_)
 have hf_ : ((decide ((chLook ([]) ([])).2.2 = 0)) && (decide ((chLook ([]) ([])).2.1 = 1))) = true := by
  have q_ := changes_law; rw [q_.1, q_.2]; rfl
 exact congrArg Bo hf_
theorem chApply_con (G : Mem) (a_l : Option Addr) (c_l : Nat) (l : List EntD) (h_l : RS EEnt G a_l c_l l) (a_c : Option Addr) (c_c : Nat) (c : List EntD) (h_c : RS EEnt G a_c c_c c)  : Con Tryz.prog 37 #[Sl a_l l.length c_l, Sl a_c c.length c_c] G [] (fun u G' L' => ∃ (a1 : Option Addr) (c2 : Nat) (r3 : List Seg), u = .tuple #[Sl a1 (((chApply l c).1).length) c2, I ((chApply l c).2)] ∧ (TRow EEnt G' a1 c2 ((chApply l c).1) r3) ∧ L' = [r3]) := by
 refine con_of Tryz.func37 38 [(0, Sl a_l l.length c_l), (1, Sl a_c c.length c_c)] rfl (fun w0 G0 => ?_)
 refine tc_rb [0,0] [(0, Sl a_l l.length c_l), (1, Sl a_c c.length c_c)] (tc_seq (tc_seq (tc_region ?_)))
 refine runL_b [0] [(0, Sl a_l l.length c_l), (1, Sl a_c c.length c_c), (11, Sl a_l l.length c_l)] ?_
 refine runL_callV 12 (I (treeCheck l)) (treeCheck_con G a_l c_l l h_l) ?_
 refine runL_b [0] [(0, Sl a_l l.length c_l), (1, Sl a_c c.length c_c), (6, I (treeCheck l))] (runL_nil (tq_then ?_))
 refine tc_rb [0,0] [(0, Sl a_l l.length c_l), (1, Sl a_c c.length c_c), (6, I (treeCheck l)), (14, Bo (!decide (treeCheck l = 0)))] ?_
 refine tc_cond (!decide (treeCheck l = 0)) (fun h1 => ?_) (fun h1 => ?_)
 ·
  try simp only [BB] at h1
  refine tc_rb [0,0,0] [(4, Sl none 0 0), (5, I (treeCheck l))] (tc_ret (tq_then_ret ?_))
  refine tq_empty ?_
  refine tq_front 0 ?_
  have hf1 : chApply l c = ([], treeCheck l) := by
   unfold chApply; first | (rw [if_pos (by assumption)]; done) | (rw [if_neg (by simp_all), hxw.1]; first | (rw [apGo_no hx1 (by assumption)]; done) | (rw [apGo_end (by omega)]; done))
  refine tq_ret [0, 0] [Sl none 0 0, I (treeCheck l)] (bp_rows [[]] (.cons_cons _ .slnil) (Mem.le_refl _) ?_)
  rw [hf1]
  try dsimp only
  exact ⟨none, 0, ([]), rfl, (TRow.none EEnt _), rfl⟩
 ·
  try simp only [BB] at h1
  refine tc_skip (tq_then (tc_seq (tc_region ?_)))
  refine runL_b [0] [(1, Sl a_c c.length c_c), (16, Sl a_l l.length c_l)] ?_
  refine runL_empty ?_
  refine runL_app' 17 68 0 (E := EEnt) (TRow.none EEnt G) h_l (by first | (have q0_ := hxw.2; simp only [EEnt]; omega) | (have q_ := (treeCheck_iff.1 (by assumption)).len; (try simp only [EEnt, List.length_nil]); omega)) (by first | (have q0_ := hxw.2; simp only [EEnt]; omega) | (have q_ := (treeCheck_iff.1 (by assumption)).len; (try simp only [EEnt, List.length_nil]); omega)) (fun a1 c1 r1 hr1 => ?_)
  refine runL_b [0] [(1, Sl a_c c.length c_c), (7, Sl a1 l.length c1)] (runL_nil (tq_then (tc_seq ?_)))
  refine tc_rb [0,0,0] [(7, Sl a1 l.length c1), (18, Sl a_c c.length c_c), (19, I (c.length : Int)), (20, I 0)] (tc_block ?_)
  have hlm_h_c : c.length ≤ 9223372036854775807 := Nat.le_trans (h_c).le (h_c).max
  refine tc_loop (σ := Nat × Option Addr × Nat × List Seg × List EntD × Mem) (fun q_ => (Mem.le G q_.2.2.2.2.2) ∧ (q_.1 ≤ c.length) ∧ (TRow EEnt q_.2.2.2.2.2 q_.2.1 q_.2.2.1 q_.2.2.2.2.1 q_.2.2.2.1) ∧ (apGo l c = apGo q_.2.2.2.2.1 (c.drop q_.1) ∧ q_.2.2.2.2.1.length ≤ 1000)) (fun q_ => [(7, Sl q_.2.1 q_.2.2.2.2.1.length q_.2.2.1), (18, Sl a_c c.length c_c), (19, I (c.length : Int)), (20, I (q_.1 : Int))]) (fun q_ => q_.2.2.2.2.2) (fun q_ => [q_.2.2.2.1]) (fun q_ => c.length - q_.1) (0, a1, c1, r1, l, G) ⟨(Mem.le_refl _), (by (try dsimp only); first | exact Nat.zero_le _ | omega | simp), hr1, ⟨rfl, by (have q_ := (treeCheck_iff.1 (by assumption)).len; (try simp only [EEnt, List.length_nil]); omega)⟩⟩ (fun q_ hs => ?_)
  obtain ⟨i, aw, cw, rw, xw, g⟩ := q_
  obtain ⟨hle, hi, hrw, hxw⟩ := hs
  dsimp only at hle hi hrw hxw
  refine tc_eq (fr' := [(7, Sl aw xw.length cw), (18, Sl a_c c.length c_c), (19, I (c.length : Int)), (20, I (i : Int))]) (L' := [rw]) rfl rfl ?_
  refine tc_rb [0] [(7, Sl aw xw.length cw), (18, Sl a_c c.length c_c), (19, I (c.length : Int)), (20, I (i : Int)), (21, Bo (decide ((i : Int) < (c.length : Int))))] (tc_seq ?_)
  refine tc_cond (decide ((i : Int) < (c.length : Int))) (fun h2 => ?_) (fun h2 => ?_)
  ·
   try simp only [BB] at h2
   refine tc_skip (tq_then (tc_seq (tc_block (tc_seq (tc_region ?_)))))
   obtain ⟨b1, o1, rfl⟩ := RS.addr (h_c.mono hle) (k := i) (by omega)
   obtain ⟨x1, hx1⟩ := getX (l := c) (k := i) (by omega)
   obtain ⟨_, ⟨rfl, w1, w2⟩, hc1⟩ := RS.get (h_c.mono hle) hx1
   refine runL_idx (b := b1) (off := o1) (len := c.length) (cap := c_c) (ik := .i64) 22 68 2 i (by omega) ?_
   refine runL_ldG 23 68 (cs := [Sr x1.name, Sr x1.value]) 0 (.agg #[Sr x1.name, Sr x1.value]) hc1 ?_
   refine runL_box 9 #[Sr ([]), Sr ([])] 68 (fun b2 => ?_)
   refine runL_bs [3] [(7, Sl aw xw.length cw), (9, Pt b2 0), (18, Sl (At b1 o1) c.length c_c), (19, I (c.length : Int)), (20, I (i : Int))] [[Sg b2 0 [Sr x1.name, Sr x1.value]], rw] (runL_nil (tq_then ?_))
   refine tc_rb [0] [(7, Sl aw xw.length cw), (9, Pt b2 0), (18, Sl (At b1 o1) c.length c_c), (19, I (c.length : Int)), (20, I (i : Int))] (tc_seq (tc_region ?_))
   refine runL_b [0,0,2,0,2] [(7, Sl aw xw.length cw), (18, Sl (At b1 o1) c.length c_c), (19, I (c.length : Int)), (20, I (i : Int)), (25, Sl aw xw.length cw), (27, Sr x1.name), (29, Sr x1.value)] ?_
   refine runL_frzR (E := EEnt) 1 hrw (by first | (have q0_ := hxw.2; simp only [EEnt]; omega) | (have q_ := (treeCheck_iff.1 (by assumption)).len; (try simp only [EEnt, List.length_nil]); omega)) (fun G1 hl1 hs1 => ?_)
   refine runL_callR 30 (treeSet_con G1 aw cw xw hs1 x1.name w1 x1.value w2) (fun v G2 L1 hl2 hp => ?_)
   obtain ⟨a2, c2, r2, rfl, hr2, rfl⟩ := hp
   refine runL_b [0,0,0,0,0] [(7, Sl a2 (((treeSet xw x1.name x1.value).1).length) c2), (10, I ((treeSet xw x1.name x1.value).2)), (18, Sl (At b1 o1) c.length c_c), (19, I (c.length : Int)), (20, I (i : Int))] (runL_nil (tq_then ?_))
   refine tc_rb [0,0] [(7, Sl a2 (((treeSet xw x1.name x1.value).1).length) c2), (10, I ((treeSet xw x1.name x1.value).2)), (18, Sl (At b1 o1) c.length c_c), (19, I (c.length : Int)), (20, I (i : Int)), (34, Bo (!decide ((treeSet xw x1.name x1.value).2 = 0)))] ?_
   refine tc_cond (!decide ((treeSet xw x1.name x1.value).2 = 0)) (fun h3 => ?_) (fun h3 => ?_)
   ·
    try simp only [BB] at h3
    refine tc_rb [0,0,0] [(4, Sl none 0 0), (5, I ((treeSet xw x1.name x1.value).2))] (tc_ret (tq_block_ret (tq_then_ret (tq_rnd_ret (tq_block_ret (tq_then_ret ?_))))))
    refine tq_empty ?_
    refine tq_front 0 ?_
    have hf2 : chApply l c = ([], (treeSet xw x1.name x1.value).2) := by
     unfold chApply; first | (rw [if_pos (by assumption)]; done) | (rw [if_neg (by simp_all), hxw.1]; first | (rw [apGo_no hx1 (by assumption)]; done) | (rw [apGo_end (by omega)]; done))
    refine tq_ret [0, 0] [Sl none 0 0, I ((treeSet xw x1.name x1.value).2)] (bp_rows [[]] (.cons_cons _ (.cons _ (.cons _ (.cons _ .slnil)))) (Mem.le_trans (Mem.le_trans hle hl1) hl2) ?_)
    rw [hf2]
    try dsimp only
    exact ⟨none, 0, ([]), rfl, (TRow.none EEnt _), rfl⟩
   ·
    try simp only [BB] at h3
    refine tc_skip (tq_block (tq_then (tc_region ?_)))
    refine runL_b [0,0] [(7, Sl a2 (((treeSet xw x1.name x1.value).1).length) c2), (18, Sl (At b1 o1) c.length c_c), (19, I (c.length : Int)), (20, I (IntKind.i64.wrap ((i : Int) + 1)))] ?_
    have e1 : IntKind.i64.wrap ((i : Int) + 1) = (i : Int) + 1 := IntWalk.i64_in _ (by omega)
    refine runL_eq (fr' := [(7, Sl a2 (((treeSet xw x1.name x1.value).1).length) c2), (18, Sl (At b1 o1) c.length c_c), (19, I (c.length : Int)), (20, I ((i : Int) + 1))]) (L' := [r2, [Sg b2 0 [Sr x1.name, Sr x1.value]], []]) (by simp only [e1]) (by rfl) ?_
    clear e1
    refine runL_nil ?_
    refine tq_front 0 ?_
    refine tq_front 1 ?_
    refine tq_front 2 ?_
    refine tq_owns [r2] (.cons _ (.cons _ (.cons_cons _ .slnil))) ?_
    exact tq_rnd (i + 1, a2, c2, r2, (treeSet xw x1.name x1.value).1, G2) ⟨(Mem.le_trans hle (Mem.le_trans hl1 hl2)), (by omega), hr2, ⟨hxw.1.trans (apGo_step hx1 (by assumption)), Nat.le_trans (treeSet_len _ _ _) (by decide)⟩⟩ (by (try dsimp only); omega)
  ·
   try simp only [BB] at h2
   refine tc_exit (tq_then_exit (tq_rnd_exit (tq_block_here (tq_then ?_))))
   refine tc_rb [0,0,0] [(4, Sl aw xw.length cw), (5, I 0)] (tc_ret ?_)
   refine tq_front 0 ?_
   have hf3 : chApply l c = (xw, 0) := by
    unfold chApply; first | (rw [if_pos (by assumption)]; done) | (rw [if_neg (by simp_all), hxw.1]; first | (rw [apGo_no hx1 (by assumption)]; done) | (rw [apGo_end (by omega)]; done))
   refine tq_ret [0, 0] [Sl aw xw.length cw, I 0] (bp_rows [rw] (.cons_cons _ .slnil) hle ?_)
   rw [hf3]
   try dsimp only
   exact ⟨aw, cw, rw, rfl, hrw, rfl⟩
theorem changeApplies_con (G : Mem) (a_a : Option Addr) (c_a : Nat) (a : List EntD) (h_a : RS EEnt G a_a c_a a) (a_b : Option Addr) (c_b : Nat) (b : List EntD) (h_b : RS EEnt G a_b c_b b) (hf_a : a.length * 32 ≤ 140737488351232) (hf_b : b.length * 32 ≤ 140737488351232) : Con Tryz.prog 9 #[Sl a_a a.length c_a, Sl a_b b.length c_b] G [] (fun u G' L' => u = Bo true) := by
 refine con_of Tryz.func9 82 [(0, Sl a_a a.length c_a), (1, Sl a_b b.length c_b)] rfl (fun w0 G0 => ?_)
 refine tc_rb [0] [(0, Sl a_a a.length c_a), (1, Sl a_b b.length c_b)] (tc_seq (tc_seq (tc_region ?_)))
 refine runL_callV 17 (Bo true) (changes_con G) ?_
 refine runL_b [0] [(0, Sl a_a a.length c_a), (1, Sl a_b b.length c_b), (18, Bo false)] (runL_nil (tq_then ?_))
 refine tc_cond_false ?_
 refine tc_skip (tq_then (tc_seq (tc_region ?_)))
 refine runL_b [0,0] [(0, Sl a_a a.length c_a), (1, Sl a_b b.length c_b), (20, Sl a_a a.length c_a), (21, Sl a_b b.length c_b)] ?_
 refine runL_callR 22 (chApply_con G a_a c_a a h_a a_b c_b b h_b) (fun v G1 L1 hl1 hp => ?_)
 obtain ⟨a1, c1, r1, rfl, hr1, rfl⟩ := hp
 refine runL_b [0,0,0,0,0] [(0, Sl a_a a.length c_a), (1, Sl a_b b.length c_b), (5, Sl a1 (((chApply a b).1).length) c1), (6, I ((chApply a b).2))] (runL_nil (tq_then (tc_seq ?_)))
 refine tc_rb [0,0] [(0, Sl a_a a.length c_a), (1, Sl a_b b.length c_b), (5, Sl a1 (((chApply a b).1).length) c1), (26, Bo (!decide ((chApply a b).2 = 0)))] ?_
 refine tc_cond (!decide ((chApply a b).2 = 0)) (fun h1 => ?_) (fun h1 => ?_)
 ·
  try simp only [BB] at h1
  refine tc_rb [0,0,0,0] [(4, Bo (decide ((((chApply a b).1).length : Int) = 0)))] (tc_ret (tq_then_ret ?_))
  refine tq_ret [0] [Bo (decide ((((chApply a b).1).length : Int) = 0))] (bp_ret hl1 ?_)
  have hf_ : (decide ((((chApply a b).1).length : Int) = 0)) = true := by
   first | (rw [apply_err (by assumption)]; rfl) | (obtain ⟨q1_, q2_⟩ := applies_f (a := a) (b := b) (by omega); first | (rw [q1_]; rfl) | (rw [q1_, q2_ (by omega)]; rfl) | exact absurd (q2_ (by assumption)) (by assumption) | (obtain ⟨p1_, p2_, p3_, p4_⟩ := applies_2 (a := a) (b := b) (by omega) (by omega) hx1; simp_all; done) | (have q3_ := q2_ (by omega); simp_all; done))
  exact congrArg Bo hf_
 ·
  try simp only [BB] at h1
  refine tc_skip (tq_then (tc_seq (tc_seq (tc_region ?_))))
  refine runL_b [0] [(0, Sl a_a a.length c_a), (1, Sl a_b b.length c_b), (5, Sl a1 (((chApply a b).1).length) c1), (30, Sl a_b b.length c_b)] ?_
  refine runL_callV 31 (I (treeCheck b)) (treeCheck_con G1 a_b c_b b (h_b.mono hl1)) ?_
  refine runL_b [0] [(0, Sl a_a a.length c_a), (1, Sl a_b b.length c_b), (5, Sl a1 (((chApply a b).1).length) c1), (32, Bo (!decide (treeCheck b = 0)))] (runL_nil (tq_then ?_))
  refine tc_cond (!decide (treeCheck b = 0)) (fun h2 => ?_) (fun h2 => ?_)
  ·
   try simp only [BB] at h2
   refine tc_seq (tc_region ?_)
   refine runL_b [0] [(33, Sl a1 (((chApply a b).1).length) c1)] ?_
   refine runL_frzR (E := EEnt) 0 hr1 (by have q_ := apply_len a b; simp only [EEnt]; omega) (fun G2 hl2 hs1 => ?_)
   refine runL_callV 34 (I (treeCheck ((chApply a b).1))) (treeCheck_con G2 a1 c1 ((chApply a b).1) hs1) ?_
   refine runL_b [0,0] [(4, Bo (decide (treeCheck ((chApply a b).1) = 0)))] (runL_nil (tq_then (tc_ret (tq_then_ret ?_))))
   refine tq_ret [0] [Bo (decide (treeCheck ((chApply a b).1) = 0))] (bp_ret (Mem.le_trans hl1 hl2) ?_)
   have hf_ : (decide (treeCheck ((chApply a b).1) = 0)) = true := by
    first | (rw [apply_err (by assumption)]; rfl) | (obtain ⟨q1_, q2_⟩ := applies_f (a := a) (b := b) (by omega); first | (rw [q1_]; rfl) | (rw [q1_, q2_ (by omega)]; rfl) | exact absurd (q2_ (by assumption)) (by assumption) | (obtain ⟨p1_, p2_, p3_, p4_⟩ := applies_2 (a := a) (b := b) (by omega) (by omega) hx1; simp_all; done) | (have q3_ := q2_ (by omega); simp_all; done))
   exact congrArg Bo hf_
  ·
   try simp only [BB] at h2
   refine tc_skip (tq_then (tc_seq (tc_region ?_)))
   refine runL_b [0,0] [(0, Sl a_a a.length c_a), (1, Sl a_b b.length c_b), (5, Sl a1 (((chApply a b).1).length) c1), (37, Sl a1 (((chApply a b).1).length) c1), (38, Sl a_b b.length c_b)] ?_
   refine runL_frzR (E := EEnt) 0 hr1 (by have q_ := apply_len a b; simp only [EEnt]; omega) (fun G3 hl3 hs2 => ?_)
   refine runL_callR 39 (chDiff_con G3 a1 c1 ((chApply a b).1) hs2 a_b c_b b (h_b.mono (Mem.le_trans hl1 hl3))) (fun v G4 L1 hl4 hp => ?_)
   obtain ⟨a2, c2, rfl, hs3, rfl⟩ := hp
   refine runL_b [0,0,0,0,0] [(0, Sl a_a a.length c_a), (1, Sl a_b b.length c_b), (5, Sl a1 (((chApply a b).1).length) c1), (7, Sl a2 (((chDiff ((chApply a b).1) b).1).length) c2), (8, I ((chDiff ((chApply a b).1) b).2))] (runL_nil (tq_then (tc_seq ?_)))
   refine tc_rb [0,0,0] [(0, Sl a_a a.length c_a), (1, Sl a_b b.length c_b), (5, Sl a1 (((chApply a b).1).length) c1), (8, I ((chDiff ((chApply a b).1) b).2)), (42, Sl a2 (((chDiff ((chApply a b).1) b).1).length) c2), (43, I ((((chDiff ((chApply a b).1) b).1).length : Nat) : Int)), (44, I 0)] (tc_block ?_)
   have hlm_h_a : a.length ≤ 9223372036854775807 := Nat.le_trans (h_a).le (h_a).max
   have hlm_h_b : b.length ≤ 9223372036854775807 := Nat.le_trans (h_b).le (h_b).max
   have hlm_hs2 : ((chApply a b).1).length ≤ 9223372036854775807 := Nat.le_trans (hs2).le (hs2).max
   have hlm_hs3 : ((chDiff ((chApply a b).1) b).1).length ≤ 9223372036854775807 := Nat.le_trans (hs3).le (hs3).max
   refine tc_loop (σ := Nat × Mem) (fun q_ => (Mem.le G4 q_.2) ∧ (q_.1 ≤ ((chDiff ((chApply a b).1) b).1).length)) (fun q_ => [(0, Sl a_a a.length c_a), (1, Sl a_b b.length c_b), (5, Sl a1 (((chApply a b).1).length) c1), (8, I ((chDiff ((chApply a b).1) b).2)), (42, Sl a2 (((chDiff ((chApply a b).1) b).1).length) c2), (43, I ((((chDiff ((chApply a b).1) b).1).length : Nat) : Int)), (44, I (q_.1 : Int))]) (fun q_ => q_.2) (fun q_ => [[]]) (fun q_ => ((chDiff ((chApply a b).1) b).1).length - q_.1) (0, G4) ⟨(Mem.le_refl _), (by (try dsimp only); first | exact Nat.zero_le _ | omega | simp)⟩ (fun q_ hs => ?_)
   obtain ⟨i, g⟩ := q_
   obtain ⟨hle, hi⟩ := hs
   dsimp only at hle hi
   refine tc_eq (fr' := [(0, Sl a_a a.length c_a), (1, Sl a_b b.length c_b), (5, Sl a1 (((chApply a b).1).length) c1), (8, I ((chDiff ((chApply a b).1) b).2)), (42, Sl a2 (((chDiff ((chApply a b).1) b).1).length) c2), (43, I ((((chDiff ((chApply a b).1) b).1).length : Nat) : Int)), (44, I (i : Int))]) (L' := [[]]) rfl rfl ?_
   refine tc_rb [0] [(0, Sl a_a a.length c_a), (1, Sl a_b b.length c_b), (5, Sl a1 (((chApply a b).1).length) c1), (8, I ((chDiff ((chApply a b).1) b).2)), (42, Sl a2 (((chDiff ((chApply a b).1) b).1).length) c2), (43, I ((((chDiff ((chApply a b).1) b).1).length : Nat) : Int)), (44, I (i : Int)), (45, Bo (decide ((i : Int) < ((((chDiff ((chApply a b).1) b).1).length : Nat) : Int))))] (tc_seq ?_)
   refine tc_cond (decide ((i : Int) < ((((chDiff ((chApply a b).1) b).1).length : Nat) : Int))) (fun h3 => ?_) (fun h3 => ?_)
   ·
    try simp only [BB] at h3
    refine tc_skip (tq_then (tc_seq (tc_block (tc_seq (tc_region ?_)))))
    obtain ⟨b1, o1, rfl⟩ := RS.addr (hs3.mono hle) (k := i) (by omega)
    obtain ⟨x1, hx1⟩ := getX (l := (chDiff ((chApply a b).1) b).1) (k := i) (by omega)
    obtain ⟨_, ⟨rfl, w1⟩, hc1⟩ := RS.get (hs3.mono hle) hx1
    refine runL_idx (b := b1) (off := o1) (len := ((chDiff ((chApply a b).1) b).1).length) (cap := c2) (ik := .i64) 46 9 1 i (by omega) ?_
    refine runL_ldG 47 9 (cs := [Sr x1]) 0 (Sr x1) hc1 ?_
    refine runL_b [0] [(0, Sl a_a a.length c_a), (1, Sl a_b b.length c_b), (5, Sl a1 (((chApply a b).1).length) c1), (8, I ((chDiff ((chApply a b).1) b).2)), (10, Sr x1), (42, Sl (At b1 o1) (((chDiff ((chApply a b).1) b).1).length) c2), (43, I ((((chDiff ((chApply a b).1) b).1).length : Nat) : Int)), (44, I (i : Int))] (runL_nil (tq_then (tc_seq (tc_region ?_))))
    refine runL_b [0,0] [(0, Sl a_a a.length c_a), (1, Sl a_b b.length c_b), (5, Sl a1 (((chApply a b).1).length) c1), (8, I ((chDiff ((chApply a b).1) b).2)), (10, Sr x1), (42, Sl (At b1 o1) (((chDiff ((chApply a b).1) b).1).length) c2), (43, I ((((chDiff ((chApply a b).1) b).1).length : Nat) : Int)), (44, I (i : Int)), (49, Sl a_b b.length c_b), (50, Sr x1)] ?_
    refine runL_callR 51 (treeGet_con g a_b c_b b (h_b.mono (Mem.le_trans (Mem.le_trans (Mem.le_trans hl1 hl3) hl4) hle)) x1 w1) (fun v G5 L1 hl5 hp => ?_)
    obtain ⟨rfl, w2, rfl⟩ := hp
    refine runL_b [0,0,0,0,0,0,0] [(0, Sl a_a a.length c_a), (1, Sl a_b b.length c_b), (5, Sl a1 (((chApply a b).1).length) c1), (8, I ((chDiff ((chApply a b).1) b).2)), (10, Sr x1), (12, Bo ((treeGet b x1).2.1)), (13, I ((treeGet b x1).2.2)), (42, Sl (At b1 o1) (((chDiff ((chApply a b).1) b).1).length) c2), (43, I ((((chDiff ((chApply a b).1) b).1).length : Nat) : Int)), (44, I (i : Int))] (runL_nil (tq_then (tc_seq (tc_region ?_))))
    refine runL_b [0,0] [(0, Sl a_a a.length c_a), (1, Sl a_b b.length c_b), (5, Sl a1 (((chApply a b).1).length) c1), (8, I ((chDiff ((chApply a b).1) b).2)), (12, Bo ((treeGet b x1).2.1)), (13, I ((treeGet b x1).2.2)), (42, Sl (At b1 o1) (((chDiff ((chApply a b).1) b).1).length) c2), (43, I ((((chDiff ((chApply a b).1) b).1).length : Nat) : Int)), (44, I (i : Int)), (56, Sl a_a a.length c_a), (57, Sr x1)] ?_
    refine runL_callR 58 (treeGet_con G5 a_a c_a a (h_a.mono (Mem.le_trans (Mem.le_trans (Mem.le_trans (Mem.le_trans hl1 hl3) hl4) hle) hl5)) x1 w1) (fun v G6 L1 hl6 hp => ?_)
    obtain ⟨rfl, w3, rfl⟩ := hp
    refine runL_b [0,0,0,0,0,0,0] [(0, Sl a_a a.length c_a), (1, Sl a_b b.length c_b), (5, Sl a1 (((chApply a b).1).length) c1), (8, I ((chDiff ((chApply a b).1) b).2)), (12, Bo ((treeGet b x1).2.1)), (13, I ((treeGet b x1).2.2)), (15, Bo ((treeGet a x1).2.1)), (16, I ((treeGet a x1).2.2)), (42, Sl (At b1 o1) (((chDiff ((chApply a b).1) b).1).length) c2), (43, I ((((chDiff ((chApply a b).1) b).1).length : Nat) : Int)), (44, I (i : Int))] (runL_nil (tq_then (tc_seq (tc_region ?_))))
    refine runL_b [0,0] [(0, Sl a_a a.length c_a), (1, Sl a_b b.length c_b), (5, Sl a1 (((chApply a b).1).length) c1), (8, I ((chDiff ((chApply a b).1) b).2)), (12, Bo ((treeGet b x1).2.1)), (15, Bo ((treeGet a x1).2.1)), (42, Sl (At b1 o1) (((chDiff ((chApply a b).1) b).1).length) c2), (43, I ((((chDiff ((chApply a b).1) b).1).length : Nat) : Int)), (44, I (i : Int)), (62, I ((treeGet b x1).2.2)), (63, I ((treeGet a x1).2.2))] ?_
    refine runL_bsl 64 2 #[I ((treeGet b x1).2.2), I ((treeGet a x1).2.2)] 39 (fun b2 => ?_)
    refine runL_frz1 (b := b2) (o := 0) (cs := [I ((treeGet b x1).2.2), I ((treeGet a x1).2.2)]) 0 (fun G7 hl7 hz1 => ?_)
    have hs4 : RS EErr G7 (At b2 0) 2 [(treeGet b x1).2.2, (treeGet a x1).2.2] := RS.lit [[I ((treeGet b x1).2.2)], [I ((treeGet a x1).2.2)]] [(treeGet b x1).2.2, (treeGet a x1).2.2] ⟨rfl, ⟨rfl, trivial⟩⟩ hz1 (Nat.le_of_ble_eq_true rfl) (Nat.le_of_ble_eq_true rfl)
    refine runL_callV 65 (Bo (!(([(treeGet b x1).2.2, (treeGet a x1).2.2]).any fun x0 => !decide (x0 = 0)))) (good_con G7 (At b2 0) 2 ([(treeGet b x1).2.2, (treeGet a x1).2.2]) hs4) ?_
    refine runL_b [0,0] [(0, Sl a_a a.length c_a), (1, Sl a_b b.length c_b), (5, Sl a1 (((chApply a b).1).length) c1), (8, I ((chDiff ((chApply a b).1) b).2)), (12, Bo ((treeGet b x1).2.1)), (15, Bo ((treeGet a x1).2.1)), (42, Sl (At b1 o1) (((chDiff ((chApply a b).1) b).1).length) c2), (43, I ((((chDiff ((chApply a b).1) b).1).length : Nat) : Int)), (44, I (i : Int)), (67, Bo (!(!(([(treeGet b x1).2.2, (treeGet a x1).2.2]).any fun x0 => !decide (x0 = 0)))))] ?_
    refine runL_b2 (!(!(([(treeGet b x1).2.2, (treeGet a x1).2.2]).any fun x0 => !decide (x0 = 0)))) (fun bb => [(0, Sl a_a a.length c_a), (1, Sl a_b b.length c_b), (5, Sl a1 (((chApply a b).1).length) c1), (8, I ((chDiff ((chApply a b).1) b).2)), (12, Bo ((treeGet b x1).2.1)), (15, Bo ((treeGet a x1).2.1)), (42, Sl (At b1 o1) (((chDiff ((chApply a b).1) b).1).length) c2), (43, I ((((chDiff ((chApply a b).1) b).1).length : Nat) : Int)), (44, I (i : Int)), (67, Bo bb)]) [1,0] [0,0] (fun bb => [(0, Sl a_a a.length c_a), (1, Sl a_b b.length c_b), (5, Sl a1 (((chApply a b).1).length) c1), (8, I ((chDiff ((chApply a b).1) b).2)), (15, Bo ((treeGet a x1).2.1)), (42, Sl (At b1 o1) (((chDiff ((chApply a b).1) b).1).length) c2), (43, I ((((chDiff ((chApply a b).1) b).1).length : Nat) : Int)), (44, I (i : Int)), (69, Bo (bb || ((treeGet b x1).2.1)))]) ?_
    refine runL_b [0] [(0, Sl a_a a.length c_a), (1, Sl a_b b.length c_b), (5, Sl a1 (((chApply a b).1).length) c1), (8, I ((chDiff ((chApply a b).1) b).2)), (15, Bo ((treeGet a x1).2.1)), (42, Sl (At b1 o1) (((chDiff ((chApply a b).1) b).1).length) c2), (43, I ((((chDiff ((chApply a b).1) b).1).length : Nat) : Int)), (44, I (i : Int)), (70, Bo ((!(!(([(treeGet b x1).2.2, (treeGet a x1).2.2]).any fun x0 => !decide (x0 = 0)))) || ((treeGet b x1).2.1)))] ?_
    refine runL_b2 ((!(!(([(treeGet b x1).2.2, (treeGet a x1).2.2]).any fun x0 => !decide (x0 = 0)))) || ((treeGet b x1).2.1)) (fun bb => [(0, Sl a_a a.length c_a), (1, Sl a_b b.length c_b), (5, Sl a1 (((chApply a b).1).length) c1), (8, I ((chDiff ((chApply a b).1) b).2)), (15, Bo ((treeGet a x1).2.1)), (42, Sl (At b1 o1) (((chDiff ((chApply a b).1) b).1).length) c2), (43, I ((((chDiff ((chApply a b).1) b).1).length : Nat) : Int)), (44, I (i : Int)), (70, Bo bb)]) [1,1,0] [0,0,0] (fun bb => [(0, Sl a_a a.length c_a), (1, Sl a_b b.length c_b), (5, Sl a1 (((chApply a b).1).length) c1), (8, I ((chDiff ((chApply a b).1) b).2)), (42, Sl (At b1 o1) (((chDiff ((chApply a b).1) b).1).length) c2), (43, I ((((chDiff ((chApply a b).1) b).1).length : Nat) : Int)), (44, I (i : Int)), (73, Bo (bb || (!((treeGet a x1).2.1))))]) ?_
    refine runL_nil (tq_then ?_)
    refine tc_cond (((!(!(([(treeGet b x1).2.2, (treeGet a x1).2.2]).any fun x0 => !decide (x0 = 0)))) || ((treeGet b x1).2.1)) || (!((treeGet a x1).2.1))) (fun h4 => ?_) (fun h4 => ?_)
    ·
     try simp only [BB] at h4
     refine tc_rb [0] [(4, Bo false)] (tc_ret (tq_block_ret (tq_then_ret (tq_rnd_ret (tq_block_ret (tq_then_ret ?_))))))
     refine tq_ret [0] [Bo false] (bp_ret (Mem.le_trans (Mem.le_trans (Mem.le_trans (Mem.le_trans (Mem.le_trans (Mem.le_trans hl1 hl3) hl4) hle) hl5) hl6) hl7) ?_)
     exfalso
     first | (rw [apply_err (by assumption)]; rfl) | (obtain ⟨q1_, q2_⟩ := applies_f (a := a) (b := b) (by omega); first | (rw [q1_]; rfl) | (rw [q1_, q2_ (by omega)]; rfl) | exact absurd (q2_ (by assumption)) (by assumption) | (obtain ⟨p1_, p2_, p3_, p4_⟩ := applies_2 (a := a) (b := b) (by omega) (by omega) hx1; simp_all; done) | (have q3_ := q2_ (by omega); simp_all; done))
    ·
     try simp only [BB] at h4
     refine tc_skip (tq_block (tq_then (tc_region ?_)))
     refine runL_b [0,0] [(0, Sl a_a a.length c_a), (1, Sl a_b b.length c_b), (5, Sl a1 (((chApply a b).1).length) c1), (8, I ((chDiff ((chApply a b).1) b).2)), (42, Sl (At b1 o1) (((chDiff ((chApply a b).1) b).1).length) c2), (43, I ((((chDiff ((chApply a b).1) b).1).length : Nat) : Int)), (44, I (IntKind.i64.wrap ((i : Int) + 1)))] ?_
     have e1 : IntKind.i64.wrap ((i : Int) + 1) = (i : Int) + 1 := IntWalk.i64_in _ (by omega)
     refine runL_eq (fr' := [(0, Sl a_a a.length c_a), (1, Sl a_b b.length c_b), (5, Sl a1 (((chApply a b).1).length) c1), (8, I ((chDiff ((chApply a b).1) b).2)), (42, Sl (At b1 o1) (((chDiff ((chApply a b).1) b).1).length) c2), (43, I ((((chDiff ((chApply a b).1) b).1).length : Nat) : Int)), (44, I ((i : Int) + 1))]) (L' := [[], []]) (by simp only [e1]) (by rfl) ?_
     clear e1
     refine runL_nil ?_
     refine tq_owns [[]] (.cons _ (.cons_cons _ .slnil)) ?_
     exact tq_rnd (i + 1, G7) ⟨(Mem.le_trans hle (Mem.le_trans (Mem.le_trans hl5 hl6) hl7)), (by omega)⟩ (by (try dsimp only); omega)
   ·
    try simp only [BB] at h3
    refine tc_exit (tq_then_exit (tq_rnd_exit (tq_block_here (tq_then (tc_seq (tc_region ?_))))))
    refine runL_b [0,0,0] [(5, Sl a1 (((chApply a b).1).length) c1), (77, Bo (decide ((chDiff ((chApply a b).1) b).2 = 0)))] ?_
    refine runL_cases (fun bb => [(5, Sl a1 (((chApply a b).1).length) c1), (77, Bo bb)]) (decide ((chDiff ((chApply a b).1) b).2 = 0)) (fun h5 => ?_) (fun h5 => ?_)
    ·
     try simp only [BB] at h5
     refine runL_b [0] [(77, Bo true), (78, Sl a1 (((chApply a b).1).length) c1)] ?_
     refine runL_callV 79 (I (treeCheck ((chApply a b).1))) (treeCheck_con g a1 c1 ((chApply a b).1) (hs2.mono (Mem.le_trans hl4 hle))) ?_
     refine runL_b [0,0,0] [(4, Bo (decide (treeCheck ((chApply a b).1) = 0)))] (runL_nil (tq_then (tc_ret ?_)))
     refine tq_ret [0] [Bo (decide (treeCheck ((chApply a b).1) = 0))] (bp_ret (Mem.le_trans (Mem.le_trans (Mem.le_trans hl1 hl3) hl4) hle) ?_)
     have hf_ : (decide (treeCheck ((chApply a b).1) = 0)) = true := by
      first | (rw [apply_err (by assumption)]; rfl) | (obtain ⟨q1_, q2_⟩ := applies_f (a := a) (b := b) (by omega); first | (rw [q1_]; rfl) | (rw [q1_, q2_ (by omega)]; rfl) | exact absurd (q2_ (by assumption)) (by assumption) | (obtain ⟨p1_, p2_, p3_, p4_⟩ := applies_2 (a := a) (b := b) (by omega) (by omega) hx1; simp_all; done) | (have q3_ := q2_ (by omega); simp_all; done))
     exact congrArg Bo hf_
    ·
     try simp only [BB] at h5
     refine runL_b [1,1,1,0,0] [(4, Bo false)] (runL_nil (tq_then (tc_ret ?_)))
     refine tq_ret [0] [Bo false] (bp_ret (Mem.le_trans (Mem.le_trans (Mem.le_trans hl1 hl3) hl4) hle) ?_)
     exfalso
     first | (rw [apply_err (by assumption)]; rfl) | (obtain ⟨q1_, q2_⟩ := applies_f (a := a) (b := b) (by omega); first | (rw [q1_]; rfl) | (rw [q1_, q2_ (by omega)]; rfl) | exact absurd (q2_ (by assumption)) (by assumption) | (obtain ⟨p1_, p2_, p3_, p4_⟩ := applies_2 (a := a) (b := b) (by omega) (by omega) hx1; simp_all; done) | (have q3_ := q2_ (by omega); simp_all; done))
end Go.Proofs.YtmpakffajpnffaaGreatDoor
