import Derived.Test.YtngoijkcbmchdaaGreatDoorEach
import Derived.Test.YtngoijkcbmchdaaGreatDoorLc
namespace Go.Proofs.YtngoijkcbmchdaaGreatDoor
open Go.Tx
set_option linter.unusedVariables false
set_option linter.unusedSimpArgs false

open Go.Conc Go.Conc.Lib
theorem eachV_eq {α β : Type} (l : List α) (f : α → β) {m n : Int} (h1 : ¬ (m < 1 ∨ m > 16)) (h2 : ¬ (n < 1 ∨ n > 16)) : eachV l n f = eachV l m f := by
  unfold eachV; rw [if_neg h1, if_neg h2]
theorem mapa_step {l : List AnsD} {i : Nat} {x : AnsD} (h : l[i]? = some x) : (l.take i).map AnsD.a ++ [x.a] = (l.take (i + 1)).map AnsD.a := by rw [List.take_add_one, h]; simp
theorem mape_step {l : List AnsD} {i : Nat} {x : AnsD} (h : l[i]? = some x) : (l.take i).map AnsD.e ++ [x.e] = (l.take (i + 1)).map AnsD.e := by rw [List.take_add_one, h]; simp

theorem roots_con {B0 : Nat} (G : Mem) (a_l : Option Addr) (c_l : Nat) (l : List (List EntD)) (h_l : RS ESlEnt G a_l c_l l) (m : Int) :
    ConA Tryz.prog B0 5 #[Sl a_l l.length c_l, I m] G (fun v G' => ∃ a1 c1 a2 c2, v = .tuple #[Sl a1 ((eachV l m ansOf).1.map AnsD.a).length c1, Sl a2 ((eachV l m ansOf).1.map AnsD.e).length c2, I ((eachV l m ansOf).2)] ∧ RS EUz G' a1 c1 ((eachV l m ansOf).1.map AnsD.a) ∧ RS EErr G' a2 c2 ((eachV l m ansOf).1.map AnsD.e)) := by
  refine conA_of Tryz.func5 39 [(0, Sl a_l l.length c_l), (1, I m)] rfl (fun w0 hB => ?_)
  refine tc_rbn [0,0,0] [] ?_
  refine tc_seq ?_
  refine tc_region ?_
  refine runL_bn [0,0] [(14, Sl a_l l.length c_l), (15, I m)] ?_
  refine runL_callA (B0 := B0) 16 rfl hB (each1_con G a_l c_l l h_l m) (fun v G1 u1 hl1 hp => ?_)
  obtain ⟨a1, c1, rfl, hs1⟩ := hp
  obtain ⟨ans, hans⟩ : ∃ x_, x_ = (eachV l m ansOf).1 := ⟨_, rfl⟩
  rw [← hans] at hs1 ⊢
  refine runL_bn [0,0,0,0,0] [(7, Sl a1 ans.length c1), (8, I ((eachV l m ansOf).2))] ?_
  refine runL_nil ?_
  refine tq_then ?_
  refine tc_rbn [0] [(9, Sl none 0 0)] ?_
  refine tc_rbn [0] [(10, Sl none 0 0)] ?_
  refine tc_seq ?_
  refine tc_rbn [0,0,0] [(19, Sl a1 ans.length c1), (20, I (((ans.length : Nat) : Int))), (21, I 0)] ?_
  refine tc_block ?_
  refine tc_empty ?_
  refine tc_empty ?_
  have hlm_hs1 : ans.length ≤ 9223372036854775807 := Nat.le_trans (hs1).le (hs1).max
  refine tc_loop (σ := Nat × Option Addr × Nat × List Seg × List Int × Option Addr × Nat × List Seg × List Int × Mem) (fun q_ => (Mem.le G1 q_.2.2.2.2.2.2.2.2.2) ∧ (q_.1 ≤ ans.length) ∧ (TRow EUz q_.2.2.2.2.2.2.2.2.2 q_.2.1 q_.2.2.1 q_.2.2.2.2.1 q_.2.2.2.1) ∧ (q_.2.2.2.2.1 = (ans.take q_.1).map AnsD.a) ∧ (TRow EErr q_.2.2.2.2.2.2.2.2.2 q_.2.2.2.2.2.1 q_.2.2.2.2.2.2.1 q_.2.2.2.2.2.2.2.2.1 q_.2.2.2.2.2.2.2.1) ∧ (q_.2.2.2.2.2.2.2.2.1 = (ans.take q_.1).map AnsD.e)) (fun q_ => [(8, I ((eachV l m ansOf).2)), (9, Sl q_.2.1 q_.2.2.2.2.1.length q_.2.2.1), (10, Sl q_.2.2.2.2.2.1 q_.2.2.2.2.2.2.2.2.1.length q_.2.2.2.2.2.2.1), (19, Sl a1 ans.length c1), (20, I (((ans.length : Nat) : Int))), (21, I ((q_.1 : Int)))]) (fun q_ => q_.2.2.2.2.2.2.2.2.2) (fun q_ => [q_.2.2.2.2.2.2.2.1, q_.2.2.2.1]) (fun q_ => ans.length - q_.1) ((0, none, 0, [], [], none, 0, [], [], G1)) ⟨(Mem.le_refl _), (by (try dsimp only); first | exact Nat.zero_le _ | omega | simp), (TRow.none EUz _), (by (try dsimp only); first | rfl | simp), (TRow.none EErr _), (by (try dsimp only); first | rfl | simp)⟩ (fun q_ hs => ?_)
  obtain ⟨i, ap, cp, rp, xp, aq, cq, rq, xq, g⟩ := q_
  obtain ⟨hle, hi, hrp, hxp, hrq, hxq⟩ := hs
  dsimp only at hle hi hrp hxp hrq hxq
  refine tc_eq (fr' := [(8, I ((eachV l m ansOf).2)), (9, Sl ap xp.length cp), (10, Sl aq xq.length cq), (19, Sl a1 ans.length c1), (20, I (((ans.length : Nat) : Int))), (21, I ((i : Int)))]) (L' := [rq, rp]) rfl rfl ?_
  refine tc_rbn [0] [(22, Bo (decide ((i : Int) < ((ans.length : Nat) : Int))))] ?_
  refine tc_seq ?_
  refine tc_condP (decide ((i : Int) < ((ans.length : Nat) : Int))) (fun h1 => ?_) (fun h1 => ?_)
  ·
    refine tc_skip ?_
    refine tq_then ?_
    refine tc_seq ?_
    refine tc_block ?_
    refine tc_seq ?_
    refine tc_region ?_
    obtain ⟨b1, o1, rfl⟩ := RS.addr (hs1.mono hle) (k := i) (by omega)
    obtain ⟨x1, hx1⟩ := getX (l := ans) (k := i) (by omega)
    obtain ⟨_, rfl, hc1⟩ := RS.get (hs1.mono hle) hx1
    refine runL_idx (b := b1) (off := o1) (len := ans.length) (cap := c1) (ik := .i64) 23 43 2 i (by omega) ?_
    refine runL_ldG 24 43 (cs := [U x1.a, I x1.e]) 0 (.agg #[U x1.a, I x1.e]) hc1 ?_
    refine runL_box 12 #[U 0, I 0] 43 (fun b2 => ?_)
    refine runL_bsn [3] [] [[Sg b2 0 [U x1.a, I x1.e]], rq, rp] ?_
    refine runL_nil ?_
    refine tq_then ?_
    refine tc_draw [3, 4, 8, 9] ?_
    refine dr_V [(0, Sl ap xp.length cp), (1, Pt b2 0), (2, U x1.a), (5, Sl aq xq.length cq), (6, Pt b2 1), (7, I x1.e)] ?_
    refine dr_mid [] [(0,0), (1,0), (2,2), (5,0), (6,0), (7,2)] [] [3, 8] (List.forall_mem_nil _) (fmc ?_ (fmc ?_ fm0))
    ·
      refine act_of 3 [(27, U x1.a)] (fun X => ?_)
      refine runL_bsl 28 1 #[U x1.a] 34 (fun b3 => ?_)
      refine act_endN [(3, Sl (At b3 0) 1 1)] ?_
      refine dr_mid [1, 2] [(0,0), (5,0), (6,0), (7,4)] [] [4, 8] (List.forall_mem_nil _) (fmc ?_ (fmc ?_ fm0))
      ·
        refine act_of 4 [(25, Sl ap xp.length cp), (28, Sl (At b3 0) 1 1)] (fun X => ?_)
        refine runL_app1' (b := b3) (cs := [U x1.a]) 29 34 3 0 (E := EUz) x1.a hrp rfl (by first | (have q1_ := hs1.fit; have q2_ := congrArg List.length hxp; have q3_ := congrArg List.length hxq; simp only [EAns, List.length_map, List.length_take] at q1_ q2_ q3_; (try simp only [EUz, EErr, List.length_append, List.length_cons, List.length_nil]); omega)) (by first | (have q1_ := hs1.fit; have q2_ := congrArg List.length hxp; have q3_ := congrArg List.length hxq; simp only [EAns, List.length_map, List.length_take] at q1_ q2_ q3_; (try simp only [EUz, EErr, List.length_append, List.length_cons, List.length_nil]); omega)) (fun a2 c2 r1 hr1 => ?_)
        refine act_endN [(4, Sl a2 ((xp ++ [x1.a]).length) c2)] ?_
        refine dr_mid [0, 1, 2] [(5,0), (6,0), (7,4)] [] [8] (List.forall_mem_nil _) (fmc ?_ fm0)
        refine act_of 8 [(32, I x1.e)] (fun X => ?_)
        refine runL_bsl 33 1 #[I x1.e] 27 (fun b4 => ?_)
        refine act_endN [(8, Sl (At b4 0) 1 1)] ?_
        refine dr_mid [0, 1, 2, 6, 7] [(5,0)] [] [9] (List.forall_mem_nil _) (fmc ?_ fm0)
        refine act_of 9 [(30, Sl aq xq.length cq), (33, Sl (At b4 0) 1 1)] (fun X => ?_)
        refine runL_app1' (b := b4) (cs := [I x1.e]) 34 27 3 0 (E := EErr) x1.e hrq rfl (by first | (have q1_ := hs1.fit; have q2_ := congrArg List.length hxp; have q3_ := congrArg List.length hxq; simp only [EAns, List.length_map, List.length_take] at q1_ q2_ q3_; (try simp only [EUz, EErr, List.length_append, List.length_cons, List.length_nil]); omega)) (by first | (have q1_ := hs1.fit; have q2_ := congrArg List.length hxp; have q3_ := congrArg List.length hxq; simp only [EAns, List.length_map, List.length_take] at q1_ q2_ q3_; (try simp only [EUz, EErr, List.length_append, List.length_cons, List.length_nil]); omega)) (fun a3 c3 r2 hr2 => ?_)
        refine act_endN [(9, Sl a3 ((xq ++ [x1.e]).length) c3), (10, Sl a2 ((xp ++ [x1.a]).length) c2), (11, Sl a3 ((xq ++ [x1.e]).length) c3)] ?_
        refine dr_end [0, 1, 2, 5, 6, 7] [(10,0), (11,0)] [] [(8, I ((eachV l m ansOf).2)), (9, Sl a2 ((xp ++ [x1.a]).length) c2), (10, Sl a3 ((xq ++ [x1.e]).length) c3), (19, Sl (At b1 o1) ans.length c1), (20, I (((ans.length : Nat) : Int))), (21, I ((i : Int)))] (List.forall_mem_nil _) ?_
        refine tq_block ?_
        refine tq_then ?_
        refine tc_region ?_
        refine runL_bn [0,0] [(21, I (IntKind.i64.wrap (((i : Int)) + 1)))] ?_
        refine runL_wi64 21 (((i : Int)) + 1) (by omega) ?_
        refine runL_nil ?_
        refine tq_ownsA [r2, r1] ?_
        exact tq_rnd ((i + 1, a2, c2, r1, xp ++ [x1.a], a3, c3, r2, xq ++ [x1.e], g)) ⟨(Mem.le_trans hle (Mem.le_refl _)), (by omega), hr1, (by rw [hxp]; exact mapa_step hx1), hr2, (by rw [hxq]; exact mape_step hx1)⟩ (by (try dsimp only); omega)
      refine act_of 8 [(32, I x1.e)] (fun X => ?_)
      refine runL_bsl 33 1 #[I x1.e] 27 (fun b5 => ?_)
      refine act_endN [(8, Sl (At b5 0) 1 1)] ?_
      refine dr_mid [1, 2, 6, 7] [(0,0), (5,0)] [] [4] (List.forall_mem_nil _) (fmc ?_ fm0)
      refine act_of 4 [(25, Sl ap xp.length cp), (28, Sl (At b3 0) 1 1)] (fun X => ?_)
      refine runL_app1' (b := b3) (cs := [U x1.a]) 29 34 4 1 (E := EUz) x1.a hrp rfl (by first | (have q1_ := hs1.fit; have q2_ := congrArg List.length hxp; have q3_ := congrArg List.length hxq; simp only [EAns, List.length_map, List.length_take] at q1_ q2_ q3_; (try simp only [EUz, EErr, List.length_append, List.length_cons, List.length_nil]); omega)) (by first | (have q1_ := hs1.fit; have q2_ := congrArg List.length hxp; have q3_ := congrArg List.length hxq; simp only [EAns, List.length_map, List.length_take] at q1_ q2_ q3_; (try simp only [EUz, EErr, List.length_append, List.length_cons, List.length_nil]); omega)) (fun a4 c4 r3 hr3 => ?_)
      refine act_endN [(4, Sl a4 ((xp ++ [x1.a]).length) c4)] ?_
      refine dr_mid [0, 1, 2, 6, 7] [(5,0)] [] [9] (List.forall_mem_nil _) (fmc ?_ fm0)
      refine act_of 9 [(30, Sl aq xq.length cq), (33, Sl (At b5 0) 1 1)] (fun X => ?_)
      refine runL_app1' (b := b5) (cs := [I x1.e]) 34 27 3 0 (E := EErr) x1.e hrq rfl (by first | (have q1_ := hs1.fit; have q2_ := congrArg List.length hxp; have q3_ := congrArg List.length hxq; simp only [EAns, List.length_map, List.length_take] at q1_ q2_ q3_; (try simp only [EUz, EErr, List.length_append, List.length_cons, List.length_nil]); omega)) (by first | (have q1_ := hs1.fit; have q2_ := congrArg List.length hxp; have q3_ := congrArg List.length hxq; simp only [EAns, List.length_map, List.length_take] at q1_ q2_ q3_; (try simp only [EUz, EErr, List.length_append, List.length_cons, List.length_nil]); omega)) (fun a5 c5 r4 hr4 => ?_)
      refine act_endN [(9, Sl a5 ((xq ++ [x1.e]).length) c5), (10, Sl a4 ((xp ++ [x1.a]).length) c4), (11, Sl a5 ((xq ++ [x1.e]).length) c5)] ?_
      refine dr_end [0, 1, 2, 5, 6, 7] [(10,0), (11,0)] [] [(8, I ((eachV l m ansOf).2)), (9, Sl a4 ((xp ++ [x1.a]).length) c4), (10, Sl a5 ((xq ++ [x1.e]).length) c5), (19, Sl (At b1 o1) ans.length c1), (20, I (((ans.length : Nat) : Int))), (21, I ((i : Int)))] (List.forall_mem_nil _) ?_
      refine tq_block ?_
      refine tq_then ?_
      refine tc_region ?_
      refine runL_bn [0,0] [(21, I (IntKind.i64.wrap (((i : Int)) + 1)))] ?_
      refine runL_wi64 21 (((i : Int)) + 1) (by omega) ?_
      refine runL_nil ?_
      refine tq_ownsA [r4, r3] ?_
      exact tq_rnd ((i + 1, a4, c4, r3, xp ++ [x1.a], a5, c5, r4, xq ++ [x1.e], g)) ⟨(Mem.le_trans hle (Mem.le_refl _)), (by omega), hr3, (by rw [hxp]; exact mapa_step hx1), hr4, (by rw [hxq]; exact mape_step hx1)⟩ (by (try dsimp only); omega)
    refine act_of 8 [(32, I x1.e)] (fun X => ?_)
    refine runL_bsl 33 1 #[I x1.e] 27 (fun b6 => ?_)
    refine act_endN [(8, Sl (At b6 0) 1 1)] ?_
    refine dr_mid [6, 7] [(0,0), (1,0), (2,4), (5,0)] [] [3] (List.forall_mem_nil _) (fmc ?_ fm0)
    refine act_of 3 [(27, U x1.a)] (fun X => ?_)
    refine runL_bsl 28 1 #[U x1.a] 34 (fun b7 => ?_)
    refine act_endN [(3, Sl (At b7 0) 1 1)] ?_
    refine dr_mid [1, 2, 6, 7] [(0,0), (5,0)] [] [4] (List.forall_mem_nil _) (fmc ?_ fm0)
    refine act_of 4 [(25, Sl ap xp.length cp), (28, Sl (At b7 0) 1 1)] (fun X => ?_)
    refine runL_app1' (b := b7) (cs := [U x1.a]) 29 34 4 0 (E := EUz) x1.a hrp rfl (by first | (have q1_ := hs1.fit; have q2_ := congrArg List.length hxp; have q3_ := congrArg List.length hxq; simp only [EAns, List.length_map, List.length_take] at q1_ q2_ q3_; (try simp only [EUz, EErr, List.length_append, List.length_cons, List.length_nil]); omega)) (by first | (have q1_ := hs1.fit; have q2_ := congrArg List.length hxp; have q3_ := congrArg List.length hxq; simp only [EAns, List.length_map, List.length_take] at q1_ q2_ q3_; (try simp only [EUz, EErr, List.length_append, List.length_cons, List.length_nil]); omega)) (fun a6 c6 r5 hr5 => ?_)
    refine act_endN [(4, Sl a6 ((xp ++ [x1.a]).length) c6)] ?_
    refine dr_mid [0, 1, 2, 6, 7] [(5,0)] [] [9] (List.forall_mem_nil _) (fmc ?_ fm0)
    refine act_of 9 [(30, Sl aq xq.length cq), (33, Sl (At b6 0) 1 1)] (fun X => ?_)
    refine runL_app1' (b := b6) (cs := [I x1.e]) 34 27 3 1 (E := EErr) x1.e hrq rfl (by first | (have q1_ := hs1.fit; have q2_ := congrArg List.length hxp; have q3_ := congrArg List.length hxq; simp only [EAns, List.length_map, List.length_take] at q1_ q2_ q3_; (try simp only [EUz, EErr, List.length_append, List.length_cons, List.length_nil]); omega)) (by first | (have q1_ := hs1.fit; have q2_ := congrArg List.length hxp; have q3_ := congrArg List.length hxq; simp only [EAns, List.length_map, List.length_take] at q1_ q2_ q3_; (try simp only [EUz, EErr, List.length_append, List.length_cons, List.length_nil]); omega)) (fun a7 c7 r6 hr6 => ?_)
    refine act_endN [(9, Sl a7 ((xq ++ [x1.e]).length) c7), (10, Sl a6 ((xp ++ [x1.a]).length) c6), (11, Sl a7 ((xq ++ [x1.e]).length) c7)] ?_
    refine dr_end [0, 1, 2, 5, 6, 7] [(10,0), (11,0)] [] [(8, I ((eachV l m ansOf).2)), (9, Sl a6 ((xp ++ [x1.a]).length) c6), (10, Sl a7 ((xq ++ [x1.e]).length) c7), (19, Sl (At b1 o1) ans.length c1), (20, I (((ans.length : Nat) : Int))), (21, I ((i : Int)))] (List.forall_mem_nil _) ?_
    refine tq_block ?_
    refine tq_then ?_
    refine tc_region ?_
    refine runL_bn [0,0] [(21, I (IntKind.i64.wrap (((i : Int)) + 1)))] ?_
    refine runL_wi64 21 (((i : Int)) + 1) (by omega) ?_
    refine runL_nil ?_
    refine tq_ownsA [r6, r5] ?_
    exact tq_rnd ((i + 1, a6, c6, r5, xp ++ [x1.a], a7, c7, r6, xq ++ [x1.e], g)) ⟨(Mem.le_trans hle (Mem.le_refl _)), (by omega), hr5, (by rw [hxp]; exact mapa_step hx1), hr6, (by rw [hxq]; exact mape_step hx1)⟩ (by (try dsimp only); omega)
  ·
    refine tc_exit ?_
    refine tq_then_exit ?_
    refine tq_rnd_exit ?_
    refine tq_block_here ?_
    refine tq_then ?_
    refine tc_rbn [0,0,0,0,0,0] [(4, Sl ap xp.length cp), (5, Sl aq xq.length cq), (6, I ((eachV l m ansOf).2))] ?_
    refine tc_ret ?_
    refine tq_frzR (E := EUz) 1 hrp (by first | (have q1_ := hs1.fit; have q2_ := congrArg List.length hxp; have q3_ := congrArg List.length hxq; simp only [EAns, List.length_map, List.length_take] at q1_ q2_ q3_; (try simp only [EUz, EErr, List.length_append, List.length_cons, List.length_nil]); omega)) (fun G2 hl2 hs2 => ?_)
    refine tq_frzR (E := EErr) 0 (hrq.mono hl2) (by first | (have q1_ := hs1.fit; have q2_ := congrArg List.length hxp; have q3_ := congrArg List.length hxq; simp only [EAns, List.length_map, List.length_take] at q1_ q2_ q3_; (try simp only [EUz, EErr, List.length_append, List.length_cons, List.length_nil]); omega)) (fun G3 hl3 hs3 => ?_)
    refine tq_ret [0, 0, 0] [Sl ap xp.length cp, Sl aq xq.length cq, I ((eachV l m ansOf).2)] (bpA ?_)
    have e1 : xp = ans.map AnsD.a := by rw [hxp, List.take_of_length_le (by omega)]
    have e2 : xq = ans.map AnsD.e := by rw [hxq, List.take_of_length_le (by omega)]
    rw [← e1, ← e2]
    exact ⟨ap, cp, aq, cq, rfl, (hs2.mono hl3), hs3⟩

theorem replies_con {B0 : Nat} (G : Mem) (a_l : Option Addr) (c_l : Nat) (l : List ReplyD) (h_l : RS EReply G a_l c_l l) (m : Int) :
    ConA Tryz.prog B0 6 #[Sl a_l l.length c_l, I m] G (fun v G' => ∃ a1 c1, v = .tuple #[Sl a1 ((eachV l m okOf).1).length c1, I ((eachV l m okOf).2)] ∧ RS EB G' a1 c1 ((eachV l m okOf).1)) := by
  refine conA_of Tryz.func6 11 [(0, Sl a_l l.length c_l), (1, I m)] rfl (fun w0 hB => ?_)
  refine tc_rbn [0,0] [] ?_
  refine tc_seq ?_
  refine tc_region ?_
  refine runL_bn [0,0] [(6, Sl a_l l.length c_l), (7, I m)] ?_
  refine runL_callA (B0 := B0) 8 rfl hB (each2_con G a_l c_l l h_l m) (fun v G1 u1 hl1 hp => ?_)
  obtain ⟨a1, c1, rfl, hs1⟩ := hp
  refine runL_bn [0,0,0,0] [(4, Sl a1 ((eachV l m okOf).1.length) c1), (5, I ((eachV l m okOf).2))] ?_
  refine runL_nil ?_
  refine tq_then ?_
  refine tc_ret ?_
  refine tq_ret [0, 0] [Sl a1 ((eachV l m okOf).1.length) c1, I ((eachV l m okOf).2)] (bpA ⟨_, _, rfl, hs1⟩)

theorem sides_con {B0 : Nat} (G : Mem) : ConA Tryz.prog B0 4 #[] G (fun v G' => v = Bo true) := by
  refine conA_of Tryz.func4 17 [] rfl (fun w0 hB => ?_)
  refine tc_rbn [0] [] ?_
  refine tc_seq ?_
  refine tc_region ?_
  refine runL_bsl 5 1 #[Sl none 0 0] 41 (fun b1 => ?_)
  refine runL_frz1 (b := b1) (o := 0) (cs := [Sl none 0 0]) 0 (fun G1 hl1 hz1 => ?_)
  have hs1 : RS ESlEnt G1 (At b1 0) 1 [[]] := RS.lit [[Sl none 0 0]] [[]] ⟨⟨none, 0, rfl, (RS.nil' EEnt G1)⟩, trivial⟩ hz1 (Nat.le_of_ble_eq_true rfl) (Nat.le_of_ble_eq_true rfl)
  refine runL_callA (B0 := B0) 6 rfl hB (roots_con G1 (At b1 0) 1 ([[]]) hs1 1) (fun v G2 u1 hl2 hp => ?_)
  obtain ⟨a1, c1, a2, c2, rfl, hs2, hs3⟩ := hp
  refine runL_bn [0,0,0,0,0,0,0] [(2, Sl a2 (((eachV ([[]]) 1 ansOf).1.map AnsD.e).length) c2), (3, I ((eachV ([[]]) 1 ansOf).2))] ?_
  refine runL_nil ?_
  refine tq_then ?_
  refine tc_seq ?_
  refine tc_region ?_
  refine runL_bn [0,0,0] [(12, Bo (decide ((eachV ([[]]) 1 ansOf).2 = 0)))] ?_
  refine runL_b2n (decide ((eachV ([[]]) 1 ansOf).2 = 0)) [12] [0,0,0,0] [1,1,1,0] (fun bb => [(16, Bo (bb && (decide (((((eachV ([[]]) 1 ansOf).1.map AnsD.e).length : Nat) : Int) = 1))))]) ?_
  refine runL_bn [0] [(0, Bo ((decide ((eachV ([[]]) 1 ansOf).2 = 0)) && (decide (((((eachV ([[]]) 1 ansOf).1.map AnsD.e).length : Nat) : Int) = 1))))] ?_
  refine runL_nil ?_
  refine tq_then ?_
  refine tc_ret ?_
  refine tq_ret [0] [Bo ((decide ((eachV ([[]]) 1 ansOf).2 = 0)) && (decide (((((eachV ([[]]) 1 ansOf).1.map AnsD.e).length : Nat) : Int) = 1)))] (bpA ?_)
  first | rfl | (show Bo _ = Bo true; simp [eachV]) | skip

theorem sideSame_top {B0 : Nat} (G : Mem) (a_l : Option Addr) (c_l : Nat) (l : List (List EntD)) (h_l : RS ESlEnt G a_l c_l l) (a_r : Option Addr) (c_r : Nat) (r : List ReplyD) (h_r : RS EReply G a_r c_r r) (a b : Int) :
    TopA Tryz.prog B0 3 #[Sl a_l l.length c_l, Sl a_r r.length c_r, I a, I b] G (fun v G' => v = Bo true) := by
  refine topA_of Tryz.func3 84 [(0, Sl a_l l.length c_l), (1, Sl a_r r.length c_r), (2, I a), (3, I b)] rfl (by kernel_rfl) (fun tmps => by unfold results; rw [show Tryz.f3.results = #[.tmp 8] from rfl]; simp; exact ⟨_, rfl⟩) (fun w0 hB => ?_)
  refine tc_rbn [0] [] ?_
  refine tc_seq ?_
  refine tc_seq ?_
  refine tc_region ?_
  refine runL_callA (B0 := B0) 19 rfl hB (sides_con G) (fun v G1 u1 hl1 hp => ?_)
  subst hp
  refine runL_bn [0] [(20, Bo false)] ?_
  refine runL_nil ?_
  refine tq_then ?_
  refine tc_cond_false ?_
  refine tc_skip ?_
  refine tq_then ?_
  refine tc_seq ?_
  refine tc_seq ?_
  refine tc_region ?_
  refine runL_bn [0,0,0] [(23, Bo (decide (a < 1)))] ?_
  refine runL_b2n (decide (a < 1)) [23] [1,1,0] [0,0,0] (fun bb => [(26, Bo (bb || (decide (a > 16))))]) ?_
  refine runL_bn [0] [(27, Bo ((decide (a < 1)) || (decide (a > 16))))] ?_
  refine runL_b2n ((decide (a < 1)) || (decide (a > 16))) [27] [1,1,0] [0,0,0] (fun bb => [(30, Bo (bb || (decide (b < 1))))]) ?_
  refine runL_bn [0] [(31, Bo (((decide (a < 1)) || (decide (a > 16))) || (decide (b < 1))))] ?_
  refine runL_b2n (((decide (a < 1)) || (decide (a > 16))) || (decide (b < 1))) [31] [1,1,0] [0,0,0] (fun bb => [(34, Bo (bb || (decide (b > 16))))]) ?_
  refine runL_nil ?_
  refine tq_then ?_
  refine tc_condP ((((decide (a < 1)) || (decide (a > 16))) || (decide (b < 1))) || (decide (b > 16))) (fun h1 => ?_) (fun h1 => ?_)
  ·
    refine tc_rbn [0] [(8, Bo true)] ?_
    refine tc_ret ?_
    refine tq_then_ret ?_
    refine tq_ret [0] [Bo true] (bpA ?_)
    first | rfl | (show Bo _ = Bo true; simp) | skip
  ·
    refine tc_skip ?_
    refine tq_then ?_
    refine tc_seq ?_
    refine tc_region ?_
    refine runL_bn [0,0] [(36, Sl a_l l.length c_l), (37, I a)] ?_
    refine runL_callA (B0 := B0) 38 rfl hB (roots_con G1 a_l c_l l (h_l.mono hl1) a) (fun v G2 u2 hl2 hp => ?_)
    obtain ⟨a1, c1, a2, c2, rfl, hs1, hs2⟩ := hp
    refine runL_bn [0,0,0,0,0,0,0] [(9, Sl a1 (((eachV l a ansOf).1.map AnsD.a).length) c1), (10, Sl a2 (((eachV l a ansOf).1.map AnsD.e).length) c2), (11, I ((eachV l a ansOf).2))] ?_
    refine runL_nil ?_
    refine tq_then ?_
    refine tc_seq ?_
    refine tc_region ?_
    refine runL_bn [0,0] [(43, Sl a_l l.length c_l), (44, I b)] ?_
    refine runL_callA (B0 := B0) 45 rfl hB (roots_con G2 a_l c_l l (h_l.mono (Mem.le_trans hl1 hl2)) b) (fun v G3 u3 hl3 hp => ?_)
    obtain ⟨a3, c3, a4, c4, rfl, hs3, hs4⟩ := hp
    rw [show eachV l b ansOf = eachV l a ansOf from eachV_eq _ _ (by omega) (by omega)] at hs3 hs4 ⊢
    refine runL_bn [0,0,0,0,0,0,0] [(12, Sl a3 (((eachV l a ansOf).1.map AnsD.a).length) c3), (13, Sl a4 (((eachV l a ansOf).1.map AnsD.e).length) c4), (14, I ((eachV l a ansOf).2))] ?_
    refine runL_nil ?_
    refine tq_then ?_
    refine tc_seq ?_
    refine tc_region ?_
    refine runL_bn [0,0] [(50, Sl a_r r.length c_r), (51, I a)] ?_
    refine runL_callA (B0 := B0) 52 rfl hB (replies_con G3 a_r c_r r (h_r.mono (Mem.le_trans (Mem.le_trans hl1 hl2) hl3)) a) (fun v G4 u4 hl4 hp => ?_)
    obtain ⟨a5, c5, rfl, hs5⟩ := hp
    refine runL_bn [0,0,0,0,0] [(15, Sl a5 (((eachV r a okOf).1).length) c5), (16, I ((eachV r a okOf).2))] ?_
    refine runL_nil ?_
    refine tq_then ?_
    refine tc_seq ?_
    refine tc_region ?_
    refine runL_bn [0,0] [(56, Sl a_r r.length c_r), (57, I b)] ?_
    refine runL_callA (B0 := B0) 58 rfl hB (replies_con G4 a_r c_r r (h_r.mono (Mem.le_trans (Mem.le_trans (Mem.le_trans hl1 hl2) hl3) hl4)) b) (fun v G5 u5 hl5 hp => ?_)
    obtain ⟨a6, c6, rfl, hs6⟩ := hp
    rw [show eachV r b okOf = eachV r a okOf from eachV_eq _ _ (by omega) (by omega)] at hs6 ⊢
    refine runL_bn [0,0,0,0,0] [(17, Sl a6 (((eachV r a okOf).1).length) c6), (18, I ((eachV r a okOf).2))] ?_
    refine runL_nil ?_
    refine tq_then ?_
    refine tc_seq ?_
    refine tc_region ?_
    refine runL_bn [0,0] [(61, I ((eachV l a ansOf).2)), (62, I ((eachV l a ansOf).2))] ?_
    refine runL_p1 63 (Bo (decide ((eachV l a ansOf).2 = (eachV l a ansOf).2))) (Bo true) (by rw [decide_eq_true rfl]) ?_
    refine runL_bn [0,0,0] [(64, Bo true), (65, I ((eachV r a okOf).2)), (66, I ((eachV r a okOf).2))] ?_
    refine runL_p1 67 (Bo (decide ((eachV r a okOf).2 = (eachV r a okOf).2))) (Bo true) (by rw [decide_eq_true rfl]) ?_
    refine runL_bn [0,0,0,0] [(69, Bo true), (70, Sl a1 (((eachV l a ansOf).1.map AnsD.a).length) c1), (71, Sl a3 (((eachV l a ansOf).1.map AnsD.a).length) c3)] ?_
    refine runL_callV 72 (Bo (decide ((eachV l a ansOf).1.map AnsD.a = (eachV l a ansOf).1.map AnsD.a))) (seqs_EUz G5 a1 c1 ((eachV l a ansOf).1.map AnsD.a) (hs1.mono (Mem.le_trans (Mem.le_trans hl3 hl4) hl5)) a3 c3 ((eachV l a ansOf).1.map AnsD.a) (hs3.mono (Mem.le_trans hl4 hl5))) ?_
    refine runL_put 72 (Bo true) (show (Bo (decide ((eachV l a ansOf).1.map AnsD.a = (eachV l a ansOf).1.map AnsD.a)) : Value) = Bo true by rw [decide_eq_true rfl]) ?_
    refine runL_bn [0,0,0,0] [(74, Bo true), (75, Sl a2 (((eachV l a ansOf).1.map AnsD.e).length) c2), (76, Sl a4 (((eachV l a ansOf).1.map AnsD.e).length) c4)] ?_
    refine runL_callV 77 (Bo (decide ((eachV l a ansOf).1.map AnsD.e = (eachV l a ansOf).1.map AnsD.e))) (seqs_EErr G5 a2 c2 ((eachV l a ansOf).1.map AnsD.e) (hs2.mono (Mem.le_trans (Mem.le_trans hl3 hl4) hl5)) a4 c4 ((eachV l a ansOf).1.map AnsD.e) (hs4.mono (Mem.le_trans hl4 hl5))) ?_
    refine runL_put 77 (Bo true) (show (Bo (decide ((eachV l a ansOf).1.map AnsD.e = (eachV l a ansOf).1.map AnsD.e)) : Value) = Bo true by rw [decide_eq_true rfl]) ?_
    refine runL_bn [0,0,0,0] [(79, Bo true), (80, Sl a5 (((eachV r a okOf).1).length) c5), (81, Sl a6 (((eachV r a okOf).1).length) c6)] ?_
    refine runL_callV 82 (Bo (decide ((eachV r a okOf).1 = (eachV r a okOf).1))) (seqs_EB G5 a5 c5 ((eachV r a okOf).1) (hs5.mono hl5) a6 c6 ((eachV r a okOf).1) hs6) ?_
    refine runL_put 82 (Bo true) (show (Bo (decide ((eachV r a okOf).1 = (eachV r a okOf).1)) : Value) = Bo true by rw [decide_eq_true rfl]) ?_
    refine runL_bn [0,0] [(8, Bo true)] ?_
    refine runL_nil ?_
    refine tq_then ?_
    refine tc_ret ?_
    refine tq_ret [0] [Bo true] (bpA ?_)
    first | rfl | (show Bo _ = Bo true; simp) | skip
end Go.Proofs.YtngoijkcbmchdaaGreatDoor
