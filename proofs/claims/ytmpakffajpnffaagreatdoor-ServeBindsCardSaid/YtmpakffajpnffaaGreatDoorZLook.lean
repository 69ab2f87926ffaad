import Derived.Test.YtmpakffajpnffaaGreatDoorZClerk
namespace Go.Proofs.YtmpakffajpnffaaGreatDoor
open Go.Tx
set_option linter.unusedVariables false
set_option linter.unusedSimpArgs false

open Go.Tx Go.Proofs
def replyZ : ReplyD := ⟨headZ, proofZ⟩
def serveLook (c : ClerkD) (name : List UInt8) (epoch : Int) : ReplyD × Int := if ¬ (clerkBook c epoch).2 = 0 then (replyZ, (clerkBook c epoch).2) else if ¬ (proofMake (clerkBook c epoch).1 name).2 = 0 then (replyZ, (proofMake (clerkBook c epoch).1 name).2) else (⟨c.heads[epoch.toNat]?.getD headZ, (proofMake (clerkBook c epoch).1 name).1⟩, 0)
theorem look_err {c : ClerkD} {name : List UInt8} {e : Int} (h : ¬ (serveLook c name e).2 = 0) : (serveLook c name e).1 = replyZ := by
  unfold serveLook at h ⊢
  split
  · rfl
  split
  · rfl
  · rename_i h1 h2; rw [if_neg h1, if_neg h2] at h; exact absurd rfl h
theorem look_law {c : ClerkD} {name : List UInt8} {e : Int} (h : (serveLook c name e).2 = 0) : (clerkBook c e).2 = 0 ∧ serveTell (serveLook c name e).1 = treeGet (clerkBook c e).1 name ∧ (treeGet (clerkBook c e).1 name).2.2 = 0 ∧ (serveLook c name e).1.head.epoch = e := by
  unfold serveLook at h ⊢
  split at h
  · contradiction
  split at h
  · contradiction
  · rename_i h1 h2
    rw [if_neg h1, if_neg h2]
    have b1 := Decidable.not_not.1 h1
    have b2 := Decidable.not_not.1 h2
    obtain ⟨ok, e0, e1, hx⟩ := book_ok b1
    obtain ⟨q1, q2, q3, q4⟩ := holds_law b2
    obtain ⟨r1, r2⟩ := ok.root _ _ hx
    have hl : e.toNat < c.heads.length := by rw [← ok.len]; omega
    have hh : c.heads[e.toNat]? = some c.heads[e.toNat] := List.getElem?_eq_getElem hl
    have hc := ok.chain.ok _ (List.getElem_mem hl)
    have he := ok.chain.epoch _ _ hh
    rw [hh] at r2 ⊢
    simp only [Option.getD_some] at r2 ⊢
    refine ⟨b1, ?_, q3, ?_⟩
    · unfold serveTell
      simp only
      rw [if_neg (by rw [hc]; simp), ← r2]
      exact q2
    · rw [he, ok.first]; omega
def serveAgainst (r s : ReplyD) : List UInt8 × List UInt8 × Int := if ¬ (serveTell r).2.2 = 0 then ([], [], (serveTell r).2.2) else if ¬ (serveTell s).2.2 = 0 then ([], [], (serveTell s).2.2) else if ¬ r.proof.name = s.proof.name ∨ ¬ r.head = s.head then ([], [], 3) else if (serveTell r).1 = (serveTell s).1 ∧ (serveTell r).2.1 = (serveTell s).2.1 then ([], [], 6) else clashProofs r.proof s.proof
theorem tell_parts {r : ReplyD} (h : (serveTell r).2.2 = 0) : serveTell r = proofTell r.head.root r.proof := by
  unfold serveTell at h ⊢
  split
  · rename_i h1; rw [if_pos h1] at h; exact absurd h h1
  · rfl
theorem against_law {r s : ReplyD} (hr : ∀ m ∈ r.proof.sides, 0 ≤ m) (hs : ∀ m ∈ s.proof.sides, 0 ≤ m) : 
    (((¬ (serveTell r).2.2 = 0 ∨ ¬ (serveTell s).2.2 = 0) ∨ ¬ r.head = s.head) ∨ ¬ r.proof.name = s.proof.name → ¬ (serveAgainst r s).2.2 = 0 ∧ (serveAgainst r s).1 = [] ∧ (serveAgainst r s).2.1 = []) ∧
    ((serveTell r).2.2 = 0 → (serveTell s).2.2 = 0 → r.head = s.head → r.proof.name = s.proof.name → 
      ((serveTell r).1 = (serveTell s).1 ∧ (serveTell r).2.1 = (serveTell s).2.1 → (serveAgainst r s).2.2 = 6) ∧
      (¬ ((serveTell r).1 = (serveTell s).1 ∧ (serveTell r).2.1 = (serveTell s).2.1) → (serveAgainst r s).2.2 = 0 ∧ alikeB (serveAgainst r s).1 (serveAgainst r s).2.1 = true)) := by
  constructor
  · intro h
    unfold serveAgainst
    split
    · rename_i h1; exact ⟨h1, rfl, rfl⟩
    split
    · rename_i h1; exact ⟨h1, rfl, rfl⟩
    · rename_i h1 h2
      rw [if_pos]
      · exact ⟨by decide, rfl, rfl⟩
      · rcases h with ((h | h) | h) | h
        · exact absurd h h1
        · exact absurd h h2
        · exact .inr h
        · exact .inl h
  · intro h1 h2 h3 h4
    unfold serveAgainst
    rw [if_neg (by omega), if_neg (by omega), if_neg (by rw [h3, h4]; simp)]
    refine ⟨fun h => by rw [if_pos h], fun h => ?_⟩
    rw [if_neg h]
    have e1 := tell_parts h1
    have e2 := tell_parts h2
    rw [e1] at h1 h; rw [e2] at h2 h
    rw [← h3] at h2 h
    obtain ⟨q1, q2⟩ := binds_law hr hs h1 h2 h4 h
    exact ⟨q1, q2⟩
theorem serves_law : (serveLook (clerkNew 1 1 1).1 [97] 0).2 = 0 ∧ (serveLook (clerkNew 1 1 1).1 [97] 0).1.proof.name = [97] := by decide +kernel

theorem serveLook_con (G : Mem) (vs_c : List Value) (c : ClerkD) (h_c : EClerk.R G vs_c c) (name : List UInt8) (hw_name : (name).length ≤ 140737488351232) (epoch : Int) (hw_epoch : -9223372036854775808 ≤ epoch ∧ epoch < 9223372036854775808)  : Con Tryz.prog 13 #[.agg vs_c.toArray, Sr name, I epoch] G [] (fun u G' L' => ∃ (a1 : Option Addr) (c2 : Nat) (a3 : Option Addr) (c4 : Nat), u = .tuple #[.agg #[I (((serveLook c name epoch).1).head.epoch), U (((serveLook c name epoch).1).head.root), U (((serveLook c name epoch).1).head.prev), I (((serveLook c name epoch).1).head.at_), Sr (((serveLook c name epoch).1).proof.name), Sl a1 ((((serveLook c name epoch).1).proof.entries).length) c2, Sl a3 ((((serveLook c name epoch).1).proof.sides).length) c4], I ((serveLook c name epoch).2)] ∧ (-9223372036854775808 ≤ (((serveLook c name epoch).1).head.epoch) ∧ (((serveLook c name epoch).1).head.epoch) < 9223372036854775808) ∧ (0 ≤ (((serveLook c name epoch).1).head.root) ∧ (((serveLook c name epoch).1).head.root) < 18446744073709551616) ∧ (0 ≤ (((serveLook c name epoch).1).head.prev) ∧ (((serveLook c name epoch).1).head.prev) < 18446744073709551616) ∧ (-9223372036854775808 ≤ (((serveLook c name epoch).1).head.at_) ∧ (((serveLook c name epoch).1).head.at_) < 9223372036854775808) ∧ ((((serveLook c name epoch).1).proof.name).length ≤ 140737488351232) ∧ (RS EEnt G' a1 c2 (((serveLook c name epoch).1).proof.entries)) ∧ (RS EU G' a3 c4 (((serveLook c name epoch).1).proof.sides)) ∧ L' = []) := by
  obtain ⟨a1, c1, a2, c2, a3, c3, rfl, w1, hs1, w2, w3, w4, hs2, hs3⟩ := h_c
  refine con_of Tryz.func13 38 [(0, .agg #[I c.queue.most, Sl a1 c.queue.wait.length c1, I c.batch, I c.every, I c.now, Sl a2 c.heads.length c2, Sl a3 c.books.length c3]), (1, Sr name), (2, I epoch)] rfl (fun w0 G0 => ?_)
  refine tc_seq ?_
  refine tc_region ?_
  refine runL_box 3 #[I c.queue.most, Sl a1 c.queue.wait.length c1, I c.batch, I c.every, I c.now, Sl a2 c.heads.length c2, Sl a3 c.books.length c3] 28 (fun b1 => ?_)
  refine runL_box 6 #[I 0, U 0, U 0, I 0, Sr ([]), Sl none 0 0, Sl none 0 0] 38 (fun b2 => ?_)
  refine runL_b [0] [(1, Sr name), (2, I epoch), (3, Pt b1 0), (6, Pt b2 0), (7, I 0)] ?_
  refine runL_nil ?_
  refine tq_then ?_
  refine tc_seq ?_
  refine tc_region ?_
  refine runL_b [4,0] [(1, Sr name), (2, I epoch), (3, Pt b1 0), (6, Pt b2 0), (7, I 0), (12, .agg #[I c.queue.most, Sl a1 c.queue.wait.length c1, I c.batch, I c.every, I c.now, Sl a2 c.heads.length c2, Sl a3 c.books.length c3]), (13, I epoch)] ?_
  refine runL_callR 14 (clerkBook_con G [I c.queue.most, Sl a1 c.queue.wait.length c1, I c.batch, I c.every, I c.now, Sl a2 c.heads.length c2, Sl a3 c.books.length c3] c (⟨a1, c1, a2, c2, a3, c3, rfl, w1, hs1, w2, w3, w4, hs2, hs3⟩) epoch hw_epoch) (fun v G1 L1 hl1 hp => ?_)
  obtain ⟨a4, c4, r1, rfl, hr1, rfl⟩ := hp
  refine runL_b [0,0,0,0,0] [(1, Sr name), (2, I epoch), (3, Pt b1 0), (6, Pt b2 0), (7, I 0), (8, Sl a4 (((clerkBook c epoch).1).length) c4), (9, I ((clerkBook c epoch).2))] ?_
  refine runL_nil ?_
  refine tq_then ?_
  refine tc_seq ?_
  refine tc_rb [0,0] [(1, Sr name), (2, I epoch), (3, Pt b1 0), (6, Pt b2 0), (7, I 0), (8, Sl a4 (((clerkBook c epoch).1).length) c4), (9, I ((clerkBook c epoch).2)), (18, Bo (!decide ((clerkBook c epoch).2 = 0)))] ?_
  refine tc_cond (!decide ((clerkBook c epoch).2 = 0)) (fun h1 => ?_) (fun h1 => ?_)
  ·
    try simp only [decide_eq_true_eq, decide_eq_false_iff_not, Bool.and_eq_true, Bool.or_eq_true, Bool.and_eq_false_imp, Bool.or_eq_false_iff, Bool.not_eq_true', Bool.not_eq_false', Bool.not_eq_true, Bool.not_eq_false, beq_iff_eq, beq_eq_false_iff_ne, bne_iff_ne, ne_eq, Decidable.not_not, Int.not_lt, Int.not_le] at h1
    refine tc_rb [0,0,5,0] [(1, Sr name), (2, I epoch), (3, Pt b1 0), (6, Pt b2 0), (7, I ((clerkBook c epoch).2)), (8, Sl a4 (((clerkBook c epoch).1).length) c4), (9, I ((clerkBook c epoch).2)), (18, Bo (!decide ((clerkBook c epoch).2 = 0)))] ?_
    refine tc_ret ?_
    refine tq_then_ret ?_
    have hf1 : serveLook c name epoch = ((⟨(⟨0, 0, 0, 0⟩ : HeadD), (⟨[], [], []⟩ : ProofD)⟩ : ReplyD), (clerkBook c epoch).2) := by
      unfold serveLook replyZ; first | (rw [if_pos (by assumption)]; rfl) | (rw [if_neg (by first | omega | simp_all)]; first | (rw [if_pos (by assumption)]; rfl) | (rw [if_neg (by simp_all)]; simp_all; done))
    refine tq_ret [1, 0] [.agg #[I 0, U 0, U 0, I 0, Sr ([]), Sl none 0 0, Sl none 0 0], I ((clerkBook c epoch).2)] (bp_rows [] (.cons _ (.cons _ (.cons _ .slnil))) hl1 ?_)
    rw [hf1]
    try dsimp only
    exact ⟨none, 0, none, 0, rfl, (by first | assumption | omega | (simp; done) | (simp; omega)), (by first | assumption | omega | (simp; done) | (simp; omega)), (by first | assumption | omega | (simp; done) | (simp; omega)), (by first | assumption | omega | (simp; done) | (simp; omega)), (Nat.le_of_ble_eq_true rfl), (RS.nil' EEnt G1), (RS.nil' EU G1), rfl⟩
  ·
    try simp only [decide_eq_true_eq, decide_eq_false_iff_not, Bool.and_eq_true, Bool.or_eq_true, Bool.and_eq_false_imp, Bool.or_eq_false_iff, Bool.not_eq_true', Bool.not_eq_false', Bool.not_eq_true, Bool.not_eq_false, beq_iff_eq, beq_eq_false_iff_ne, bne_iff_ne, ne_eq, Decidable.not_not, Int.not_lt, Int.not_le] at h1
    refine tc_skip ?_
    refine tq_then ?_
    refine tc_seq ?_
    refine tc_region ?_
    refine runL_b [0,0] [(2, I epoch), (3, Pt b1 0), (6, Pt b2 0), (7, I 0), (9, I ((clerkBook c epoch).2)), (18, Bo (!decide ((clerkBook c epoch).2 = 0))), (22, Sl a4 (((clerkBook c epoch).1).length) c4), (23, Sr name)] ?_
    refine runL_frzR (E := EEnt) 0 hr1 (by have q_ := book_len c epoch; simp only [EEnt]; omega) (fun G2 hl2 hs4 => ?_)
    refine runL_callR 24 (proofMake_con G2 a4 c4 ((clerkBook c epoch).1) hs4 name hw_name) (fun v G3 L1 hl3 hp => ?_)
    obtain ⟨a5, c5, a6, c6, rfl, w5, hs5, hs6, rfl⟩ := hp
    refine runL_b [0,0,0] [(2, I epoch), (3, Pt b1 0), (6, Pt b2 0), (7, I 0), (9, I ((clerkBook c epoch).2)), (18, Bo (!decide ((clerkBook c epoch).2 = 0))), (25, .agg #[Sr (((proofMake ((clerkBook c epoch).1) name).1).name), Sl a5 ((((proofMake ((clerkBook c epoch).1) name).1).entries).length) c5, Sl a6 ((((proofMake ((clerkBook c epoch).1) name).1).sides).length) c6]), (26, I ((proofMake ((clerkBook c epoch).1) name).2))] ?_
    refine runL_box 10 #[Sr ([]), Sl none 0 0, Sl none 0 0] 36 (fun b3 => ?_)
    refine runL_bs [3,0] [(2, I epoch), (3, Pt b1 0), (6, Pt b2 0), (7, I 0), (9, I ((proofMake ((clerkBook c epoch).1) name).2)), (10, Pt b3 0), (18, Bo (!decide ((clerkBook c epoch).2 = 0)))] [[Sg b3 0 [Sr (((proofMake ((clerkBook c epoch).1) name).1).name), Sl a5 ((((proofMake ((clerkBook c epoch).1) name).1).entries).length) c5, Sl a6 ((((proofMake ((clerkBook c epoch).1) name).1).sides).length) c6]], [], [Sg b2 0 [I 0, U 0, U 0, I 0, Sr ([]), Sl none 0 0, Sl none 0 0]], [Sg b1 0 [I c.queue.most, Sl a1 c.queue.wait.length c1, I c.batch, I c.every, I c.now, Sl a2 c.heads.length c2, Sl a3 c.books.length c3]]] ?_
    refine runL_nil ?_
    refine tq_then ?_
    refine tc_seq ?_
    refine tc_rb [0,0] [(2, I epoch), (3, Pt b1 0), (6, Pt b2 0), (7, I 0), (9, I ((proofMake ((clerkBook c epoch).1) name).2)), (10, Pt b3 0), (18, Bo (!decide ((clerkBook c epoch).2 = 0))), (28, Bo (!decide ((proofMake ((clerkBook c epoch).1) name).2 = 0)))] ?_
    refine tc_cond (!decide ((proofMake ((clerkBook c epoch).1) name).2 = 0)) (fun h2 => ?_) (fun h2 => ?_)
    ·
      try simp only [decide_eq_true_eq, decide_eq_false_iff_not, Bool.and_eq_true, Bool.or_eq_true, Bool.and_eq_false_imp, Bool.or_eq_false_iff, Bool.not_eq_true', Bool.not_eq_false', Bool.not_eq_true, Bool.not_eq_false, beq_iff_eq, beq_eq_false_iff_ne, bne_iff_ne, ne_eq, Decidable.not_not, Int.not_lt, Int.not_le] at h2
      refine tc_rb [0,0,7,0] [(2, I epoch), (3, Pt b1 0), (6, Pt b2 0), (7, I ((proofMake ((clerkBook c epoch).1) name).2)), (9, I ((proofMake ((clerkBook c epoch).1) name).2)), (10, Pt b3 0), (18, Bo (!decide ((clerkBook c epoch).2 = 0))), (28, Bo (!decide ((proofMake ((clerkBook c epoch).1) name).2 = 0)))] ?_
      refine tc_ret ?_
      refine tq_then_ret ?_
      have hf2 : serveLook c name epoch = ((⟨(⟨0, 0, 0, 0⟩ : HeadD), (⟨[], [], []⟩ : ProofD)⟩ : ReplyD), (proofMake ((clerkBook c epoch).1) name).2) := by
        unfold serveLook replyZ; first | (rw [if_pos (by assumption)]; rfl) | (rw [if_neg (by first | omega | simp_all)]; first | (rw [if_pos (by assumption)]; rfl) | (rw [if_neg (by simp_all)]; simp_all; done))
      refine tq_ret [2, 0] [.agg #[I 0, U 0, U 0, I 0, Sr ([]), Sl none 0 0, Sl none 0 0], I ((proofMake ((clerkBook c epoch).1) name).2)] (bp_rows [] (.cons _ (.cons _ (.cons _ (.cons _ .slnil)))) (Mem.le_trans (Mem.le_trans hl1 hl2) hl3) ?_)
      rw [hf2]
      try dsimp only
      exact ⟨none, 0, none, 0, rfl, (by first | assumption | omega | (simp; done) | (simp; omega)), (by first | assumption | omega | (simp; done) | (simp; omega)), (by first | assumption | omega | (simp; done) | (simp; omega)), (by first | assumption | omega | (simp; done) | (simp; omega)), (Nat.le_of_ble_eq_true rfl), (RS.nil' EEnt G3), (RS.nil' EU G3), rfl⟩
    ·
      try simp only [decide_eq_true_eq, decide_eq_false_iff_not, Bool.and_eq_true, Bool.or_eq_true, Bool.and_eq_false_imp, Bool.or_eq_false_iff, Bool.not_eq_true', Bool.not_eq_false', Bool.not_eq_true, Bool.not_eq_false, beq_iff_eq, beq_eq_false_iff_ne, bne_iff_ne, ne_eq, Decidable.not_not, Int.not_lt, Int.not_le] at h2
      refine tc_skip ?_
      refine tq_then ?_
      obtain ⟨kn1, hkn1⟩ : ∃ k_ : Nat, epoch = (k_ : Int) := ⟨(epoch).toNat, by first | omega | (have q_ := book_ok (c := c) (by assumption); have q1_ := q_.1.len; omega)⟩
      have e1 : epoch = (kn1 : Int) := hkn1
      refine tc_eq (fr' := [(2, I ((kn1 : Int))), (3, Pt b1 0), (6, Pt b2 0), (7, I 0), (9, I ((proofMake ((clerkBook c epoch).1) name).2)), (10, Pt b3 0), (18, Bo (!decide ((clerkBook c epoch).2 = 0))), (28, Bo (!decide ((proofMake ((clerkBook c epoch).1) name).2 = 0)))]) (L' := [[Sg b3 0 [Sr (((proofMake ((clerkBook c epoch).1) name).1).name), Sl a5 ((((proofMake ((clerkBook c epoch).1) name).1).entries).length) c5, Sl a6 ((((proofMake ((clerkBook c epoch).1) name).1).sides).length) c6]], [], [Sg b2 0 [I 0, U 0, U 0, I 0, Sr ([]), Sl none 0 0, Sl none 0 0]], [Sg b1 0 [I c.queue.most, Sl a1 c.queue.wait.length c1, I c.batch, I c.every, I c.now, Sl a2 c.heads.length c2, Sl a3 c.books.length c3]]]) (by first | rfl | simp only [e1]) (by first | rfl | simp only [e1]) ?_
      refine tc_seq ?_
      obtain ⟨b4, o1, rfl⟩ := RS.addr (hs2.mono (Mem.le_trans (Mem.le_trans hl1 hl2) hl3)) (k := kn1) (by first | omega | (have q_ := book_ok (c := c) (by assumption); have q1_ := q_.1.len; omega))
      obtain ⟨x1, hx1⟩ := getX (l := c.heads) (k := kn1) (by first | omega | (have q_ := book_ok (c := c) (by assumption); have q1_ := q_.1.len; omega))
      obtain ⟨_, ⟨rfl, w6, w7, w8, w9⟩, hc1⟩ := RS.get (hs2.mono (Mem.le_trans (Mem.le_trans hl1 hl2) hl3)) hx1
      refine tc_draw [7] ?_
      refine dr_V [(0, Pt b1 5), (1, Sl (At b4 o1) c.heads.length c2), (2, I ((kn1 : Int))), (3, Pt b4 (o1 + kn1 * 4)), (4, .agg #[I x1.epoch, U x1.root, U x1.prev, I x1.at_]), (5, .agg #[Sr (((proofMake ((clerkBook c epoch).1) name).1).name), Sl a5 ((((proofMake ((clerkBook c epoch).1) name).1).entries).length) c5, Sl a6 ((((proofMake ((clerkBook c epoch).1) name).1).sides).length) c6]), (6, .agg #[I x1.epoch, U x1.root, U x1.prev, I x1.at_, Sr (((proofMake ((clerkBook c epoch).1) name).1).name), Sl a5 ((((proofMake ((clerkBook c epoch).1) name).1).entries).length) c5, Sl a6 ((((proofMake ((clerkBook c epoch).1) name).1).sides).length) c6])] ?_
      refine dr_mid [] [(0,0), (1,8), (2,0), (5,2), (6,0)] [3, 4] [7] (List.forall_mem_cons.2 ⟨?_, (List.forall_mem_cons.2 ⟨?_, List.forall_mem_nil _⟩)⟩) (List.forall_mem_cons.2 ⟨?_, List.forall_mem_nil _⟩)
      · refine stab_of 3 34 (Pt b4 (o1 + kn1 * 4)) [(32, Sl (At b4 o1) c.heads.length c2), (33, I ((kn1 : Int)))] (fun X => ?_)
        exact runL_idx (b := b4) (off := o1) (len := c.heads.length) (cap := c2) (ik := .i64) 34 32 4 kn1 (by first | omega | (have q_ := book_ok (c := c) (by assumption); have q1_ := q_.1.len; omega)) stab_end
      · refine stab_of 4 35 (.agg #[I x1.epoch, U x1.root, U x1.prev, I x1.at_]) [(34, Pt b4 (o1 + kn1 * 4))] (fun X => ?_)
        exact runL_ldG 35 32 (cs := [I x1.epoch, U x1.root, U x1.prev, I x1.at_]) 0 (.agg #[I x1.epoch, U x1.root, U x1.prev, I x1.at_]) hc1 stab_end
      refine act_of 7 [(6, Pt b2 0), (37, .agg #[I x1.epoch, U x1.root, U x1.prev, I x1.at_, Sr (((proofMake ((clerkBook c epoch).1) name).1).name), Sl a5 ((((proofMake ((clerkBook c epoch).1) name).1).entries).length) c5, Sl a6 ((((proofMake ((clerkBook c epoch).1) name).1).sides).length) c6])] (fun X => ?_)
      refine runL_st 2 [[Sg b3 0 [Sr (((proofMake ((clerkBook c epoch).1) name).1).name), Sl a5 ((((proofMake ((clerkBook c epoch).1) name).1).entries).length) c5, Sl a6 ((((proofMake ((clerkBook c epoch).1) name).1).sides).length) c6]], [], [Sg b2 0 [I x1.epoch, U x1.root, U x1.prev, I x1.at_, Sr (((proofMake ((clerkBook c epoch).1) name).1).name), Sl a5 ((((proofMake ((clerkBook c epoch).1) name).1).entries).length) c5, Sl a6 ((((proofMake ((clerkBook c epoch).1) name).1).sides).length) c6]], [Sg b1 0 [I c.queue.most, Sl a1 c.queue.wait.length c1, I c.batch, I c.every, I c.now, Sl (At b4 o1) c.heads.length c2, Sl a3 c.books.length c3]]] ?_
      refine act_end0 (V' := [(0, Pt b1 5), (1, Sl (At b4 o1) c.heads.length c2), (2, I ((kn1 : Int))), (3, Pt b4 (o1 + kn1 * 4)), (4, .agg #[I x1.epoch, U x1.root, U x1.prev, I x1.at_]), (5, .agg #[Sr (((proofMake ((clerkBook c epoch).1) name).1).name), Sl a5 ((((proofMake ((clerkBook c epoch).1) name).1).entries).length) c5, Sl a6 ((((proofMake ((clerkBook c epoch).1) name).1).sides).length) c6]), (6, .agg #[I x1.epoch, U x1.root, U x1.prev, I x1.at_, Sr (((proofMake ((clerkBook c epoch).1) name).1).name), Sl a5 ((((proofMake ((clerkBook c epoch).1) name).1).entries).length) c5, Sl a6 ((((proofMake ((clerkBook c epoch).1) name).1).sides).length) c6]), (8, I 0)]) ?_
      refine dr_end [0, 1, 2, 3, 4, 5, 6] [(8,0)] [] [(2, I ((kn1 : Int))), (3, Pt b1 0), (6, Pt b2 0), (7, I 0), (9, I ((proofMake ((clerkBook c epoch).1) name).2)), (18, Bo (!decide ((clerkBook c epoch).2 = 0))), (28, Bo (!decide ((proofMake ((clerkBook c epoch).1) name).2 = 0)))] (List.forall_mem_nil _) ?_
      refine tq_then ?_
      refine tc_ret ?_
      have hf3 : serveLook c name epoch = ((⟨x1, ((proofMake ((clerkBook c epoch).1) name).1)⟩ : ReplyD), 0) := by
        unfold serveLook replyZ; first | (rw [if_pos (by assumption)]; rfl) | (rw [if_neg (by first | omega | simp_all)]; first | (rw [if_pos (by assumption)]; rfl) | (rw [if_neg (by simp_all)]; simp_all; done))
      refine tq_ret [2, 0] [.agg #[I x1.epoch, U x1.root, U x1.prev, I x1.at_, Sr (((proofMake ((clerkBook c epoch).1) name).1).name), Sl a5 ((((proofMake ((clerkBook c epoch).1) name).1).entries).length) c5, Sl a6 ((((proofMake ((clerkBook c epoch).1) name).1).sides).length) c6], I 0] (bp_rows [] (.cons _ (.cons _ (.cons _ (.cons _ .slnil)))) (Mem.le_trans (Mem.le_trans hl1 hl2) hl3) ?_)
      rw [hf3]
      try dsimp only
      exact ⟨a5, c5, a6, c6, rfl, w6, w7, w8, w9, w5, hs5, hs6, rfl⟩

theorem serveAgainst_con (G : Mem) (vs_r : List Value) (r : ReplyD) (h_r : EReply.R G vs_r r) (vs_s : List Value) (s : ReplyD) (h_s : EReply.R G vs_s s)  : Con Tryz.prog 18 #[.agg vs_r.toArray, .agg vs_s.toArray] G [] (fun u G' L' => u = .tuple #[Sr ((serveAgainst r s).1), Sr ((serveAgainst r s).2.1), I ((serveAgainst r s).2.2)] ∧ (((serveAgainst r s).1).length ≤ 140737488351232) ∧ (((serveAgainst r s).2.1).length ≤ 140737488351232) ∧ L' = []) := by
  obtain ⟨a1, c1, a2, c2, rfl, w1, w2, w3, w4, w5, hs1, hs2⟩ := h_r
  obtain ⟨a3, c3, a4, c4, rfl, w6, w7, w8, w9, w10, hs3, hs4⟩ := h_s
  refine con_of Tryz.func18 63 [(0, .agg #[I r.head.epoch, U r.head.root, U r.head.prev, I r.head.at_, Sr r.proof.name, Sl a1 r.proof.entries.length c1, Sl a2 r.proof.sides.length c2]), (1, .agg #[I s.head.epoch, U s.head.root, U s.head.prev, I s.head.at_, Sr s.proof.name, Sl a3 s.proof.entries.length c3, Sl a4 s.proof.sides.length c4])] rfl (fun w0 G0 => ?_)
  refine tc_seq ?_
  refine tc_region ?_
  refine runL_box 2 #[I r.head.epoch, U r.head.root, U r.head.prev, I r.head.at_, Sr r.proof.name, Sl a1 r.proof.entries.length c1, Sl a2 r.proof.sides.length c2] 38 (fun b1 => ?_)
  refine runL_box 3 #[I s.head.epoch, U s.head.root, U s.head.prev, I s.head.at_, Sr s.proof.name, Sl a3 s.proof.entries.length c3, Sl a4 s.proof.sides.length c4] 38 (fun b2 => ?_)
  refine runL_b [0,0,0] [(2, Pt b1 0), (3, Pt b2 0), (4, Sr ([])), (5, Sr ([])), (6, I 0)] ?_
  refine runL_nil ?_
  refine tq_then ?_
  refine tc_seq ?_
  refine tc_region ?_
  refine runL_b [4] [(2, Pt b1 0), (3, Pt b2 0), (4, Sr ([])), (5, Sr ([])), (6, I 0), (13, .agg #[I r.head.epoch, U r.head.root, U r.head.prev, I r.head.at_, Sr r.proof.name, Sl a1 r.proof.entries.length c1, Sl a2 r.proof.sides.length c2])] ?_
  refine runL_callR 14 (serveTell_con G [I r.head.epoch, U r.head.root, U r.head.prev, I r.head.at_, Sr r.proof.name, Sl a1 r.proof.entries.length c1, Sl a2 r.proof.sides.length c2] r (⟨a1, c1, a2, c2, rfl, w1, w2, w3, w4, w5, hs1, hs2⟩)) (fun v G1 L1 hl1 hp => ?_)
  obtain ⟨rfl, w11, rfl⟩ := hp
  refine runL_b [0,0,0,0,0,0,0] [(2, Pt b1 0), (3, Pt b2 0), (4, Sr ([])), (5, Sr ([])), (6, I 0), (7, Sr ((serveTell r).1)), (8, Bo ((serveTell r).2.1)), (9, I ((serveTell r).2.2))] ?_
  refine runL_nil ?_
  refine tq_then ?_
  refine tc_seq ?_
  refine tc_rb [0,0] [(2, Pt b1 0), (3, Pt b2 0), (4, Sr ([])), (5, Sr ([])), (6, I 0), (7, Sr ((serveTell r).1)), (8, Bo ((serveTell r).2.1)), (9, I ((serveTell r).2.2)), (19, Bo (!decide ((serveTell r).2.2 = 0)))] ?_
  refine tc_cond (!decide ((serveTell r).2.2 = 0)) (fun h1 => ?_) (fun h1 => ?_)
  ·
    try simp only [decide_eq_true_eq, decide_eq_false_iff_not, Bool.and_eq_true, Bool.or_eq_true, Bool.and_eq_false_imp, Bool.or_eq_false_iff, Bool.not_eq_true', Bool.not_eq_false', Bool.not_eq_true, Bool.not_eq_false, beq_iff_eq, beq_eq_false_iff_ne, bne_iff_ne, ne_eq, Decidable.not_not, Int.not_lt, Int.not_le] at h1
    refine tc_rb [0,0,0,0] [(2, Pt b1 0), (3, Pt b2 0), (4, Sr ([])), (5, Sr ([])), (6, I ((serveTell r).2.2)), (7, Sr ((serveTell r).1)), (8, Bo ((serveTell r).2.1)), (9, I ((serveTell r).2.2)), (19, Bo (!decide ((serveTell r).2.2 = 0)))] ?_
    refine tc_ret ?_
    refine tq_then_ret ?_
    have hf1 : serveAgainst r s = ([], [], (serveTell r).2.2) := by
      unfold serveAgainst; simp only [HeadD_ne]; first | (simp_all; done) | (simp_all; grind)
    refine tq_ret [0, 0, 0] [Sr ([]), Sr ([]), I ((serveTell r).2.2)] (bp_rows [] (.cons _ (.cons _ .slnil)) hl1 ?_)
    rw [hf1]
    try dsimp only
    exact ⟨rfl, (Nat.le_of_ble_eq_true rfl), (Nat.le_of_ble_eq_true rfl), rfl⟩
  ·
    try simp only [decide_eq_true_eq, decide_eq_false_iff_not, Bool.and_eq_true, Bool.or_eq_true, Bool.and_eq_false_imp, Bool.or_eq_false_iff, Bool.not_eq_true', Bool.not_eq_false', Bool.not_eq_true, Bool.not_eq_false, beq_iff_eq, beq_eq_false_iff_ne, bne_iff_ne, ne_eq, Decidable.not_not, Int.not_lt, Int.not_le] at h1
    refine tc_skip ?_
    refine tq_then ?_
    refine tc_seq ?_
    refine tc_region ?_
    refine runL_b [2] [(2, Pt b1 0), (3, Pt b2 0), (4, Sr ([])), (5, Sr ([])), (6, I 0), (7, Sr ((serveTell r).1)), (8, Bo ((serveTell r).2.1)), (9, I ((serveTell r).2.2)), (19, Bo (!decide ((serveTell r).2.2 = 0))), (22, .agg #[I s.head.epoch, U s.head.root, U s.head.prev, I s.head.at_, Sr s.proof.name, Sl a3 s.proof.entries.length c3, Sl a4 s.proof.sides.length c4])] ?_
    refine runL_callR 23 (serveTell_con G1 [I s.head.epoch, U s.head.root, U s.head.prev, I s.head.at_, Sr s.proof.name, Sl a3 s.proof.entries.length c3, Sl a4 s.proof.sides.length c4] s (⟨a3, c3, a4, c4, rfl, w6, w7, w8, w9, w10, (hs3.mono hl1), (hs4.mono hl1)⟩)) (fun v G2 L1 hl2 hp => ?_)
    obtain ⟨rfl, w12, rfl⟩ := hp
    refine runL_b [0,0,0,0,0,0,0] [(2, Pt b1 0), (3, Pt b2 0), (4, Sr ([])), (5, Sr ([])), (6, I 0), (7, Sr ((serveTell r).1)), (8, Bo ((serveTell r).2.1)), (9, I ((serveTell s).2.2)), (10, Sr ((serveTell s).1)), (11, Bo ((serveTell s).2.1)), (19, Bo (!decide ((serveTell r).2.2 = 0)))] ?_
    refine runL_nil ?_
    refine tq_then ?_
    refine tc_seq ?_
    refine tc_block ?_
    refine tc_rb [0,0,0] [(2, Pt b1 0), (3, Pt b2 0), (4, Sr ([])), (5, Sr ([])), (6, I 0), (7, Sr ((serveTell r).1)), (8, Bo ((serveTell r).2.1)), (9, I ((serveTell s).2.2)), (10, Sr ((serveTell s).1)), (11, Bo ((serveTell s).2.1)), (19, Bo (!decide ((serveTell r).2.2 = 0))), (27, Bo (!decide ((serveTell s).2.2 = 0)))] ?_
    refine tc_cond (!decide ((serveTell s).2.2 = 0)) (fun h2 => ?_) (fun h2 => ?_)
    ·
      try simp only [decide_eq_true_eq, decide_eq_false_iff_not, Bool.and_eq_true, Bool.or_eq_true, Bool.and_eq_false_imp, Bool.or_eq_false_iff, Bool.not_eq_true', Bool.not_eq_false', Bool.not_eq_true, Bool.not_eq_false, beq_iff_eq, beq_eq_false_iff_ne, bne_iff_ne, ne_eq, Decidable.not_not, Int.not_lt, Int.not_le] at h2
      refine tc_rb [0,0,0,0] [(2, Pt b1 0), (3, Pt b2 0), (4, Sr ([])), (5, Sr ([])), (6, I ((serveTell s).2.2)), (7, Sr ((serveTell r).1)), (8, Bo ((serveTell r).2.1)), (9, I ((serveTell s).2.2)), (10, Sr ((serveTell s).1)), (11, Bo ((serveTell s).2.1)), (19, Bo (!decide ((serveTell r).2.2 = 0))), (27, Bo (!decide ((serveTell s).2.2 = 0)))] ?_
      refine tc_ret ?_
      refine tq_block_ret ?_
      refine tq_then_ret ?_
      have hf2 : serveAgainst r s = ([], [], (serveTell s).2.2) := by
        unfold serveAgainst; simp only [HeadD_ne]; first | (simp_all; done) | (simp_all; grind)
      refine tq_ret [0, 0, 0] [Sr ([]), Sr ([]), I ((serveTell s).2.2)] (bp_rows [] (.cons _ (.cons _ .slnil)) (Mem.le_trans hl1 hl2) ?_)
      rw [hf2]
      try dsimp only
      exact ⟨rfl, (Nat.le_of_ble_eq_true rfl), (Nat.le_of_ble_eq_true rfl), rfl⟩
    ·
      try simp only [decide_eq_true_eq, decide_eq_false_iff_not, Bool.and_eq_true, Bool.or_eq_true, Bool.and_eq_false_imp, Bool.or_eq_false_iff, Bool.not_eq_true', Bool.not_eq_false', Bool.not_eq_true, Bool.not_eq_false, beq_iff_eq, beq_eq_false_iff_ne, bne_iff_ne, ne_eq, Decidable.not_not, Int.not_lt, Int.not_le] at h2
      refine tc_seq ?_
      refine tc_region ?_
      refine runL_b [0,0,4,0,0,2,0,0] [(2, Pt b1 0), (3, Pt b2 0), (4, Sr ([])), (5, Sr ([])), (6, I 0), (7, Sr ((serveTell r).1)), (8, Bo ((serveTell r).2.1)), (9, I ((serveTell s).2.2)), (10, Sr ((serveTell s).1)), (11, Bo ((serveTell s).2.1)), (19, Bo (!decide ((serveTell r).2.2 = 0))), (27, Bo (!decide ((serveTell s).2.2 = 0))), (39, Bo (!((B r.proof.name).toList == (B s.proof.name).toList)))] ?_
      refine runL_eq (fr' := [(2, Pt b1 0), (3, Pt b2 0), (4, Sr ([])), (5, Sr ([])), (6, I 0), (7, Sr ((serveTell r).1)), (8, Bo ((serveTell r).2.1)), (9, I ((serveTell s).2.2)), (10, Sr ((serveTell s).1)), (11, Bo ((serveTell s).2.1)), (19, Bo (!decide ((serveTell r).2.2 = 0))), (27, Bo (!decide ((serveTell s).2.2 = 0))), (39, Bo (!(r.proof.name == s.proof.name)))]) (L' := [[Sg b2 0 [I s.head.epoch, U s.head.root, U s.head.prev, I s.head.at_, Sr s.proof.name, Sl a3 s.proof.entries.length c3, Sl a4 s.proof.sides.length c4]], [Sg b1 0 [I r.head.epoch, U r.head.root, U r.head.prev, I r.head.at_, Sr r.proof.name, Sl a1 r.proof.entries.length c1, Sl a2 r.proof.sides.length c2]]]) (by simp only [B_toList]) (by rfl) ?_
      refine runL_cases (fun bb => [(2, Pt b1 0), (3, Pt b2 0), (4, Sr ([])), (5, Sr ([])), (6, I 0), (7, Sr ((serveTell r).1)), (8, Bo ((serveTell r).2.1)), (9, I ((serveTell s).2.2)), (10, Sr ((serveTell s).1)), (11, Bo ((serveTell s).2.1)), (19, Bo (!decide ((serveTell r).2.2 = 0))), (27, Bo (!decide ((serveTell s).2.2 = 0))), (39, Bo bb)]) (!(r.proof.name == s.proof.name)) (fun h3 => ?_) (fun h3 => ?_)
      ·
        try simp only [decide_eq_true_eq, decide_eq_false_iff_not, Bool.and_eq_true, Bool.or_eq_true, Bool.and_eq_false_imp, Bool.or_eq_false_iff, Bool.not_eq_true', Bool.not_eq_false', Bool.not_eq_true, Bool.not_eq_false, beq_iff_eq, beq_eq_false_iff_ne, bne_iff_ne, ne_eq, Decidable.not_not, Int.not_lt, Int.not_le] at h3
        refine runL_b [1,1,1,1,1,0,0] [(2, Pt b1 0), (3, Pt b2 0), (4, Sr ([])), (5, Sr ([])), (6, I 0), (7, Sr ((serveTell r).1)), (8, Bo ((serveTell r).2.1)), (9, I ((serveTell s).2.2)), (10, Sr ((serveTell s).1)), (11, Bo ((serveTell s).2.1)), (19, Bo (!decide ((serveTell r).2.2 = 0))), (27, Bo (!decide ((serveTell s).2.2 = 0))), (31, Bo true)] ?_
        refine runL_nil ?_
        refine tq_then ?_
        refine tc_cond_true ?_
        refine tc_rb [0,0,0] [(2, Pt b1 0), (3, Pt b2 0), (4, Sr ([])), (5, Sr ([])), (6, I 3), (7, Sr ((serveTell r).1)), (8, Bo ((serveTell r).2.1)), (9, I ((serveTell s).2.2)), (10, Sr ((serveTell s).1)), (11, Bo ((serveTell s).2.1)), (19, Bo (!decide ((serveTell r).2.2 = 0))), (27, Bo (!decide ((serveTell s).2.2 = 0))), (31, Bo true)] ?_
        refine tc_ret ?_
        refine tq_block_ret ?_
        refine tq_then_ret ?_
        have hf3 : serveAgainst r s = ([], [], 3) := by
          unfold serveAgainst; simp only [HeadD_ne]; first | (simp_all; done) | (simp_all; grind)
        refine tq_ret [0, 0, 0] [Sr ([]), Sr ([]), I 3] (bp_rows [] (.cons _ (.cons _ .slnil)) (Mem.le_trans hl1 hl2) ?_)
        rw [hf3]
        try dsimp only
        exact ⟨rfl, (Nat.le_of_ble_eq_true rfl), (Nat.le_of_ble_eq_true rfl), rfl⟩
      ·
        try simp only [decide_eq_true_eq, decide_eq_false_iff_not, Bool.and_eq_true, Bool.or_eq_true, Bool.and_eq_false_imp, Bool.or_eq_false_iff, Bool.not_eq_true', Bool.not_eq_false', Bool.not_eq_true, Bool.not_eq_false, beq_iff_eq, beq_eq_false_iff_ne, bne_iff_ne, ne_eq, Decidable.not_not, Int.not_lt, Int.not_le] at h3
        refine runL_b [0,4,0,2] [(2, Pt b1 0), (3, Pt b2 0), (4, Sr ([])), (5, Sr ([])), (6, I 0), (7, Sr ((serveTell r).1)), (8, Bo ((serveTell r).2.1)), (9, I ((serveTell s).2.2)), (10, Sr ((serveTell s).1)), (11, Bo ((serveTell s).2.1)), (19, Bo (!decide ((serveTell r).2.2 = 0))), (27, Bo (!decide ((serveTell s).2.2 = 0))), (39, Bo false), (41, .agg #[I r.head.epoch, U r.head.root, U r.head.prev, I r.head.at_]), (43, .agg #[I s.head.epoch, U s.head.root, U s.head.prev, I s.head.at_])] ?_
        refine runL_eqv 44 (Bo (!((decide (r.head.epoch = s.head.epoch) && (decide (r.head.root = s.head.root) && (decide (r.head.prev = s.head.prev) && (decide (r.head.at_ = s.head.at_) && true))))))) (Bo (!(decide (r.head.epoch = s.head.epoch) && decide (r.head.root = s.head.root) && decide (r.head.prev = s.head.prev) && decide (r.head.at_ = s.head.at_)))) (by simp [B_toList, Bool.and_assoc]) ?_
        refine runL_b [0,0] [(2, Pt b1 0), (3, Pt b2 0), (4, Sr ([])), (5, Sr ([])), (6, I 0), (7, Sr ((serveTell r).1)), (8, Bo ((serveTell r).2.1)), (9, I ((serveTell s).2.2)), (10, Sr ((serveTell s).1)), (11, Bo ((serveTell s).2.1)), (19, Bo (!decide ((serveTell r).2.2 = 0))), (27, Bo (!decide ((serveTell s).2.2 = 0))), (31, Bo (!(decide (r.head.epoch = s.head.epoch) && decide (r.head.root = s.head.root) && decide (r.head.prev = s.head.prev) && decide (r.head.at_ = s.head.at_))))] ?_
        refine runL_nil ?_
        refine tq_then ?_
        refine tc_cond (!(decide (r.head.epoch = s.head.epoch) && decide (r.head.root = s.head.root) && decide (r.head.prev = s.head.prev) && decide (r.head.at_ = s.head.at_))) (fun h4 => ?_) (fun h4 => ?_)
        ·
          try simp only [decide_eq_true_eq, decide_eq_false_iff_not, Bool.and_eq_true, Bool.or_eq_true, Bool.and_eq_false_imp, Bool.or_eq_false_iff, Bool.not_eq_true', Bool.not_eq_false', Bool.not_eq_true, Bool.not_eq_false, beq_iff_eq, beq_eq_false_iff_ne, bne_iff_ne, ne_eq, Decidable.not_not, Int.not_lt, Int.not_le] at h4
          refine tc_rb [0,0,0] [(2, Pt b1 0), (3, Pt b2 0), (4, Sr ([])), (5, Sr ([])), (6, I 3), (7, Sr ((serveTell r).1)), (8, Bo ((serveTell r).2.1)), (9, I ((serveTell s).2.2)), (10, Sr ((serveTell s).1)), (11, Bo ((serveTell s).2.1)), (19, Bo (!decide ((serveTell r).2.2 = 0))), (27, Bo (!decide ((serveTell s).2.2 = 0))), (31, Bo (!(decide (r.head.epoch = s.head.epoch) && decide (r.head.root = s.head.root) && decide (r.head.prev = s.head.prev) && decide (r.head.at_ = s.head.at_))))] ?_
          refine tc_ret ?_
          refine tq_block_ret ?_
          refine tq_then_ret ?_
          have hf4 : serveAgainst r s = ([], [], 3) := by
            unfold serveAgainst; simp only [HeadD_ne]; first | (simp_all; done) | (simp_all; grind)
          refine tq_ret [0, 0, 0] [Sr ([]), Sr ([]), I 3] (bp_rows [] (.cons _ (.cons _ .slnil)) (Mem.le_trans hl1 hl2) ?_)
          rw [hf4]
          try dsimp only
          exact ⟨rfl, (Nat.le_of_ble_eq_true rfl), (Nat.le_of_ble_eq_true rfl), rfl⟩
        ·
          try simp only [decide_eq_true_eq, decide_eq_false_iff_not, Bool.and_eq_true, Bool.or_eq_true, Bool.and_eq_false_imp, Bool.or_eq_false_iff, Bool.not_eq_true', Bool.not_eq_false', Bool.not_eq_true, Bool.not_eq_false, beq_iff_eq, beq_eq_false_iff_ne, bne_iff_ne, ne_eq, Decidable.not_not, Int.not_lt, Int.not_le] at h4
          refine tc_seq ?_
          refine tc_region ?_
          refine runL_b [0,0,0,0] [(2, Pt b1 0), (3, Pt b2 0), (4, Sr ([])), (5, Sr ([])), (6, I 0), (8, Bo ((serveTell r).2.1)), (9, I ((serveTell s).2.2)), (11, Bo ((serveTell s).2.1)), (19, Bo (!decide ((serveTell r).2.2 = 0))), (27, Bo (!decide ((serveTell s).2.2 = 0))), (31, Bo (!(decide (r.head.epoch = s.head.epoch) && decide (r.head.root = s.head.root) && decide (r.head.prev = s.head.prev) && decide (r.head.at_ = s.head.at_)))), (50, Bo (((B ((serveTell r).1)).toList == (B ((serveTell s).1)).toList)))] ?_
          refine runL_eq (fr' := [(2, Pt b1 0), (3, Pt b2 0), (4, Sr ([])), (5, Sr ([])), (6, I 0), (8, Bo ((serveTell r).2.1)), (9, I ((serveTell s).2.2)), (11, Bo ((serveTell s).2.1)), (19, Bo (!decide ((serveTell r).2.2 = 0))), (27, Bo (!decide ((serveTell s).2.2 = 0))), (31, Bo (!(decide (r.head.epoch = s.head.epoch) && decide (r.head.root = s.head.root) && decide (r.head.prev = s.head.prev) && decide (r.head.at_ = s.head.at_)))), (50, Bo (((serveTell r).1 == (serveTell s).1)))]) (L' := [[Sg b2 0 [I s.head.epoch, U s.head.root, U s.head.prev, I s.head.at_, Sr s.proof.name, Sl a3 s.proof.entries.length c3, Sl a4 s.proof.sides.length c4]], [Sg b1 0 [I r.head.epoch, U r.head.root, U r.head.prev, I r.head.at_, Sr r.proof.name, Sl a1 r.proof.entries.length c1, Sl a2 r.proof.sides.length c2]]]) (by simp only [B_toList]) (by rfl) ?_
          refine runL_b2 (((serveTell r).1 == (serveTell s).1)) (fun bb => [(2, Pt b1 0), (3, Pt b2 0), (4, Sr ([])), (5, Sr ([])), (6, I 0), (8, Bo ((serveTell r).2.1)), (9, I ((serveTell s).2.2)), (11, Bo ((serveTell s).2.1)), (19, Bo (!decide ((serveTell r).2.2 = 0))), (27, Bo (!decide ((serveTell s).2.2 = 0))), (31, Bo (!(decide (r.head.epoch = s.head.epoch) && decide (r.head.root = s.head.root) && decide (r.head.prev = s.head.prev) && decide (r.head.at_ = s.head.at_)))), (50, Bo bb)]) [0,0,0,0] [1,1,1,0] (fun bb => [(2, Pt b1 0), (3, Pt b2 0), (4, Sr ([])), (5, Sr ([])), (6, I 0), (9, I ((serveTell s).2.2)), (19, Bo (!decide ((serveTell r).2.2 = 0))), (27, Bo (!decide ((serveTell s).2.2 = 0))), (31, Bo (!(decide (r.head.epoch = s.head.epoch) && decide (r.head.root = s.head.root) && decide (r.head.prev = s.head.prev) && decide (r.head.at_ = s.head.at_)))), (54, Bo (bb && ((((serveTell r).2.1) == ((serveTell s).2.1)))))]) ?_
          refine runL_b [0] [(2, Pt b1 0), (3, Pt b2 0), (4, Sr ([])), (5, Sr ([])), (6, I 0), (9, I ((serveTell s).2.2)), (19, Bo (!decide ((serveTell r).2.2 = 0))), (27, Bo (!decide ((serveTell s).2.2 = 0))), (31, Bo (!(decide (r.head.epoch = s.head.epoch) && decide (r.head.root = s.head.root) && decide (r.head.prev = s.head.prev) && decide (r.head.at_ = s.head.at_)))), (46, Bo ((((serveTell r).1 == (serveTell s).1)) && ((((serveTell r).2.1) == ((serveTell s).2.1)))))] ?_
          refine runL_nil ?_
          refine tq_then ?_
          refine tc_cond ((((serveTell r).1 == (serveTell s).1)) && ((((serveTell r).2.1) == ((serveTell s).2.1)))) (fun h5 => ?_) (fun h5 => ?_)
          ·
            try simp only [decide_eq_true_eq, decide_eq_false_iff_not, Bool.and_eq_true, Bool.or_eq_true, Bool.and_eq_false_imp, Bool.or_eq_false_iff, Bool.not_eq_true', Bool.not_eq_false', Bool.not_eq_true, Bool.not_eq_false, beq_iff_eq, beq_eq_false_iff_ne, bne_iff_ne, ne_eq, Decidable.not_not, Int.not_lt, Int.not_le] at h5
            refine tc_rb [0,0,0] [(2, Pt b1 0), (3, Pt b2 0), (4, Sr ([])), (5, Sr ([])), (6, I 6), (9, I ((serveTell s).2.2)), (19, Bo (!decide ((serveTell r).2.2 = 0))), (27, Bo (!decide ((serveTell s).2.2 = 0))), (31, Bo (!(decide (r.head.epoch = s.head.epoch) && decide (r.head.root = s.head.root) && decide (r.head.prev = s.head.prev) && decide (r.head.at_ = s.head.at_)))), (46, Bo ((((serveTell r).1 == (serveTell s).1)) && ((((serveTell r).2.1) == ((serveTell s).2.1)))))] ?_
            refine tc_ret ?_
            refine tq_block_ret ?_
            refine tq_then_ret ?_
            have hf5 : serveAgainst r s = ([], [], 6) := by
              unfold serveAgainst; simp only [HeadD_ne]; first | (simp_all; done) | (simp_all; grind)
            refine tq_ret [0, 0, 0] [Sr ([]), Sr ([]), I 6] (bp_rows [] (.cons _ (.cons _ .slnil)) (Mem.le_trans hl1 hl2) ?_)
            rw [hf5]
            try dsimp only
            exact ⟨rfl, (Nat.le_of_ble_eq_true rfl), (Nat.le_of_ble_eq_true rfl), rfl⟩
          ·
            try simp only [decide_eq_true_eq, decide_eq_false_iff_not, Bool.and_eq_true, Bool.or_eq_true, Bool.and_eq_false_imp, Bool.or_eq_false_iff, Bool.not_eq_true', Bool.not_eq_false', Bool.not_eq_true, Bool.not_eq_false, beq_iff_eq, beq_eq_false_iff_ne, bne_iff_ne, ne_eq, Decidable.not_not, Int.not_lt, Int.not_le] at h5
            refine tc_skip ?_
            refine tq_block ?_
            refine tq_then ?_
            refine tc_seq ?_
            refine tc_region ?_
            refine runL_b [0,4,0,2] [(2, Pt b1 0), (3, Pt b2 0), (4, Sr ([])), (5, Sr ([])), (6, I 0), (9, I ((serveTell s).2.2)), (19, Bo (!decide ((serveTell r).2.2 = 0))), (27, Bo (!decide ((serveTell s).2.2 = 0))), (31, Bo (!(decide (r.head.epoch = s.head.epoch) && decide (r.head.root = s.head.root) && decide (r.head.prev = s.head.prev) && decide (r.head.at_ = s.head.at_)))), (46, Bo ((((serveTell r).1 == (serveTell s).1)) && ((((serveTell r).2.1) == ((serveTell s).2.1))))), (56, .agg #[Sr r.proof.name, Sl a1 r.proof.entries.length c1, Sl a2 r.proof.sides.length c2]), (58, .agg #[Sr s.proof.name, Sl a3 s.proof.entries.length c3, Sl a4 s.proof.sides.length c4])] ?_
            refine runL_callR 59 (clashProofs_con G2 [Sr r.proof.name, Sl a1 r.proof.entries.length c1, Sl a2 r.proof.sides.length c2] r.proof (⟨a1, c1, a2, c2, rfl, (by first | assumption | omega | (simp; done) | (simp; omega)), (hs1.mono (Mem.le_trans hl1 hl2)), (hs2.mono (Mem.le_trans hl1 hl2))⟩) [Sr s.proof.name, Sl a3 s.proof.entries.length c3, Sl a4 s.proof.sides.length c4] s.proof (⟨a3, c3, a4, c4, rfl, (by first | assumption | omega | (simp; done) | (simp; omega)), (hs3.mono (Mem.le_trans hl1 hl2)), (hs4.mono (Mem.le_trans hl1 hl2))⟩)) (fun v G3 L1 hl3 hp => ?_)
            obtain ⟨rfl, w13, w14, rfl⟩ := hp
            refine runL_b [0,0,0,0,0,0] [(2, Pt b1 0), (3, Pt b2 0), (4, Sr ((clashProofs r.proof s.proof).1)), (5, Sr ((clashProofs r.proof s.proof).2.1)), (6, I ((clashProofs r.proof s.proof).2.2)), (9, I ((serveTell s).2.2)), (19, Bo (!decide ((serveTell r).2.2 = 0))), (27, Bo (!decide ((serveTell s).2.2 = 0))), (31, Bo (!(decide (r.head.epoch = s.head.epoch) && decide (r.head.root = s.head.root) && decide (r.head.prev = s.head.prev) && decide (r.head.at_ = s.head.at_)))), (46, Bo ((((serveTell r).1 == (serveTell s).1)) && ((((serveTell r).2.1) == ((serveTell s).2.1)))))] ?_
            refine runL_nil ?_
            refine tq_then ?_
            refine tc_ret ?_
            have hf6 : serveAgainst r s = ((clashProofs r.proof s.proof).1, (clashProofs r.proof s.proof).2.1, (clashProofs r.proof s.proof).2.2) := by
              unfold serveAgainst; simp only [HeadD_ne]; first | (simp_all; done) | (simp_all; grind)
            refine tq_ret [0, 0, 0] [Sr ((clashProofs r.proof s.proof).1), Sr ((clashProofs r.proof s.proof).2.1), I ((clashProofs r.proof s.proof).2.2)] (bp_rows [] (.cons _ (.cons _ .slnil)) (Mem.le_trans (Mem.le_trans hl1 hl2) hl3) ?_)
            rw [hf6]
            try dsimp only
            exact ⟨rfl, w13, w14, rfl⟩

theorem serves_con (G : Mem)   : Con Tryz.prog 12 #[] G [] (fun u G' L' => u = Bo true) := by
  refine con_of Tryz.func12 22 [] rfl (fun w0 G0 => ?_)
  refine tc_rb [0] [(0, Bo false)] ?_
  refine tc_seq ?_
  refine tc_region ?_
  refine runL_callR 6 (clerkNew_con G 1 (by first | assumption | omega | (simp; done) | (simp; omega)) 1 (by first | assumption | omega | (simp; done) | (simp; omega)) 1 (by first | assumption | omega | (simp; done) | (simp; omega))) (fun v G1 L1 hl1 hp => ?_)
  obtain ⟨a1, c1, a2, c2, a3, c3, rfl, w1, hs1, w2, w3, w4, hs2, hs3, rfl⟩ := hp
  refine runL_b [0,0,0] [(0, Bo false), (7, .agg #[I (((clerkNew 1 1 1).1).queue.most), Sl a1 ((((clerkNew 1 1 1).1).queue.wait).length) c1, I (((clerkNew 1 1 1).1).batch), I (((clerkNew 1 1 1).1).every), I (((clerkNew 1 1 1).1).now), Sl a2 ((((clerkNew 1 1 1).1).heads).length) c2, Sl a3 ((((clerkNew 1 1 1).1).books).length) c3]), (8, I ((clerkNew 1 1 1).2))] ?_
  refine runL_box 1 #[I 0, Sl none 0 0, I 0, I 0, I 0, Sl none 0 0, Sl none 0 0] 28 (fun b1 => ?_)
  refine runL_bs [3,0] [(0, Bo false), (1, Pt b1 0)] [[Sg b1 0 [I (((clerkNew 1 1 1).1).queue.most), Sl a1 ((((clerkNew 1 1 1).1).queue.wait).length) c1, I (((clerkNew 1 1 1).1).batch), I (((clerkNew 1 1 1).1).every), I (((clerkNew 1 1 1).1).now), Sl a2 ((((clerkNew 1 1 1).1).heads).length) c2, Sl a3 ((((clerkNew 1 1 1).1).books).length) c3]]] ?_
  refine runL_nil ?_
  refine tq_then ?_
  refine tc_seq ?_
  refine tc_region ?_
  refine runL_b [2] [(0, Bo false), (10, .agg #[I (((clerkNew 1 1 1).1).queue.most), Sl a1 ((((clerkNew 1 1 1).1).queue.wait).length) c1, I (((clerkNew 1 1 1).1).batch), I (((clerkNew 1 1 1).1).every), I (((clerkNew 1 1 1).1).now), Sl a2 ((((clerkNew 1 1 1).1).heads).length) c2, Sl a3 ((((clerkNew 1 1 1).1).books).length) c3])] ?_
  refine runL_callR 11 (serveLook_con G1 [I (((clerkNew 1 1 1).1).queue.most), Sl a1 ((((clerkNew 1 1 1).1).queue.wait).length) c1, I (((clerkNew 1 1 1).1).batch), I (((clerkNew 1 1 1).1).every), I (((clerkNew 1 1 1).1).now), Sl a2 ((((clerkNew 1 1 1).1).heads).length) c2, Sl a3 ((((clerkNew 1 1 1).1).books).length) c3] (((clerkNew 1 1 1).1)) (⟨a1, c1, a2, c2, a3, c3, rfl, w1, hs1, w2, w3, w4, hs2, hs3⟩) ([97]) (Nat.le_of_ble_eq_true rfl) 0 (by first | assumption | omega | (simp; done) | (simp; omega))) (fun v G2 L1 hl2 hp => ?_)
  obtain ⟨a4, c4, a5, c5, rfl, w5, w6, w7, w8, w9, hs4, hs5, rfl⟩ := hp
  refine runL_b [0,0,0] [(0, Bo false), (12, .agg #[I (((serveLook (((clerkNew 1 1 1).1)) ([97]) 0).1).head.epoch), U (((serveLook (((clerkNew 1 1 1).1)) ([97]) 0).1).head.root), U (((serveLook (((clerkNew 1 1 1).1)) ([97]) 0).1).head.prev), I (((serveLook (((clerkNew 1 1 1).1)) ([97]) 0).1).head.at_), Sr (((serveLook (((clerkNew 1 1 1).1)) ([97]) 0).1).proof.name), Sl a4 ((((serveLook (((clerkNew 1 1 1).1)) ([97]) 0).1).proof.entries).length) c4, Sl a5 ((((serveLook (((clerkNew 1 1 1).1)) ([97]) 0).1).proof.sides).length) c5]), (13, I ((serveLook (((clerkNew 1 1 1).1)) ([97]) 0).2))] ?_
  refine runL_box 3 #[I 0, U 0, U 0, I 0, Sr ([]), Sl none 0 0, Sl none 0 0] 38 (fun b2 => ?_)
  refine runL_bs [3,0] [(0, Bo false), (3, Pt b2 0), (4, I ((serveLook (((clerkNew 1 1 1).1)) ([97]) 0).2))] [[Sg b2 0 [I (((serveLook (((clerkNew 1 1 1).1)) ([97]) 0).1).head.epoch), U (((serveLook (((clerkNew 1 1 1).1)) ([97]) 0).1).head.root), U (((serveLook (((clerkNew 1 1 1).1)) ([97]) 0).1).head.prev), I (((serveLook (((clerkNew 1 1 1).1)) ([97]) 0).1).head.at_), Sr (((serveLook (((clerkNew 1 1 1).1)) ([97]) 0).1).proof.name), Sl a4 ((((serveLook (((clerkNew 1 1 1).1)) ([97]) 0).1).proof.entries).length) c4, Sl a5 ((((serveLook (((clerkNew 1 1 1).1)) ([97]) 0).1).proof.sides).length) c5]], [Sg b1 0 [I (((clerkNew 1 1 1).1).queue.most), Sl a1 ((((clerkNew 1 1 1).1).queue.wait).length) c1, I (((clerkNew 1 1 1).1).batch), I (((clerkNew 1 1 1).1).every), I (((clerkNew 1 1 1).1).now), Sl a2 ((((clerkNew 1 1 1).1).heads).length) c2, Sl a3 ((((clerkNew 1 1 1).1).books).length) c3]]] ?_
  refine runL_nil ?_
  refine tq_then ?_
  refine tc_seq ?_
  refine tc_region ?_
  refine runL_b [0,0,0] [(0, Bo false), (3, Pt b2 0), (16, Bo (decide ((serveLook (((clerkNew 1 1 1).1)) ([97]) 0).2 = 0)))] ?_
  refine runL_b2 (decide ((serveLook (((clerkNew 1 1 1).1)) ([97]) 0).2 = 0)) (fun bb => [(0, Bo false), (3, Pt b2 0), (16, Bo bb)]) [0,0,2,0,0] [1,1,1,1,0] (fun bb => [(0, Bo false), (21, Bo (bb && (((B (((serveLook (((clerkNew 1 1 1).1)) ([97]) 0).1).proof.name)).toList == (B ([97])).toList))))]) ?_
  refine runL_eq (fr' := [(0, Bo false), (21, Bo ((decide ((serveLook (((clerkNew 1 1 1).1)) ([97]) 0).2 = 0)) && ((((serveLook (((clerkNew 1 1 1).1)) ([97]) 0).1).proof.name == [97]))))]) (L' := [[Sg b2 0 [I (((serveLook (((clerkNew 1 1 1).1)) ([97]) 0).1).head.epoch), U (((serveLook (((clerkNew 1 1 1).1)) ([97]) 0).1).head.root), U (((serveLook (((clerkNew 1 1 1).1)) ([97]) 0).1).head.prev), I (((serveLook (((clerkNew 1 1 1).1)) ([97]) 0).1).head.at_), Sr (((serveLook (((clerkNew 1 1 1).1)) ([97]) 0).1).proof.name), Sl a4 ((((serveLook (((clerkNew 1 1 1).1)) ([97]) 0).1).proof.entries).length) c4, Sl a5 ((((serveLook (((clerkNew 1 1 1).1)) ([97]) 0).1).proof.sides).length) c5]], [Sg b1 0 [I (((clerkNew 1 1 1).1).queue.most), Sl a1 ((((clerkNew 1 1 1).1).queue.wait).length) c1, I (((clerkNew 1 1 1).1).batch), I (((clerkNew 1 1 1).1).every), I (((clerkNew 1 1 1).1).now), Sl a2 ((((clerkNew 1 1 1).1).heads).length) c2, Sl a3 ((((clerkNew 1 1 1).1).books).length) c3]]]) (by simp only [B_toList]) (by rfl) ?_
  refine runL_b [0] [(0, Bo ((decide ((serveLook (((clerkNew 1 1 1).1)) ([97]) 0).2 = 0)) && ((((serveLook (((clerkNew 1 1 1).1)) ([97]) 0).1).proof.name == [97]))))] ?_
  refine runL_nil ?_
  refine tq_then ?_
  refine tc_ret ?_
  refine tq_ret [0] [Bo ((decide ((serveLook (((clerkNew 1 1 1).1)) ([97]) 0).2 = 0)) && ((((serveLook (((clerkNew 1 1 1).1)) ([97]) 0).1).proof.name == [97])))] (bp_ret (Mem.le_trans hl1 hl2) ?_)
  have hf_ : ((decide ((serveLook (((clerkNew 1 1 1).1)) ([97]) 0).2 = 0)) && ((((serveLook (((clerkNew 1 1 1).1)) ([97]) 0).1).proof.name == [97]))) = true := by
    have q_ := serves_law; first | (simp [q_]; done) | (simp_all; done)
  exact congrArg Bo hf_

theorem serveHolds_con (G : Mem) (vs_c : List Value) (c : ClerkD) (h_c : EClerk.R G vs_c c) (name : List UInt8) (hw_name : (name).length ≤ 140737488351232) (epoch : Int) (hw_epoch : -9223372036854775808 ≤ epoch ∧ epoch < 9223372036854775808)  : Con Tryz.prog 3 #[.agg vs_c.toArray, Sr name, I epoch] G [] (fun u G' L' => u = Bo true) := by
  obtain ⟨a1, c1, a2, c2, a3, c3, rfl, w1, hs1, w2, w3, w4, hs2, hs3⟩ := h_c
  refine con_of Tryz.func3 79 [(0, .agg #[I c.queue.most, Sl a1 c.queue.wait.length c1, I c.batch, I c.every, I c.now, Sl a2 c.heads.length c2, Sl a3 c.books.length c3]), (1, Sr name), (2, I epoch)] rfl (fun w0 G0 => ?_)
  refine tc_seq ?_
  refine tc_region ?_
  refine runL_box 3 #[I c.queue.most, Sl a1 c.queue.wait.length c1, I c.batch, I c.every, I c.now, Sl a2 c.heads.length c2, Sl a3 c.books.length c3] 28 (fun b1 => ?_)
  refine runL_b [0] [(1, Sr name), (2, I epoch), (3, Pt b1 0), (6, Bo false)] ?_
  refine runL_nil ?_
  refine tq_then ?_
  refine tc_seq ?_
  refine tc_seq ?_
  refine tc_region ?_
  refine runL_callV 17 (Bo true) (serves_con G) ?_
  refine runL_b [0] [(1, Sr name), (2, I epoch), (3, Pt b1 0), (6, Bo false), (18, Bo false)] ?_
  refine runL_nil ?_
  refine tq_then ?_
  refine tc_cond_false ?_
  refine tc_skip ?_
  refine tq_then ?_
  refine tc_seq ?_
  refine tc_region ?_
  refine runL_b [2,0,0] [(1, Sr name), (2, I epoch), (3, Pt b1 0), (6, Bo false), (18, Bo false), (20, .agg #[I c.queue.most, Sl a1 c.queue.wait.length c1, I c.batch, I c.every, I c.now, Sl a2 c.heads.length c2, Sl a3 c.books.length c3]), (21, Sr name), (22, I epoch)] ?_
  refine runL_callR 23 (serveLook_con G [I c.queue.most, Sl a1 c.queue.wait.length c1, I c.batch, I c.every, I c.now, Sl a2 c.heads.length c2, Sl a3 c.books.length c3] c (⟨a1, c1, a2, c2, a3, c3, rfl, w1, hs1, w2, w3, w4, hs2, hs3⟩) name hw_name epoch hw_epoch) (fun v G1 L1 hl1 hp => ?_)
  obtain ⟨a4, c4, a5, c5, rfl, w5, w6, w7, w8, w9, hs4, hs5, rfl⟩ := hp
  refine runL_b [0,0,0] [(1, Sr name), (2, I epoch), (3, Pt b1 0), (6, Bo false), (18, Bo false), (24, .agg #[I (((serveLook c name epoch).1).head.epoch), U (((serveLook c name epoch).1).head.root), U (((serveLook c name epoch).1).head.prev), I (((serveLook c name epoch).1).head.at_), Sr (((serveLook c name epoch).1).proof.name), Sl a4 ((((serveLook c name epoch).1).proof.entries).length) c4, Sl a5 ((((serveLook c name epoch).1).proof.sides).length) c5]), (25, I ((serveLook c name epoch).2))] ?_
  refine runL_box 7 #[I 0, U 0, U 0, I 0, Sr ([]), Sl none 0 0, Sl none 0 0] 38 (fun b2 => ?_)
  refine runL_bs [3,0] [(1, Sr name), (2, I epoch), (3, Pt b1 0), (6, Bo false), (7, Pt b2 0), (8, I ((serveLook c name epoch).2)), (18, Bo false)] [[Sg b2 0 [I (((serveLook c name epoch).1).head.epoch), U (((serveLook c name epoch).1).head.root), U (((serveLook c name epoch).1).head.prev), I (((serveLook c name epoch).1).head.at_), Sr (((serveLook c name epoch).1).proof.name), Sl a4 ((((serveLook c name epoch).1).proof.entries).length) c4, Sl a5 ((((serveLook c name epoch).1).proof.sides).length) c5]], [Sg b1 0 [I c.queue.most, Sl a1 c.queue.wait.length c1, I c.batch, I c.every, I c.now, Sl a2 c.heads.length c2, Sl a3 c.books.length c3]]] ?_
  refine runL_nil ?_
  refine tq_then ?_
  refine tc_seq ?_
  refine tc_rb [0,0] [(1, Sr name), (2, I epoch), (3, Pt b1 0), (6, Bo false), (7, Pt b2 0), (18, Bo false), (27, Bo (!decide ((serveLook c name epoch).2 = 0)))] ?_
  refine tc_cond (!decide ((serveLook c name epoch).2 = 0)) (fun h1 => ?_) (fun h1 => ?_)
  ·
    try simp only [decide_eq_true_eq, decide_eq_false_iff_not, Bool.and_eq_true, Bool.or_eq_true, Bool.and_eq_false_imp, Bool.or_eq_false_iff, Bool.not_eq_true', Bool.not_eq_false', Bool.not_eq_true, Bool.not_eq_false, beq_iff_eq, beq_eq_false_iff_ne, bne_iff_ne, ne_eq, Decidable.not_not, Int.not_lt, Int.not_le] at h1
    refine tc_seq ?_
    refine tc_region ?_
    refine runL_b [0,0,2,0,0] [(1, Sr name), (2, I epoch), (3, Pt b1 0), (6, Bo false), (7, Pt b2 0), (18, Bo false), (27, Bo (!decide ((serveLook c name epoch).2 = 0))), (32, Bo (((B (((serveLook c name epoch).1).proof.name)).toList == (B ([])).toList)))] ?_
    refine runL_eq (fr' := [(1, Sr name), (2, I epoch), (3, Pt b1 0), (6, Bo false), (7, Pt b2 0), (18, Bo false), (27, Bo (!decide ((serveLook c name epoch).2 = 0))), (32, Bo ((((serveLook c name epoch).1).proof.name == [])))]) (L' := [[Sg b2 0 [I (((serveLook c name epoch).1).head.epoch), U (((serveLook c name epoch).1).head.root), U (((serveLook c name epoch).1).head.prev), I (((serveLook c name epoch).1).head.at_), Sr (((serveLook c name epoch).1).proof.name), Sl a4 ((((serveLook c name epoch).1).proof.entries).length) c4, Sl a5 ((((serveLook c name epoch).1).proof.sides).length) c5]], [Sg b1 0 [I c.queue.most, Sl a1 c.queue.wait.length c1, I c.batch, I c.every, I c.now, Sl a2 c.heads.length c2, Sl a3 c.books.length c3]]]) (by simp only [B_toList]) (by rfl) ?_
    refine runL_cases (fun bb => [(1, Sr name), (2, I epoch), (3, Pt b1 0), (6, Bo false), (7, Pt b2 0), (18, Bo false), (27, Bo (!decide ((serveLook c name epoch).2 = 0))), (32, Bo bb)]) ((((serveLook c name epoch).1).proof.name == [])) (fun h2 => ?_) (fun h2 => ?_)
    ·
      try simp only [decide_eq_true_eq, decide_eq_false_iff_not, Bool.and_eq_true, Bool.or_eq_true, Bool.and_eq_false_imp, Bool.or_eq_false_iff, Bool.not_eq_true', Bool.not_eq_false', Bool.not_eq_true, Bool.not_eq_false, beq_iff_eq, beq_eq_false_iff_ne, bne_iff_ne, ne_eq, Decidable.not_not, Int.not_lt, Int.not_le] at h2
      refine runL_b [0,2,0] [(1, Sr name), (2, I epoch), (3, Pt b1 0), (6, Bo false), (7, Pt b2 0), (18, Bo false), (27, Bo (!decide ((serveLook c name epoch).2 = 0))), (32, Bo true), (34, .agg #[I (((serveLook c name epoch).1).head.epoch), U (((serveLook c name epoch).1).head.root), U (((serveLook c name epoch).1).head.prev), I (((serveLook c name epoch).1).head.at_)]), (35, .agg #[I 0, U 0, U 0, I 0])] ?_
      refine runL_eqv 36 (Bo ((decide (((serveLook c name epoch).1).head.epoch = 0) && (decide (((serveLook c name epoch).1).head.root = 0) && (decide (((serveLook c name epoch).1).head.prev = 0) && (decide (((serveLook c name epoch).1).head.at_ = 0) && true)))))) (Bo (decide (((serveLook c name epoch).1).head.epoch = 0) && decide (((serveLook c name epoch).1).head.root = 0) && decide (((serveLook c name epoch).1).head.prev = 0) && decide (((serveLook c name epoch).1).head.at_ = 0))) (by simp [B_toList, Bool.and_assoc]) ?_
      refine runL_b [0,0] [(1, Sr name), (2, I epoch), (3, Pt b1 0), (6, Bo (decide (((serveLook c name epoch).1).head.epoch = 0) && decide (((serveLook c name epoch).1).head.root = 0) && decide (((serveLook c name epoch).1).head.prev = 0) && decide (((serveLook c name epoch).1).head.at_ = 0))), (7, Pt b2 0), (18, Bo false), (27, Bo (!decide ((serveLook c name epoch).2 = 0)))] ?_
      refine runL_nil ?_
      refine tq_then ?_
      refine tc_ret ?_
      refine tq_then_ret ?_
      refine tq_ret [0] [Bo (decide (((serveLook c name epoch).1).head.epoch = 0) && decide (((serveLook c name epoch).1).head.root = 0) && decide (((serveLook c name epoch).1).head.prev = 0) && decide (((serveLook c name epoch).1).head.at_ = 0))] (bp_ret hl1 ?_)
      have hf_ : (decide (((serveLook c name epoch).1).head.epoch = 0) && decide (((serveLook c name epoch).1).head.root = 0) && decide (((serveLook c name epoch).1).head.prev = 0) && decide (((serveLook c name epoch).1).head.at_ = 0)) = true := by
        first | (have q_ := look_err (by assumption); simp [q_, replyZ, headZ, proofZ]; done) | (have q_ := look_err (by assumption); simp_all [replyZ, headZ, proofZ]; done) | (obtain ⟨q1_, q2_, q3_, q4_⟩ := look_law (c := c) (name := name) (e := epoch) (by assumption); simp_all; done)
      exact congrArg Bo hf_
    ·
      try simp only [decide_eq_true_eq, decide_eq_false_iff_not, Bool.and_eq_true, Bool.or_eq_true, Bool.and_eq_false_imp, Bool.or_eq_false_iff, Bool.not_eq_true', Bool.not_eq_false', Bool.not_eq_true, Bool.not_eq_false, beq_iff_eq, beq_eq_false_iff_ne, bne_iff_ne, ne_eq, Decidable.not_not, Int.not_lt, Int.not_le] at h2
      refine runL_b [1,1,1,1,0,0] [(1, Sr name), (2, I epoch), (3, Pt b1 0), (6, Bo false), (7, Pt b2 0), (18, Bo false), (27, Bo (!decide ((serveLook c name epoch).2 = 0)))] ?_
      refine runL_nil ?_
      refine tq_then ?_
      refine tc_ret ?_
      refine tq_then_ret ?_
      refine tq_ret [0] [Bo false] (bp_ret hl1 ?_)
      exfalso
      first | (have q_ := look_err (by assumption); simp [q_, replyZ, headZ, proofZ]; done) | (have q_ := look_err (by assumption); simp_all [replyZ, headZ, proofZ]; done) | (obtain ⟨q1_, q2_, q3_, q4_⟩ := look_law (c := c) (name := name) (e := epoch) (by assumption); simp_all; done)
  ·
    try simp only [decide_eq_true_eq, decide_eq_false_iff_not, Bool.and_eq_true, Bool.or_eq_true, Bool.and_eq_false_imp, Bool.or_eq_false_iff, Bool.not_eq_true', Bool.not_eq_false', Bool.not_eq_true, Bool.not_eq_false, beq_iff_eq, beq_eq_false_iff_ne, bne_iff_ne, ne_eq, Decidable.not_not, Int.not_lt, Int.not_le] at h1
    refine tc_skip ?_
    refine tq_then ?_
    refine tc_seq ?_
    refine tc_region ?_
    refine runL_b [2] [(1, Sr name), (2, I epoch), (3, Pt b1 0), (6, Bo false), (7, Pt b2 0), (18, Bo false), (27, Bo (!decide ((serveLook c name epoch).2 = 0))), (39, .agg #[I (((serveLook c name epoch).1).head.epoch), U (((serveLook c name epoch).1).head.root), U (((serveLook c name epoch).1).head.prev), I (((serveLook c name epoch).1).head.at_), Sr (((serveLook c name epoch).1).proof.name), Sl a4 ((((serveLook c name epoch).1).proof.entries).length) c4, Sl a5 ((((serveLook c name epoch).1).proof.sides).length) c5])] ?_
    refine runL_callR 40 (serveTell_con G1 [I (((serveLook c name epoch).1).head.epoch), U (((serveLook c name epoch).1).head.root), U (((serveLook c name epoch).1).head.prev), I (((serveLook c name epoch).1).head.at_), Sr (((serveLook c name epoch).1).proof.name), Sl a4 ((((serveLook c name epoch).1).proof.entries).length) c4, Sl a5 ((((serveLook c name epoch).1).proof.sides).length) c5] (((serveLook c name epoch).1)) (⟨a4, c4, a5, c5, rfl, w5, w6, w7, w8, w9, hs4, hs5⟩)) (fun v G2 L1 hl2 hp => ?_)
    obtain ⟨rfl, w10, rfl⟩ := hp
    refine runL_b [0,0,0,0,0,0,0] [(1, Sr name), (2, I epoch), (3, Pt b1 0), (6, Bo false), (7, Pt b2 0), (9, Sr ((serveTell (((serveLook c name epoch).1))).1)), (10, Bo ((serveTell (((serveLook c name epoch).1))).2.1)), (11, I ((serveTell (((serveLook c name epoch).1))).2.2)), (18, Bo false), (27, Bo (!decide ((serveLook c name epoch).2 = 0)))] ?_
    refine runL_nil ?_
    refine tq_then ?_
    refine tc_seq ?_
    refine tc_region ?_
    refine runL_b [4,0] [(1, Sr name), (2, I epoch), (3, Pt b1 0), (6, Bo false), (7, Pt b2 0), (9, Sr ((serveTell (((serveLook c name epoch).1))).1)), (10, Bo ((serveTell (((serveLook c name epoch).1))).2.1)), (11, I ((serveTell (((serveLook c name epoch).1))).2.2)), (18, Bo false), (27, Bo (!decide ((serveLook c name epoch).2 = 0))), (45, .agg #[I c.queue.most, Sl a1 c.queue.wait.length c1, I c.batch, I c.every, I c.now, Sl a2 c.heads.length c2, Sl a3 c.books.length c3]), (46, I epoch)] ?_
    refine runL_callR 47 (clerkBook_con G2 [I c.queue.most, Sl a1 c.queue.wait.length c1, I c.batch, I c.every, I c.now, Sl a2 c.heads.length c2, Sl a3 c.books.length c3] c (⟨a1, c1, a2, c2, a3, c3, rfl, w1, (hs1.mono (Mem.le_trans hl1 hl2)), w2, w3, w4, (hs2.mono (Mem.le_trans hl1 hl2)), (hs3.mono (Mem.le_trans hl1 hl2))⟩) epoch hw_epoch) (fun v G3 L1 hl3 hp => ?_)
    obtain ⟨a6, c6, r1, rfl, hr1, rfl⟩ := hp
    refine runL_b [0,0,0,0,0] [(1, Sr name), (2, I epoch), (3, Pt b1 0), (6, Bo false), (7, Pt b2 0), (9, Sr ((serveTell (((serveLook c name epoch).1))).1)), (10, Bo ((serveTell (((serveLook c name epoch).1))).2.1)), (11, I ((serveTell (((serveLook c name epoch).1))).2.2)), (12, Sl a6 (((clerkBook c epoch).1).length) c6), (13, I ((clerkBook c epoch).2)), (18, Bo false), (27, Bo (!decide ((serveLook c name epoch).2 = 0)))] ?_
    refine runL_nil ?_
    refine tq_then ?_
    refine tc_seq ?_
    refine tc_region ?_
    refine runL_b [0,0] [(1, Sr name), (2, I epoch), (3, Pt b1 0), (6, Bo false), (7, Pt b2 0), (9, Sr ((serveTell (((serveLook c name epoch).1))).1)), (10, Bo ((serveTell (((serveLook c name epoch).1))).2.1)), (11, I ((serveTell (((serveLook c name epoch).1))).2.2)), (13, I ((clerkBook c epoch).2)), (18, Bo false), (27, Bo (!decide ((serveLook c name epoch).2 = 0))), (51, Sl a6 (((clerkBook c epoch).1).length) c6), (52, Sr name)] ?_
    refine runL_frzR (E := EEnt) 0 hr1 (by have q_ := book_len c epoch; simp only [EEnt]; omega) (fun G4 hl4 hs6 => ?_)
    refine runL_callR 53 (treeGet_con G4 a6 c6 ((clerkBook c epoch).1) hs6 name hw_name) (fun v G5 L1 hl5 hp => ?_)
    obtain ⟨rfl, w11, rfl⟩ := hp
    refine runL_b [0,0,0,0,0,0,0] [(1, Sr name), (2, I epoch), (3, Pt b1 0), (6, Bo false), (7, Pt b2 0), (9, Sr ((serveTell (((serveLook c name epoch).1))).1)), (10, Bo ((serveTell (((serveLook c name epoch).1))).2.1)), (11, I ((serveTell (((serveLook c name epoch).1))).2.2)), (13, I ((clerkBook c epoch).2)), (14, Sr ((treeGet ((clerkBook c epoch).1) name).1)), (15, Bo ((treeGet ((clerkBook c epoch).1) name).2.1)), (16, I ((treeGet ((clerkBook c epoch).1) name).2.2)), (18, Bo false), (27, Bo (!decide ((serveLook c name epoch).2 = 0)))] ?_
    refine runL_nil ?_
    refine tq_then ?_
    refine tc_seq ?_
    refine tc_region ?_
    refine runL_b [0,0,0] [(1, Sr name), (2, I epoch), (3, Pt b1 0), (6, Bo false), (7, Pt b2 0), (9, Sr ((serveTell (((serveLook c name epoch).1))).1)), (10, Bo ((serveTell (((serveLook c name epoch).1))).2.1)), (14, Sr ((treeGet ((clerkBook c epoch).1) name).1)), (15, Bo ((treeGet ((clerkBook c epoch).1) name).2.1)), (18, Bo false), (27, Bo (!decide ((serveLook c name epoch).2 = 0))), (57, I ((serveTell (((serveLook c name epoch).1))).2.2)), (58, I ((clerkBook c epoch).2)), (59, I ((treeGet ((clerkBook c epoch).1) name).2.2))] ?_
    refine runL_bsl 60 3 #[I ((serveTell (((serveLook c name epoch).1))).2.2), I ((clerkBook c epoch).2), I ((treeGet ((clerkBook c epoch).1) name).2.2)] 39 (fun b3 => ?_)
    refine runL_frz1 (b := b3) (o := 0) (cs := [I ((serveTell (((serveLook c name epoch).1))).2.2), I ((clerkBook c epoch).2), I ((treeGet ((clerkBook c epoch).1) name).2.2)]) 0 (fun G6 hl6 hz1 => ?_)
    have hs7 : RS EErr G6 (At b3 0) 3 [(serveTell (((serveLook c name epoch).1))).2.2, (clerkBook c epoch).2, (treeGet ((clerkBook c epoch).1) name).2.2] := RS.lit [[I ((serveTell (((serveLook c name epoch).1))).2.2)], [I ((clerkBook c epoch).2)], [I ((treeGet ((clerkBook c epoch).1) name).2.2)]] [(serveTell (((serveLook c name epoch).1))).2.2, (clerkBook c epoch).2, (treeGet ((clerkBook c epoch).1) name).2.2] ⟨rfl, ⟨rfl, ⟨rfl, trivial⟩⟩⟩ hz1 (Nat.le_of_ble_eq_true rfl) (Nat.le_of_ble_eq_true rfl)
    refine runL_callV 61 (Bo (!(([(serveTell (((serveLook c name epoch).1))).2.2, (clerkBook c epoch).2, (treeGet ((clerkBook c epoch).1) name).2.2]).any fun x0 => !decide (x0 = 0)))) (good_con G6 (At b3 0) 3 ([(serveTell (((serveLook c name epoch).1))).2.2, (clerkBook c epoch).2, (treeGet ((clerkBook c epoch).1) name).2.2]) hs7) ?_
    refine runL_b [0] [(1, Sr name), (2, I epoch), (3, Pt b1 0), (6, Bo false), (7, Pt b2 0), (9, Sr ((serveTell (((serveLook c name epoch).1))).1)), (10, Bo ((serveTell (((serveLook c name epoch).1))).2.1)), (14, Sr ((treeGet ((clerkBook c epoch).1) name).1)), (15, Bo ((treeGet ((clerkBook c epoch).1) name).2.1)), (18, Bo false), (27, Bo (!decide ((serveLook c name epoch).2 = 0))), (62, Bo (!(([(serveTell (((serveLook c name epoch).1))).2.2, (clerkBook c epoch).2, (treeGet ((clerkBook c epoch).1) name).2.2]).any fun x0 => !decide (x0 = 0))))] ?_
    refine runL_b2 (!(([(serveTell (((serveLook c name epoch).1))).2.2, (clerkBook c epoch).2, (treeGet ((clerkBook c epoch).1) name).2.2]).any fun x0 => !decide (x0 = 0))) (fun bb => [(1, Sr name), (2, I epoch), (3, Pt b1 0), (6, Bo false), (7, Pt b2 0), (9, Sr ((serveTell (((serveLook c name epoch).1))).1)), (10, Bo ((serveTell (((serveLook c name epoch).1))).2.1)), (14, Sr ((treeGet ((clerkBook c epoch).1) name).1)), (15, Bo ((treeGet ((clerkBook c epoch).1) name).2.1)), (18, Bo false), (27, Bo (!decide ((serveLook c name epoch).2 = 0))), (62, Bo bb)]) [0,0,0,0] [1,1,1,0] (fun bb => [(1, Sr name), (2, I epoch), (3, Pt b1 0), (6, Bo false), (7, Pt b2 0), (10, Bo ((serveTell (((serveLook c name epoch).1))).2.1)), (15, Bo ((treeGet ((clerkBook c epoch).1) name).2.1)), (18, Bo false), (27, Bo (!decide ((serveLook c name epoch).2 = 0))), (66, Bo (bb && (((B ((serveTell (((serveLook c name epoch).1))).1)).toList == (B ((treeGet ((clerkBook c epoch).1) name).1)).toList))))]) ?_
    refine runL_eq (fr' := [(1, Sr name), (2, I epoch), (3, Pt b1 0), (6, Bo false), (7, Pt b2 0), (10, Bo ((serveTell (((serveLook c name epoch).1))).2.1)), (15, Bo ((treeGet ((clerkBook c epoch).1) name).2.1)), (18, Bo false), (27, Bo (!decide ((serveLook c name epoch).2 = 0))), (66, Bo ((!(([(serveTell (((serveLook c name epoch).1))).2.2, (clerkBook c epoch).2, (treeGet ((clerkBook c epoch).1) name).2.2]).any fun x0 => !decide (x0 = 0))) && (((serveTell (((serveLook c name epoch).1))).1 == (treeGet ((clerkBook c epoch).1) name).1))))]) (L' := [[], [], [Sg b2 0 [I (((serveLook c name epoch).1).head.epoch), U (((serveLook c name epoch).1).head.root), U (((serveLook c name epoch).1).head.prev), I (((serveLook c name epoch).1).head.at_), Sr (((serveLook c name epoch).1).proof.name), Sl a4 ((((serveLook c name epoch).1).proof.entries).length) c4, Sl a5 ((((serveLook c name epoch).1).proof.sides).length) c5]], [Sg b1 0 [I c.queue.most, Sl a1 c.queue.wait.length c1, I c.batch, I c.every, I c.now, Sl a2 c.heads.length c2, Sl a3 c.books.length c3]]]) (by simp only [B_toList]) (by rfl) ?_
    refine runL_b [0] [(1, Sr name), (2, I epoch), (3, Pt b1 0), (6, Bo false), (7, Pt b2 0), (10, Bo ((serveTell (((serveLook c name epoch).1))).2.1)), (15, Bo ((treeGet ((clerkBook c epoch).1) name).2.1)), (18, Bo false), (27, Bo (!decide ((serveLook c name epoch).2 = 0))), (67, Bo ((!(([(serveTell (((serveLook c name epoch).1))).2.2, (clerkBook c epoch).2, (treeGet ((clerkBook c epoch).1) name).2.2]).any fun x0 => !decide (x0 = 0))) && (((serveTell (((serveLook c name epoch).1))).1 == (treeGet ((clerkBook c epoch).1) name).1))))] ?_
    refine runL_b2 ((!(([(serveTell (((serveLook c name epoch).1))).2.2, (clerkBook c epoch).2, (treeGet ((clerkBook c epoch).1) name).2.2]).any fun x0 => !decide (x0 = 0))) && (((serveTell (((serveLook c name epoch).1))).1 == (treeGet ((clerkBook c epoch).1) name).1))) (fun bb => [(1, Sr name), (2, I epoch), (3, Pt b1 0), (6, Bo false), (7, Pt b2 0), (10, Bo ((serveTell (((serveLook c name epoch).1))).2.1)), (15, Bo ((treeGet ((clerkBook c epoch).1) name).2.1)), (18, Bo false), (27, Bo (!decide ((serveLook c name epoch).2 = 0))), (67, Bo bb)]) [0,0,0,0] [1,1,1,0] (fun bb => [(1, Sr name), (2, I epoch), (3, Pt b1 0), (6, Bo false), (7, Pt b2 0), (18, Bo false), (27, Bo (!decide ((serveLook c name epoch).2 = 0))), (71, Bo (bb && ((((serveTell (((serveLook c name epoch).1))).2.1) == ((treeGet ((clerkBook c epoch).1) name).2.1)))))]) ?_
    refine runL_b [0] [(1, Sr name), (2, I epoch), (3, Pt b1 0), (6, Bo false), (7, Pt b2 0), (18, Bo false), (27, Bo (!decide ((serveLook c name epoch).2 = 0))), (72, Bo (((!(([(serveTell (((serveLook c name epoch).1))).2.2, (clerkBook c epoch).2, (treeGet ((clerkBook c epoch).1) name).2.2]).any fun x0 => !decide (x0 = 0))) && (((serveTell (((serveLook c name epoch).1))).1 == (treeGet ((clerkBook c epoch).1) name).1))) && ((((serveTell (((serveLook c name epoch).1))).2.1) == ((treeGet ((clerkBook c epoch).1) name).2.1)))))] ?_
    refine runL_b2 (((!(([(serveTell (((serveLook c name epoch).1))).2.2, (clerkBook c epoch).2, (treeGet ((clerkBook c epoch).1) name).2.2]).any fun x0 => !decide (x0 = 0))) && (((serveTell (((serveLook c name epoch).1))).1 == (treeGet ((clerkBook c epoch).1) name).1))) && ((((serveTell (((serveLook c name epoch).1))).2.1) == ((treeGet ((clerkBook c epoch).1) name).2.1)))) (fun bb => [(1, Sr name), (2, I epoch), (3, Pt b1 0), (6, Bo false), (7, Pt b2 0), (18, Bo false), (27, Bo (!decide ((serveLook c name epoch).2 = 0))), (72, Bo bb)]) [0,0,6,0,0,0] [1,1,1,1,1,0] (fun bb => [(1, Sr name), (2, I epoch), (3, Pt b1 0), (6, Bo false), (7, Pt b2 0), (18, Bo false), (27, Bo (!decide ((serveLook c name epoch).2 = 0))), (78, Bo (bb && (decide (((serveLook c name epoch).1).head.epoch = epoch))))]) ?_
    refine runL_b [0] [(1, Sr name), (2, I epoch), (3, Pt b1 0), (6, Bo ((((!(([(serveTell (((serveLook c name epoch).1))).2.2, (clerkBook c epoch).2, (treeGet ((clerkBook c epoch).1) name).2.2]).any fun x0 => !decide (x0 = 0))) && (((serveTell (((serveLook c name epoch).1))).1 == (treeGet ((clerkBook c epoch).1) name).1))) && ((((serveTell (((serveLook c name epoch).1))).2.1) == ((treeGet ((clerkBook c epoch).1) name).2.1)))) && (decide (((serveLook c name epoch).1).head.epoch = epoch)))), (7, Pt b2 0), (18, Bo false), (27, Bo (!decide ((serveLook c name epoch).2 = 0)))] ?_
    refine runL_nil ?_
    refine tq_then ?_
    refine tc_ret ?_
    refine tq_ret [0] [Bo ((((!(([(serveTell (((serveLook c name epoch).1))).2.2, (clerkBook c epoch).2, (treeGet ((clerkBook c epoch).1) name).2.2]).any fun x0 => !decide (x0 = 0))) && (((serveTell (((serveLook c name epoch).1))).1 == (treeGet ((clerkBook c epoch).1) name).1))) && ((((serveTell (((serveLook c name epoch).1))).2.1) == ((treeGet ((clerkBook c epoch).1) name).2.1)))) && (decide (((serveLook c name epoch).1).head.epoch = epoch)))] (bp_ret (Mem.le_trans (Mem.le_trans (Mem.le_trans (Mem.le_trans (Mem.le_trans hl1 hl2) hl3) hl4) hl5) hl6) ?_)
    have hf_ : ((((!(([(serveTell (((serveLook c name epoch).1))).2.2, (clerkBook c epoch).2, (treeGet ((clerkBook c epoch).1) name).2.2]).any fun x0 => !decide (x0 = 0))) && (((serveTell (((serveLook c name epoch).1))).1 == (treeGet ((clerkBook c epoch).1) name).1))) && ((((serveTell (((serveLook c name epoch).1))).2.1) == ((treeGet ((clerkBook c epoch).1) name).2.1)))) && (decide (((serveLook c name epoch).1).head.epoch = epoch))) = true := by
      first | (have q_ := look_err (by assumption); simp [q_, replyZ, headZ, proofZ]; done) | (have q_ := look_err (by assumption); simp_all [replyZ, headZ, proofZ]; done) | (obtain ⟨q1_, q2_, q3_, q4_⟩ := look_law (c := c) (name := name) (e := epoch) (by assumption); simp_all; done)
    exact congrArg Bo hf_

theorem serveBinds_con (G : Mem) (vs_r : List Value) (r : ReplyD) (h_r : EReply.R G vs_r r) (vs_q : List Value) (q : ReplyD) (h_q : EReply.R G vs_q q)  : Con Tryz.prog 4 #[.agg vs_r.toArray, .agg vs_q.toArray] G [] (fun u G' L' => u = Bo true) := by
  obtain ⟨a1, c1, a2, c2, rfl, w1, w2, w3, w4, w5, hs1, hs2⟩ := h_r
  obtain ⟨a3, c3, a4, c4, rfl, w6, w7, w8, w9, w10, hs3, hs4⟩ := h_q
  refine con_of Tryz.func4 83 [(0, .agg #[I r.head.epoch, U r.head.root, U r.head.prev, I r.head.at_, Sr r.proof.name, Sl a1 r.proof.entries.length c1, Sl a2 r.proof.sides.length c2]), (1, .agg #[I q.head.epoch, U q.head.root, U q.head.prev, I q.head.at_, Sr q.proof.name, Sl a3 q.proof.entries.length c3, Sl a4 q.proof.sides.length c4])] rfl (fun w0 G0 => ?_)
  refine tc_seq ?_
  refine tc_region ?_
  refine runL_box 2 #[I r.head.epoch, U r.head.root, U r.head.prev, I r.head.at_, Sr r.proof.name, Sl a1 r.proof.entries.length c1, Sl a2 r.proof.sides.length c2] 38 (fun b1 => ?_)
  refine runL_box 3 #[I q.head.epoch, U q.head.root, U q.head.prev, I q.head.at_, Sr q.proof.name, Sl a3 q.proof.entries.length c3, Sl a4 q.proof.sides.length c4] 38 (fun b2 => ?_)
  refine runL_b [0] [(2, Pt b1 0), (3, Pt b2 0), (4, Bo false)] ?_
  refine runL_nil ?_
  refine tq_then ?_
  refine tc_seq ?_
  refine tc_seq ?_
  refine tc_region ?_
  refine runL_callV 14 (Bo true) (serves_con G) ?_
  refine runL_b [0] [(2, Pt b1 0), (3, Pt b2 0), (4, Bo false), (15, Bo false)] ?_
  refine runL_nil ?_
  refine tq_then ?_
  refine tc_cond_false ?_
  refine tc_skip ?_
  refine tq_then ?_
  refine tc_seq ?_
  refine tc_region ?_
  refine runL_b [4] [(2, Pt b1 0), (3, Pt b2 0), (4, Bo false), (15, Bo false), (17, .agg #[I r.head.epoch, U r.head.root, U r.head.prev, I r.head.at_, Sr r.proof.name, Sl a1 r.proof.entries.length c1, Sl a2 r.proof.sides.length c2])] ?_
  refine runL_callR 18 (serveTell_con G [I r.head.epoch, U r.head.root, U r.head.prev, I r.head.at_, Sr r.proof.name, Sl a1 r.proof.entries.length c1, Sl a2 r.proof.sides.length c2] r (⟨a1, c1, a2, c2, rfl, w1, w2, w3, w4, w5, hs1, hs2⟩)) (fun v G1 L1 hl1 hp => ?_)
  obtain ⟨rfl, w11, rfl⟩ := hp
  refine runL_b [0,0,0,0,0,0,0] [(2, Pt b1 0), (3, Pt b2 0), (4, Bo false), (5, Sr ((serveTell r).1)), (6, Bo ((serveTell r).2.1)), (7, I ((serveTell r).2.2)), (15, Bo false)] ?_
  refine runL_nil ?_
  refine tq_then ?_
  refine tc_seq ?_
  refine tc_region ?_
  refine runL_b [2] [(2, Pt b1 0), (3, Pt b2 0), (4, Bo false), (5, Sr ((serveTell r).1)), (6, Bo ((serveTell r).2.1)), (7, I ((serveTell r).2.2)), (15, Bo false), (23, .agg #[I q.head.epoch, U q.head.root, U q.head.prev, I q.head.at_, Sr q.proof.name, Sl a3 q.proof.entries.length c3, Sl a4 q.proof.sides.length c4])] ?_
  refine runL_callR 24 (serveTell_con G1 [I q.head.epoch, U q.head.root, U q.head.prev, I q.head.at_, Sr q.proof.name, Sl a3 q.proof.entries.length c3, Sl a4 q.proof.sides.length c4] q (⟨a3, c3, a4, c4, rfl, w6, w7, w8, w9, w10, (hs3.mono hl1), (hs4.mono hl1)⟩)) (fun v G2 L1 hl2 hp => ?_)
  obtain ⟨rfl, w12, rfl⟩ := hp
  refine runL_b [0,0,0,0,0,0,0] [(2, Pt b1 0), (3, Pt b2 0), (4, Bo false), (5, Sr ((serveTell r).1)), (6, Bo ((serveTell r).2.1)), (7, I ((serveTell r).2.2)), (8, Sr ((serveTell q).1)), (9, Bo ((serveTell q).2.1)), (10, I ((serveTell q).2.2)), (15, Bo false)] ?_
  refine runL_nil ?_
  refine tq_then ?_
  refine tc_seq ?_
  refine tc_region ?_
  refine runL_b [4,2] [(2, Pt b1 0), (3, Pt b2 0), (4, Bo false), (5, Sr ((serveTell r).1)), (6, Bo ((serveTell r).2.1)), (7, I ((serveTell r).2.2)), (8, Sr ((serveTell q).1)), (9, Bo ((serveTell q).2.1)), (10, I ((serveTell q).2.2)), (15, Bo false), (29, .agg #[I r.head.epoch, U r.head.root, U r.head.prev, I r.head.at_, Sr r.proof.name, Sl a1 r.proof.entries.length c1, Sl a2 r.proof.sides.length c2]), (30, .agg #[I q.head.epoch, U q.head.root, U q.head.prev, I q.head.at_, Sr q.proof.name, Sl a3 q.proof.entries.length c3, Sl a4 q.proof.sides.length c4])] ?_
  refine runL_callR 31 (serveAgainst_con G2 [I r.head.epoch, U r.head.root, U r.head.prev, I r.head.at_, Sr r.proof.name, Sl a1 r.proof.entries.length c1, Sl a2 r.proof.sides.length c2] r (⟨a1, c1, a2, c2, rfl, w1, w2, w3, w4, w5, (hs1.mono (Mem.le_trans hl1 hl2)), (hs2.mono (Mem.le_trans hl1 hl2))⟩) [I q.head.epoch, U q.head.root, U q.head.prev, I q.head.at_, Sr q.proof.name, Sl a3 q.proof.entries.length c3, Sl a4 q.proof.sides.length c4] q (⟨a3, c3, a4, c4, rfl, w6, w7, w8, w9, w10, (hs3.mono (Mem.le_trans hl1 hl2)), (hs4.mono (Mem.le_trans hl1 hl2))⟩)) (fun v G3 L1 hl3 hp => ?_)
  obtain ⟨rfl, w13, w14, rfl⟩ := hp
  refine runL_b [0,0,0,0,0,0,0] [(2, Pt b1 0), (3, Pt b2 0), (4, Bo false), (5, Sr ((serveTell r).1)), (6, Bo ((serveTell r).2.1)), (7, I ((serveTell r).2.2)), (8, Sr ((serveTell q).1)), (9, Bo ((serveTell q).2.1)), (10, I ((serveTell q).2.2)), (11, Sr ((serveAgainst r q).1)), (12, Sr ((serveAgainst r q).2.1)), (13, I ((serveAgainst r q).2.2)), (15, Bo false)] ?_
  refine runL_nil ?_
  refine tq_then ?_
  refine tc_seq ?_
  refine tc_seq ?_
  refine tc_region ?_
  refine runL_b [0,0] [(2, Pt b1 0), (3, Pt b2 0), (4, Bo false), (5, Sr ((serveTell r).1)), (6, Bo ((serveTell r).2.1)), (8, Sr ((serveTell q).1)), (9, Bo ((serveTell q).2.1)), (11, Sr ((serveAgainst r q).1)), (12, Sr ((serveAgainst r q).2.1)), (13, I ((serveAgainst r q).2.2)), (15, Bo false), (35, I ((serveTell r).2.2)), (36, I ((serveTell q).2.2))] ?_
  refine runL_bsl 37 2 #[I ((serveTell r).2.2), I ((serveTell q).2.2)] 39 (fun b3 => ?_)
  refine runL_frz1 (b := b3) (o := 0) (cs := [I ((serveTell r).2.2), I ((serveTell q).2.2)]) 0 (fun G4 hl4 hz1 => ?_)
  have hs5 : RS EErr G4 (At b3 0) 2 [(serveTell r).2.2, (serveTell q).2.2] := RS.lit [[I ((serveTell r).2.2)], [I ((serveTell q).2.2)]] [(serveTell r).2.2, (serveTell q).2.2] ⟨rfl, ⟨rfl, trivial⟩⟩ hz1 (Nat.le_of_ble_eq_true rfl) (Nat.le_of_ble_eq_true rfl)
  refine runL_callV 38 (Bo (!(([(serveTell r).2.2, (serveTell q).2.2]).any fun x0 => !decide (x0 = 0)))) (good_con G4 (At b3 0) 2 ([(serveTell r).2.2, (serveTell q).2.2]) hs5) ?_
  refine runL_b [0,0] [(2, Pt b1 0), (3, Pt b2 0), (4, Bo false), (5, Sr ((serveTell r).1)), (6, Bo ((serveTell r).2.1)), (8, Sr ((serveTell q).1)), (9, Bo ((serveTell q).2.1)), (11, Sr ((serveAgainst r q).1)), (12, Sr ((serveAgainst r q).2.1)), (13, I ((serveAgainst r q).2.2)), (15, Bo false), (40, Bo (!(!(([(serveTell r).2.2, (serveTell q).2.2]).any fun x0 => !decide (x0 = 0)))))] ?_
  refine runL_cases (fun bb => [(2, Pt b1 0), (3, Pt b2 0), (4, Bo false), (5, Sr ((serveTell r).1)), (6, Bo ((serveTell r).2.1)), (8, Sr ((serveTell q).1)), (9, Bo ((serveTell q).2.1)), (11, Sr ((serveAgainst r q).1)), (12, Sr ((serveAgainst r q).2.1)), (13, I ((serveAgainst r q).2.2)), (15, Bo false), (40, Bo bb)]) (!(!(([(serveTell r).2.2, (serveTell q).2.2]).any fun x0 => !decide (x0 = 0)))) (fun h1 => ?_) (fun h1 => ?_)
  ·
    try simp only [decide_eq_true_eq, decide_eq_false_iff_not, Bool.and_eq_true, Bool.or_eq_true, Bool.and_eq_false_imp, Bool.or_eq_false_iff, Bool.not_eq_true', Bool.not_eq_false', Bool.not_eq_true, Bool.not_eq_false, beq_iff_eq, beq_eq_false_iff_ne, bne_iff_ne, ne_eq, Decidable.not_not, Int.not_lt, Int.not_le] at h1
    refine runL_b [1,1,1,1,1,0,0,1,1,1,1,1,1,1,0] [(2, Pt b1 0), (3, Pt b2 0), (4, Bo false), (5, Sr ((serveTell r).1)), (6, Bo ((serveTell r).2.1)), (8, Sr ((serveTell q).1)), (9, Bo ((serveTell q).2.1)), (11, Sr ((serveAgainst r q).1)), (12, Sr ((serveAgainst r q).2.1)), (13, I ((serveAgainst r q).2.2)), (15, Bo false), (55, Bo true)] ?_
    refine runL_nil ?_
    refine tq_then ?_
    refine tc_cond_true ?_
    refine tc_seq ?_
    refine tc_region ?_
    refine runL_b [0,0,0] [(2, Pt b1 0), (3, Pt b2 0), (4, Bo false), (5, Sr ((serveTell r).1)), (6, Bo ((serveTell r).2.1)), (8, Sr ((serveTell q).1)), (9, Bo ((serveTell q).2.1)), (11, Sr ((serveAgainst r q).1)), (12, Sr ((serveAgainst r q).2.1)), (13, I ((serveAgainst r q).2.2)), (15, Bo false), (55, Bo true), (58, Bo (!decide ((serveAgainst r q).2.2 = 0)))] ?_
    refine runL_b2 (!decide ((serveAgainst r q).2.2 = 0)) (fun bb => [(2, Pt b1 0), (3, Pt b2 0), (4, Bo false), (5, Sr ((serveTell r).1)), (6, Bo ((serveTell r).2.1)), (8, Sr ((serveTell q).1)), (9, Bo ((serveTell q).2.1)), (11, Sr ((serveAgainst r q).1)), (12, Sr ((serveAgainst r q).2.1)), (13, I ((serveAgainst r q).2.2)), (15, Bo false), (55, Bo true), (58, Bo bb)]) [0,0,0] [1,1,0] (fun bb => [(2, Pt b1 0), (3, Pt b2 0), (4, Bo false), (5, Sr ((serveTell r).1)), (6, Bo ((serveTell r).2.1)), (8, Sr ((serveTell q).1)), (9, Bo ((serveTell q).2.1)), (11, Sr ((serveAgainst r q).1)), (12, Sr ((serveAgainst r q).2.1)), (13, I ((serveAgainst r q).2.2)), (15, Bo false), (55, Bo true), (61, Bo (bb && (((B ((serveAgainst r q).1)).toList == (B ([])).toList))))]) ?_
    refine runL_eq (fr' := [(2, Pt b1 0), (3, Pt b2 0), (4, Bo false), (5, Sr ((serveTell r).1)), (6, Bo ((serveTell r).2.1)), (8, Sr ((serveTell q).1)), (9, Bo ((serveTell q).2.1)), (11, Sr ((serveAgainst r q).1)), (12, Sr ((serveAgainst r q).2.1)), (13, I ((serveAgainst r q).2.2)), (15, Bo false), (55, Bo true), (61, Bo ((!decide ((serveAgainst r q).2.2 = 0)) && (((serveAgainst r q).1 == []))))]) (L' := [[], [Sg b2 0 [I q.head.epoch, U q.head.root, U q.head.prev, I q.head.at_, Sr q.proof.name, Sl a3 q.proof.entries.length c3, Sl a4 q.proof.sides.length c4]], [Sg b1 0 [I r.head.epoch, U r.head.root, U r.head.prev, I r.head.at_, Sr r.proof.name, Sl a1 r.proof.entries.length c1, Sl a2 r.proof.sides.length c2]]]) (by simp only [B_toList]) (by rfl) ?_
    refine runL_b [0] [(2, Pt b1 0), (3, Pt b2 0), (4, Bo false), (5, Sr ((serveTell r).1)), (6, Bo ((serveTell r).2.1)), (8, Sr ((serveTell q).1)), (9, Bo ((serveTell q).2.1)), (11, Sr ((serveAgainst r q).1)), (12, Sr ((serveAgainst r q).2.1)), (13, I ((serveAgainst r q).2.2)), (15, Bo false), (55, Bo true), (62, Bo ((!decide ((serveAgainst r q).2.2 = 0)) && (((serveAgainst r q).1 == []))))] ?_
    refine runL_b2 ((!decide ((serveAgainst r q).2.2 = 0)) && (((serveAgainst r q).1 == []))) (fun bb => [(2, Pt b1 0), (3, Pt b2 0), (4, Bo false), (5, Sr ((serveTell r).1)), (6, Bo ((serveTell r).2.1)), (8, Sr ((serveTell q).1)), (9, Bo ((serveTell q).2.1)), (11, Sr ((serveAgainst r q).1)), (12, Sr ((serveAgainst r q).2.1)), (13, I ((serveAgainst r q).2.2)), (15, Bo false), (55, Bo true), (62, Bo bb)]) [0,0,0] [1,1,0] (fun bb => [(2, Pt b1 0), (3, Pt b2 0), (4, Bo false), (5, Sr ((serveTell r).1)), (6, Bo ((serveTell r).2.1)), (8, Sr ((serveTell q).1)), (9, Bo ((serveTell q).2.1)), (11, Sr ((serveAgainst r q).1)), (12, Sr ((serveAgainst r q).2.1)), (13, I ((serveAgainst r q).2.2)), (15, Bo false), (55, Bo true), (65, Bo (bb && (((B ((serveAgainst r q).2.1)).toList == (B ([])).toList))))]) ?_
    refine runL_eq (fr' := [(2, Pt b1 0), (3, Pt b2 0), (4, Bo false), (5, Sr ((serveTell r).1)), (6, Bo ((serveTell r).2.1)), (8, Sr ((serveTell q).1)), (9, Bo ((serveTell q).2.1)), (11, Sr ((serveAgainst r q).1)), (12, Sr ((serveAgainst r q).2.1)), (13, I ((serveAgainst r q).2.2)), (15, Bo false), (55, Bo true), (65, Bo (((!decide ((serveAgainst r q).2.2 = 0)) && (((serveAgainst r q).1 == []))) && (((serveAgainst r q).2.1 == []))))]) (L' := [[], [Sg b2 0 [I q.head.epoch, U q.head.root, U q.head.prev, I q.head.at_, Sr q.proof.name, Sl a3 q.proof.entries.length c3, Sl a4 q.proof.sides.length c4]], [Sg b1 0 [I r.head.epoch, U r.head.root, U r.head.prev, I r.head.at_, Sr r.proof.name, Sl a1 r.proof.entries.length c1, Sl a2 r.proof.sides.length c2]]]) (by simp only [B_toList]) (by rfl) ?_
    refine runL_b [0] [(2, Pt b1 0), (3, Pt b2 0), (4, Bo (((!decide ((serveAgainst r q).2.2 = 0)) && (((serveAgainst r q).1 == []))) && (((serveAgainst r q).2.1 == [])))), (5, Sr ((serveTell r).1)), (6, Bo ((serveTell r).2.1)), (8, Sr ((serveTell q).1)), (9, Bo ((serveTell q).2.1)), (11, Sr ((serveAgainst r q).1)), (12, Sr ((serveAgainst r q).2.1)), (13, I ((serveAgainst r q).2.2)), (15, Bo false), (55, Bo true)] ?_
    refine runL_nil ?_
    refine tq_then ?_
    refine tc_ret ?_
    refine tq_then_ret ?_
    refine tq_ret [0] [Bo (((!decide ((serveAgainst r q).2.2 = 0)) && (((serveAgainst r q).1 == []))) && (((serveAgainst r q).2.1 == [])))] (bp_ret (Mem.le_trans (Mem.le_trans (Mem.le_trans hl1 hl2) hl3) hl4) ?_)
    have hf_ : (((!decide ((serveAgainst r q).2.2 = 0)) && (((serveAgainst r q).1 == []))) && (((serveAgainst r q).2.1 == []))) = true := by
      (obtain ⟨q1_, q2_⟩ := against_law (r := r) (s := q) (rsU_nonneg (by assumption)) (rsU_nonneg (by assumption)); simp only [HeadD_ne] at q1_ q2_; first | (simp_all; done) | (simp_all [alikeB]; done) | (simp_all [alikeB]; grind))
    exact congrArg Bo hf_
  ·
    try simp only [decide_eq_true_eq, decide_eq_false_iff_not, Bool.and_eq_true, Bool.or_eq_true, Bool.and_eq_false_imp, Bool.or_eq_false_iff, Bool.not_eq_true', Bool.not_eq_false', Bool.not_eq_true, Bool.not_eq_false, beq_iff_eq, beq_eq_false_iff_ne, bne_iff_ne, ne_eq, Decidable.not_not, Int.not_lt, Int.not_le] at h1
    refine runL_b [0,6,0,4] [(2, Pt b1 0), (3, Pt b2 0), (4, Bo false), (5, Sr ((serveTell r).1)), (6, Bo ((serveTell r).2.1)), (8, Sr ((serveTell q).1)), (9, Bo ((serveTell q).2.1)), (11, Sr ((serveAgainst r q).1)), (12, Sr ((serveAgainst r q).2.1)), (13, I ((serveAgainst r q).2.2)), (15, Bo false), (40, Bo false), (42, .agg #[I r.head.epoch, U r.head.root, U r.head.prev, I r.head.at_]), (44, .agg #[I q.head.epoch, U q.head.root, U q.head.prev, I q.head.at_])] ?_
    refine runL_eqv 45 (Bo (!((decide (r.head.epoch = q.head.epoch) && (decide (r.head.root = q.head.root) && (decide (r.head.prev = q.head.prev) && (decide (r.head.at_ = q.head.at_) && true))))))) (Bo (!(decide (r.head.epoch = q.head.epoch) && decide (r.head.root = q.head.root) && decide (r.head.prev = q.head.prev) && decide (r.head.at_ = q.head.at_)))) (by simp [B_toList, Bool.and_assoc]) ?_
    refine runL_b [0,0] [(2, Pt b1 0), (3, Pt b2 0), (4, Bo false), (5, Sr ((serveTell r).1)), (6, Bo ((serveTell r).2.1)), (8, Sr ((serveTell q).1)), (9, Bo ((serveTell q).2.1)), (11, Sr ((serveAgainst r q).1)), (12, Sr ((serveAgainst r q).2.1)), (13, I ((serveAgainst r q).2.2)), (15, Bo false), (47, Bo (!(decide (r.head.epoch = q.head.epoch) && decide (r.head.root = q.head.root) && decide (r.head.prev = q.head.prev) && decide (r.head.at_ = q.head.at_))))] ?_
    refine runL_b2 (!(decide (r.head.epoch = q.head.epoch) && decide (r.head.root = q.head.root) && decide (r.head.prev = q.head.prev) && decide (r.head.at_ = q.head.at_))) (fun bb => [(2, Pt b1 0), (3, Pt b2 0), (4, Bo false), (5, Sr ((serveTell r).1)), (6, Bo ((serveTell r).2.1)), (8, Sr ((serveTell q).1)), (9, Bo ((serveTell q).2.1)), (11, Sr ((serveAgainst r q).1)), (12, Sr ((serveAgainst r q).2.1)), (13, I ((serveAgainst r q).2.2)), (15, Bo false), (47, Bo bb)]) [1,1,1,1,1,1,1,0] [0,0,6,0,0,4,0,0] (fun bb => [(2, Pt b1 0), (3, Pt b2 0), (4, Bo false), (5, Sr ((serveTell r).1)), (6, Bo ((serveTell r).2.1)), (8, Sr ((serveTell q).1)), (9, Bo ((serveTell q).2.1)), (11, Sr ((serveAgainst r q).1)), (12, Sr ((serveAgainst r q).2.1)), (13, I ((serveAgainst r q).2.2)), (15, Bo false), (55, Bo (bb || (!((B r.proof.name).toList == (B q.proof.name).toList))))]) ?_
    refine runL_eq (fr' := [(2, Pt b1 0), (3, Pt b2 0), (4, Bo false), (5, Sr ((serveTell r).1)), (6, Bo ((serveTell r).2.1)), (8, Sr ((serveTell q).1)), (9, Bo ((serveTell q).2.1)), (11, Sr ((serveAgainst r q).1)), (12, Sr ((serveAgainst r q).2.1)), (13, I ((serveAgainst r q).2.2)), (15, Bo false), (55, Bo ((!(decide (r.head.epoch = q.head.epoch) && decide (r.head.root = q.head.root) && decide (r.head.prev = q.head.prev) && decide (r.head.at_ = q.head.at_))) || (!(r.proof.name == q.proof.name))))]) (L' := [[], [Sg b2 0 [I q.head.epoch, U q.head.root, U q.head.prev, I q.head.at_, Sr q.proof.name, Sl a3 q.proof.entries.length c3, Sl a4 q.proof.sides.length c4]], [Sg b1 0 [I r.head.epoch, U r.head.root, U r.head.prev, I r.head.at_, Sr r.proof.name, Sl a1 r.proof.entries.length c1, Sl a2 r.proof.sides.length c2]]]) (by simp only [B_toList]) (by rfl) ?_
    refine runL_nil ?_
    refine tq_then ?_
    refine tc_cond ((!(decide (r.head.epoch = q.head.epoch) && decide (r.head.root = q.head.root) && decide (r.head.prev = q.head.prev) && decide (r.head.at_ = q.head.at_))) || (!(r.proof.name == q.proof.name))) (fun h2 => ?_) (fun h2 => ?_)
    ·
      try simp only [decide_eq_true_eq, decide_eq_false_iff_not, Bool.and_eq_true, Bool.or_eq_true, Bool.and_eq_false_imp, Bool.or_eq_false_iff, Bool.not_eq_true', Bool.not_eq_false', Bool.not_eq_true, Bool.not_eq_false, beq_iff_eq, beq_eq_false_iff_ne, bne_iff_ne, ne_eq, Decidable.not_not, Int.not_lt, Int.not_le] at h2
      refine tc_seq ?_
      refine tc_region ?_
      refine runL_b [0,0,0] [(2, Pt b1 0), (3, Pt b2 0), (4, Bo false), (5, Sr ((serveTell r).1)), (6, Bo ((serveTell r).2.1)), (8, Sr ((serveTell q).1)), (9, Bo ((serveTell q).2.1)), (11, Sr ((serveAgainst r q).1)), (12, Sr ((serveAgainst r q).2.1)), (13, I ((serveAgainst r q).2.2)), (15, Bo false), (55, Bo ((!(decide (r.head.epoch = q.head.epoch) && decide (r.head.root = q.head.root) && decide (r.head.prev = q.head.prev) && decide (r.head.at_ = q.head.at_))) || (!(r.proof.name == q.proof.name)))), (58, Bo (!decide ((serveAgainst r q).2.2 = 0)))] ?_
      refine runL_b2 (!decide ((serveAgainst r q).2.2 = 0)) (fun bb => [(2, Pt b1 0), (3, Pt b2 0), (4, Bo false), (5, Sr ((serveTell r).1)), (6, Bo ((serveTell r).2.1)), (8, Sr ((serveTell q).1)), (9, Bo ((serveTell q).2.1)), (11, Sr ((serveAgainst r q).1)), (12, Sr ((serveAgainst r q).2.1)), (13, I ((serveAgainst r q).2.2)), (15, Bo false), (55, Bo ((!(decide (r.head.epoch = q.head.epoch) && decide (r.head.root = q.head.root) && decide (r.head.prev = q.head.prev) && decide (r.head.at_ = q.head.at_))) || (!(r.proof.name == q.proof.name)))), (58, Bo bb)]) [0,0,0] [1,1,0] (fun bb => [(2, Pt b1 0), (3, Pt b2 0), (4, Bo false), (5, Sr ((serveTell r).1)), (6, Bo ((serveTell r).2.1)), (8, Sr ((serveTell q).1)), (9, Bo ((serveTell q).2.1)), (11, Sr ((serveAgainst r q).1)), (12, Sr ((serveAgainst r q).2.1)), (13, I ((serveAgainst r q).2.2)), (15, Bo false), (55, Bo ((!(decide (r.head.epoch = q.head.epoch) && decide (r.head.root = q.head.root) && decide (r.head.prev = q.head.prev) && decide (r.head.at_ = q.head.at_))) || (!(r.proof.name == q.proof.name)))), (61, Bo (bb && (((B ((serveAgainst r q).1)).toList == (B ([])).toList))))]) ?_
      refine runL_eq (fr' := [(2, Pt b1 0), (3, Pt b2 0), (4, Bo false), (5, Sr ((serveTell r).1)), (6, Bo ((serveTell r).2.1)), (8, Sr ((serveTell q).1)), (9, Bo ((serveTell q).2.1)), (11, Sr ((serveAgainst r q).1)), (12, Sr ((serveAgainst r q).2.1)), (13, I ((serveAgainst r q).2.2)), (15, Bo false), (55, Bo ((!(decide (r.head.epoch = q.head.epoch) && decide (r.head.root = q.head.root) && decide (r.head.prev = q.head.prev) && decide (r.head.at_ = q.head.at_))) || (!(r.proof.name == q.proof.name)))), (61, Bo ((!decide ((serveAgainst r q).2.2 = 0)) && (((serveAgainst r q).1 == []))))]) (L' := [[], [Sg b2 0 [I q.head.epoch, U q.head.root, U q.head.prev, I q.head.at_, Sr q.proof.name, Sl a3 q.proof.entries.length c3, Sl a4 q.proof.sides.length c4]], [Sg b1 0 [I r.head.epoch, U r.head.root, U r.head.prev, I r.head.at_, Sr r.proof.name, Sl a1 r.proof.entries.length c1, Sl a2 r.proof.sides.length c2]]]) (by simp only [B_toList]) (by rfl) ?_
      refine runL_b [0] [(2, Pt b1 0), (3, Pt b2 0), (4, Bo false), (5, Sr ((serveTell r).1)), (6, Bo ((serveTell r).2.1)), (8, Sr ((serveTell q).1)), (9, Bo ((serveTell q).2.1)), (11, Sr ((serveAgainst r q).1)), (12, Sr ((serveAgainst r q).2.1)), (13, I ((serveAgainst r q).2.2)), (15, Bo false), (55, Bo ((!(decide (r.head.epoch = q.head.epoch) && decide (r.head.root = q.head.root) && decide (r.head.prev = q.head.prev) && decide (r.head.at_ = q.head.at_))) || (!(r.proof.name == q.proof.name)))), (62, Bo ((!decide ((serveAgainst r q).2.2 = 0)) && (((serveAgainst r q).1 == []))))] ?_
      refine runL_b2 ((!decide ((serveAgainst r q).2.2 = 0)) && (((serveAgainst r q).1 == []))) (fun bb => [(2, Pt b1 0), (3, Pt b2 0), (4, Bo false), (5, Sr ((serveTell r).1)), (6, Bo ((serveTell r).2.1)), (8, Sr ((serveTell q).1)), (9, Bo ((serveTell q).2.1)), (11, Sr ((serveAgainst r q).1)), (12, Sr ((serveAgainst r q).2.1)), (13, I ((serveAgainst r q).2.2)), (15, Bo false), (55, Bo ((!(decide (r.head.epoch = q.head.epoch) && decide (r.head.root = q.head.root) && decide (r.head.prev = q.head.prev) && decide (r.head.at_ = q.head.at_))) || (!(r.proof.name == q.proof.name)))), (62, Bo bb)]) [0,0,0] [1,1,0] (fun bb => [(2, Pt b1 0), (3, Pt b2 0), (4, Bo false), (5, Sr ((serveTell r).1)), (6, Bo ((serveTell r).2.1)), (8, Sr ((serveTell q).1)), (9, Bo ((serveTell q).2.1)), (11, Sr ((serveAgainst r q).1)), (12, Sr ((serveAgainst r q).2.1)), (13, I ((serveAgainst r q).2.2)), (15, Bo false), (55, Bo ((!(decide (r.head.epoch = q.head.epoch) && decide (r.head.root = q.head.root) && decide (r.head.prev = q.head.prev) && decide (r.head.at_ = q.head.at_))) || (!(r.proof.name == q.proof.name)))), (65, Bo (bb && (((B ((serveAgainst r q).2.1)).toList == (B ([])).toList))))]) ?_
      refine runL_eq (fr' := [(2, Pt b1 0), (3, Pt b2 0), (4, Bo false), (5, Sr ((serveTell r).1)), (6, Bo ((serveTell r).2.1)), (8, Sr ((serveTell q).1)), (9, Bo ((serveTell q).2.1)), (11, Sr ((serveAgainst r q).1)), (12, Sr ((serveAgainst r q).2.1)), (13, I ((serveAgainst r q).2.2)), (15, Bo false), (55, Bo ((!(decide (r.head.epoch = q.head.epoch) && decide (r.head.root = q.head.root) && decide (r.head.prev = q.head.prev) && decide (r.head.at_ = q.head.at_))) || (!(r.proof.name == q.proof.name)))), (65, Bo (((!decide ((serveAgainst r q).2.2 = 0)) && (((serveAgainst r q).1 == []))) && (((serveAgainst r q).2.1 == []))))]) (L' := [[], [Sg b2 0 [I q.head.epoch, U q.head.root, U q.head.prev, I q.head.at_, Sr q.proof.name, Sl a3 q.proof.entries.length c3, Sl a4 q.proof.sides.length c4]], [Sg b1 0 [I r.head.epoch, U r.head.root, U r.head.prev, I r.head.at_, Sr r.proof.name, Sl a1 r.proof.entries.length c1, Sl a2 r.proof.sides.length c2]]]) (by simp only [B_toList]) (by rfl) ?_
      refine runL_b [0] [(2, Pt b1 0), (3, Pt b2 0), (4, Bo (((!decide ((serveAgainst r q).2.2 = 0)) && (((serveAgainst r q).1 == []))) && (((serveAgainst r q).2.1 == [])))), (5, Sr ((serveTell r).1)), (6, Bo ((serveTell r).2.1)), (8, Sr ((serveTell q).1)), (9, Bo ((serveTell q).2.1)), (11, Sr ((serveAgainst r q).1)), (12, Sr ((serveAgainst r q).2.1)), (13, I ((serveAgainst r q).2.2)), (15, Bo false), (55, Bo ((!(decide (r.head.epoch = q.head.epoch) && decide (r.head.root = q.head.root) && decide (r.head.prev = q.head.prev) && decide (r.head.at_ = q.head.at_))) || (!(r.proof.name == q.proof.name))))] ?_
      refine runL_nil ?_
      refine tq_then ?_
      refine tc_ret ?_
      refine tq_then_ret ?_
      refine tq_ret [0] [Bo (((!decide ((serveAgainst r q).2.2 = 0)) && (((serveAgainst r q).1 == []))) && (((serveAgainst r q).2.1 == [])))] (bp_ret (Mem.le_trans (Mem.le_trans (Mem.le_trans hl1 hl2) hl3) hl4) ?_)
      have hf_ : (((!decide ((serveAgainst r q).2.2 = 0)) && (((serveAgainst r q).1 == []))) && (((serveAgainst r q).2.1 == []))) = true := by
        (obtain ⟨q1_, q2_⟩ := against_law (r := r) (s := q) (rsU_nonneg (by assumption)) (rsU_nonneg (by assumption)); simp only [HeadD_ne] at q1_ q2_; first | (simp_all; done) | (simp_all [alikeB]; done) | (simp_all [alikeB]; grind))
      exact congrArg Bo hf_
    ·
      try simp only [decide_eq_true_eq, decide_eq_false_iff_not, Bool.and_eq_true, Bool.or_eq_true, Bool.and_eq_false_imp, Bool.or_eq_false_iff, Bool.not_eq_true', Bool.not_eq_false', Bool.not_eq_true, Bool.not_eq_false, beq_iff_eq, beq_eq_false_iff_ne, bne_iff_ne, ne_eq, Decidable.not_not, Int.not_lt, Int.not_le] at h2
      refine tc_skip ?_
      refine tq_then ?_
      refine tc_seq ?_
      refine tc_seq ?_
      refine tc_region ?_
      refine runL_b [0,0,0,0] [(2, Pt b1 0), (3, Pt b2 0), (4, Bo false), (6, Bo ((serveTell r).2.1)), (9, Bo ((serveTell q).2.1)), (11, Sr ((serveAgainst r q).1)), (12, Sr ((serveAgainst r q).2.1)), (13, I ((serveAgainst r q).2.2)), (15, Bo false), (55, Bo ((!(decide (r.head.epoch = q.head.epoch) && decide (r.head.root = q.head.root) && decide (r.head.prev = q.head.prev) && decide (r.head.at_ = q.head.at_))) || (!(r.proof.name == q.proof.name)))), (69, Bo (((B ((serveTell r).1)).toList == (B ((serveTell q).1)).toList)))] ?_
      refine runL_eq (fr' := [(2, Pt b1 0), (3, Pt b2 0), (4, Bo false), (6, Bo ((serveTell r).2.1)), (9, Bo ((serveTell q).2.1)), (11, Sr ((serveAgainst r q).1)), (12, Sr ((serveAgainst r q).2.1)), (13, I ((serveAgainst r q).2.2)), (15, Bo false), (55, Bo ((!(decide (r.head.epoch = q.head.epoch) && decide (r.head.root = q.head.root) && decide (r.head.prev = q.head.prev) && decide (r.head.at_ = q.head.at_))) || (!(r.proof.name == q.proof.name)))), (69, Bo (((serveTell r).1 == (serveTell q).1)))]) (L' := [[], [Sg b2 0 [I q.head.epoch, U q.head.root, U q.head.prev, I q.head.at_, Sr q.proof.name, Sl a3 q.proof.entries.length c3, Sl a4 q.proof.sides.length c4]], [Sg b1 0 [I r.head.epoch, U r.head.root, U r.head.prev, I r.head.at_, Sr r.proof.name, Sl a1 r.proof.entries.length c1, Sl a2 r.proof.sides.length c2]]]) (by simp only [B_toList]) (by rfl) ?_
      refine runL_b2 (((serveTell r).1 == (serveTell q).1)) (fun bb => [(2, Pt b1 0), (3, Pt b2 0), (4, Bo false), (6, Bo ((serveTell r).2.1)), (9, Bo ((serveTell q).2.1)), (11, Sr ((serveAgainst r q).1)), (12, Sr ((serveAgainst r q).2.1)), (13, I ((serveAgainst r q).2.2)), (15, Bo false), (55, Bo ((!(decide (r.head.epoch = q.head.epoch) && decide (r.head.root = q.head.root) && decide (r.head.prev = q.head.prev) && decide (r.head.at_ = q.head.at_))) || (!(r.proof.name == q.proof.name)))), (69, Bo bb)]) [0,0,0,0] [1,1,1,0] (fun bb => [(2, Pt b1 0), (3, Pt b2 0), (4, Bo false), (11, Sr ((serveAgainst r q).1)), (12, Sr ((serveAgainst r q).2.1)), (13, I ((serveAgainst r q).2.2)), (15, Bo false), (55, Bo ((!(decide (r.head.epoch = q.head.epoch) && decide (r.head.root = q.head.root) && decide (r.head.prev = q.head.prev) && decide (r.head.at_ = q.head.at_))) || (!(r.proof.name == q.proof.name)))), (73, Bo (bb && ((((serveTell r).2.1) == ((serveTell q).2.1)))))]) ?_
      refine runL_nil ?_
      refine tq_then ?_
      refine tc_cond ((((serveTell r).1 == (serveTell q).1)) && ((((serveTell r).2.1) == ((serveTell q).2.1)))) (fun h3 => ?_) (fun h3 => ?_)
      ·
        try simp only [decide_eq_true_eq, decide_eq_false_iff_not, Bool.and_eq_true, Bool.or_eq_true, Bool.and_eq_false_imp, Bool.or_eq_false_iff, Bool.not_eq_true', Bool.not_eq_false', Bool.not_eq_true, Bool.not_eq_false, beq_iff_eq, beq_eq_false_iff_ne, bne_iff_ne, ne_eq, Decidable.not_not, Int.not_lt, Int.not_le] at h3
        refine tc_rb [0,0,0] [(2, Pt b1 0), (3, Pt b2 0), (4, Bo (decide ((serveAgainst r q).2.2 = 6))), (11, Sr ((serveAgainst r q).1)), (12, Sr ((serveAgainst r q).2.1)), (13, I ((serveAgainst r q).2.2)), (15, Bo false), (55, Bo ((!(decide (r.head.epoch = q.head.epoch) && decide (r.head.root = q.head.root) && decide (r.head.prev = q.head.prev) && decide (r.head.at_ = q.head.at_))) || (!(r.proof.name == q.proof.name)))), (73, Bo ((((serveTell r).1 == (serveTell q).1)) && ((((serveTell r).2.1) == ((serveTell q).2.1)))))] ?_
        refine tc_ret ?_
        refine tq_then_ret ?_
        refine tq_ret [0] [Bo (decide ((serveAgainst r q).2.2 = 6))] (bp_ret (Mem.le_trans (Mem.le_trans (Mem.le_trans hl1 hl2) hl3) hl4) ?_)
        have hf_ : (decide ((serveAgainst r q).2.2 = 6)) = true := by
          (obtain ⟨q1_, q2_⟩ := against_law (r := r) (s := q) (rsU_nonneg (by assumption)) (rsU_nonneg (by assumption)); simp only [HeadD_ne] at q1_ q2_; first | (simp_all; done) | (simp_all [alikeB]; done) | (simp_all [alikeB]; grind))
        exact congrArg Bo hf_
      ·
        try simp only [decide_eq_true_eq, decide_eq_false_iff_not, Bool.and_eq_true, Bool.or_eq_true, Bool.and_eq_false_imp, Bool.or_eq_false_iff, Bool.not_eq_true', Bool.not_eq_false', Bool.not_eq_true, Bool.not_eq_false, beq_iff_eq, beq_eq_false_iff_ne, bne_iff_ne, ne_eq, Decidable.not_not, Int.not_lt, Int.not_le] at h3
        refine tc_skip ?_
        refine tq_then ?_
        refine tc_seq ?_
        refine tc_region ?_
        refine runL_b [0,0,0] [(2, Pt b1 0), (3, Pt b2 0), (4, Bo false), (11, Sr ((serveAgainst r q).1)), (12, Sr ((serveAgainst r q).2.1)), (13, I ((serveAgainst r q).2.2)), (15, Bo false), (55, Bo ((!(decide (r.head.epoch = q.head.epoch) && decide (r.head.root = q.head.root) && decide (r.head.prev = q.head.prev) && decide (r.head.at_ = q.head.at_))) || (!(r.proof.name == q.proof.name)))), (73, Bo ((((serveTell r).1 == (serveTell q).1)) && ((((serveTell r).2.1) == ((serveTell q).2.1))))), (78, Bo (decide ((serveAgainst r q).2.2 = 0)))] ?_
        refine runL_cases (fun bb => [(2, Pt b1 0), (3, Pt b2 0), (4, Bo false), (11, Sr ((serveAgainst r q).1)), (12, Sr ((serveAgainst r q).2.1)), (13, I ((serveAgainst r q).2.2)), (15, Bo false), (55, Bo ((!(decide (r.head.epoch = q.head.epoch) && decide (r.head.root = q.head.root) && decide (r.head.prev = q.head.prev) && decide (r.head.at_ = q.head.at_))) || (!(r.proof.name == q.proof.name)))), (73, Bo ((((serveTell r).1 == (serveTell q).1)) && ((((serveTell r).2.1) == ((serveTell q).2.1))))), (78, Bo bb)]) (decide ((serveAgainst r q).2.2 = 0)) (fun h4 => ?_) (fun h4 => ?_)
        ·
          try simp only [decide_eq_true_eq, decide_eq_false_iff_not, Bool.and_eq_true, Bool.or_eq_true, Bool.and_eq_false_imp, Bool.or_eq_false_iff, Bool.not_eq_true', Bool.not_eq_false', Bool.not_eq_true, Bool.not_eq_false, beq_iff_eq, beq_eq_false_iff_ne, bne_iff_ne, ne_eq, Decidable.not_not, Int.not_lt, Int.not_le] at h4
          refine runL_b [0,0] [(2, Pt b1 0), (3, Pt b2 0), (4, Bo false), (11, Sr ((serveAgainst r q).1)), (12, Sr ((serveAgainst r q).2.1)), (13, I ((serveAgainst r q).2.2)), (15, Bo false), (55, Bo ((!(decide (r.head.epoch = q.head.epoch) && decide (r.head.root = q.head.root) && decide (r.head.prev = q.head.prev) && decide (r.head.at_ = q.head.at_))) || (!(r.proof.name == q.proof.name)))), (73, Bo ((((serveTell r).1 == (serveTell q).1)) && ((((serveTell r).2.1) == ((serveTell q).2.1))))), (78, Bo true), (79, Sr ((serveAgainst r q).1)), (80, Sr ((serveAgainst r q).2.1))] ?_
          refine runL_callV 81 (Bo (!(((serveAgainst r q).1) == ((serveAgainst r q).2.1)) && decide (markOf ((serveAgainst r q).1) = markOf ((serveAgainst r q).2.1)))) (markAlike_con ((serveAgainst r q).1) ((serveAgainst r q).2.1) (le48r' (by first | assumption | omega | (simp; done) | (simp; omega))) (le48r' (by first | assumption | omega | (simp; done) | (simp; omega))) G4) ?_
          refine runL_b [0,0] [(2, Pt b1 0), (3, Pt b2 0), (4, Bo (!(((serveAgainst r q).1) == ((serveAgainst r q).2.1)) && decide (markOf ((serveAgainst r q).1) = markOf ((serveAgainst r q).2.1)))), (11, Sr ((serveAgainst r q).1)), (12, Sr ((serveAgainst r q).2.1)), (13, I ((serveAgainst r q).2.2)), (15, Bo false), (55, Bo ((!(decide (r.head.epoch = q.head.epoch) && decide (r.head.root = q.head.root) && decide (r.head.prev = q.head.prev) && decide (r.head.at_ = q.head.at_))) || (!(r.proof.name == q.proof.name)))), (73, Bo ((((serveTell r).1 == (serveTell q).1)) && ((((serveTell r).2.1) == ((serveTell q).2.1)))))] ?_
          refine runL_nil ?_
          refine tq_then ?_
          refine tc_ret ?_
          refine tq_ret [0] [Bo (!(((serveAgainst r q).1) == ((serveAgainst r q).2.1)) && decide (markOf ((serveAgainst r q).1) = markOf ((serveAgainst r q).2.1)))] (bp_ret (Mem.le_trans (Mem.le_trans (Mem.le_trans hl1 hl2) hl3) hl4) ?_)
          have hf_ : (!(((serveAgainst r q).1) == ((serveAgainst r q).2.1)) && decide (markOf ((serveAgainst r q).1) = markOf ((serveAgainst r q).2.1))) = true := by
            (obtain ⟨q1_, q2_⟩ := against_law (r := r) (s := q) (rsU_nonneg (by assumption)) (rsU_nonneg (by assumption)); simp only [HeadD_ne] at q1_ q2_; first | (simp_all; done) | (simp_all [alikeB]; done) | (simp_all [alikeB]; grind))
          exact congrArg Bo hf_
        ·
          try simp only [decide_eq_true_eq, decide_eq_false_iff_not, Bool.and_eq_true, Bool.or_eq_true, Bool.and_eq_false_imp, Bool.or_eq_false_iff, Bool.not_eq_true', Bool.not_eq_false', Bool.not_eq_true, Bool.not_eq_false, beq_iff_eq, beq_eq_false_iff_ne, bne_iff_ne, ne_eq, Decidable.not_not, Int.not_lt, Int.not_le] at h4
          refine runL_b [1,1,1,0,0] [(2, Pt b1 0), (3, Pt b2 0), (4, Bo false), (11, Sr ((serveAgainst r q).1)), (12, Sr ((serveAgainst r q).2.1)), (13, I ((serveAgainst r q).2.2)), (15, Bo false), (55, Bo ((!(decide (r.head.epoch = q.head.epoch) && decide (r.head.root = q.head.root) && decide (r.head.prev = q.head.prev) && decide (r.head.at_ = q.head.at_))) || (!(r.proof.name == q.proof.name)))), (73, Bo ((((serveTell r).1 == (serveTell q).1)) && ((((serveTell r).2.1) == ((serveTell q).2.1)))))] ?_
          refine runL_nil ?_
          refine tq_then ?_
          refine tc_ret ?_
          refine tq_ret [0] [Bo false] (bp_ret (Mem.le_trans (Mem.le_trans (Mem.le_trans hl1 hl2) hl3) hl4) ?_)
          exfalso
          (obtain ⟨q1_, q2_⟩ := against_law (r := r) (s := q) (rsU_nonneg (by assumption)) (rsU_nonneg (by assumption)); simp only [HeadD_ne] at q1_ q2_; first | (simp_all; done) | (simp_all [alikeB]; done) | (simp_all [alikeB]; grind))
end Go.Proofs.YtmpakffajpnffaaGreatDoor
