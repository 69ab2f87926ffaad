import Derived.Test.YtpofnmobbbcpgaaGreatDoorClerk
namespace Go.Proofs.YtpofnmobbbcpgaaGreatDoor
open Go.Tx
set_option linter.unusedVariables false
set_option linter.unusedSimpArgs false

open Go.Tx Go.Proofs
def replyZ : ReplyD := ⟨headZ, proofZ⟩
def serveLook (c : ClerkD) (name : List UInt8) (epoch : Int) : ReplyD × Int := if ¬ (clerkBook c epoch).2 = 0 then (replyZ, (clerkBook c epoch).2) else if ¬ (proofMake (clerkBook c epoch).1 name).2 = 0 then (replyZ, (proofMake (clerkBook c epoch).1 name).2) else (⟨c.heads[epoch.toNat]?.getD headZ, (proofMake (clerkBook c epoch).1 name).1⟩, 0)
theorem look_err {c : ClerkD} {name : List UInt8} {e : Int} (h : ¬ (serveLook c name e).2 = 0) : (serveLook c name e).1 = replyZ := by
  unfold serveLook at h ⊢
  split
  · rfl
  split
  · rfl
  · rename_i h1 h2; rw [if_neg h1, if_neg h2] at h; exact absurd rfl h
theorem look_law {c : ClerkD} {name : List UInt8} {e : Int} (h : (serveLook c name e).2 = 0) : (clerkBook c e).2 = 0 ∧ serveTell (serveLook c name e).1 = treeGet (clerkBook c e).1 name ∧ (treeGet (clerkBook c e).1 name).2.2 = 0 ∧ (serveLook c name e).1.head.epoch = e := by
  unfold serveLook at h ⊢
  split at h
  · contradiction
  split at h
  · contradiction
  · rename_i h1 h2
    rw [if_neg h1, if_neg h2]
    have b1 := Decidable.not_not.1 h1
    have b2 := Decidable.not_not.1 h2
    obtain ⟨ok, e0, e1, hx⟩ := book_ok b1
    obtain ⟨q1, q2, q3, q4⟩ := holds_law b2
    obtain ⟨r1, r2⟩ := ok.root _ _ hx
    have hl : e.toNat < c.heads.length := by rw [← ok.len]; omega
    have hh : c.heads[e.toNat]? = some c.heads[e.toNat] := List.getElem?_eq_getElem hl
    have hc := ok.chain.ok _ (List.getElem_mem hl)
    have he := ok.chain.epoch _ _ hh
    rw [hh] at r2 ⊢
    simp only [Option.getD_some] at r2 ⊢
    refine ⟨b1, ?_, q3, ?_⟩
    · unfold serveTell
      simp only
      rw [if_neg (by rw [hc]; simp), ← r2]
      exact q2
    · rw [he, ok.first]; omega
def serveAgainst (r s : ReplyD) : List UInt8 × List UInt8 × Int := if ¬ (serveTell r).2.2 = 0 then ([], [], (serveTell r).2.2) else if ¬ (serveTell s).2.2 = 0 then ([], [], (serveTell s).2.2) else if ¬ r.proof.name = s.proof.name ∨ ¬ r.head = s.head then ([], [], 3) else if (serveTell r).1 = (serveTell s).1 ∧ (serveTell r).2.1 = (serveTell s).2.1 then ([], [], 6) else clashProofs r.proof s.proof
theorem tell_parts {r : ReplyD} (h : (serveTell r).2.2 = 0) : serveTell r = proofTell r.head.root r.proof := by
  unfold serveTell at h ⊢
  split
  · rename_i h1; rw [if_pos h1] at h; exact absurd h h1
  · rfl
theorem against_law {r s : ReplyD} (hr : ∀ m ∈ r.proof.sides, 0 ≤ m) (hs : ∀ m ∈ s.proof.sides, 0 ≤ m) : 
    (((¬ (serveTell r).2.2 = 0 ∨ ¬ (serveTell s).2.2 = 0) ∨ ¬ r.head = s.head) ∨ ¬ r.proof.name = s.proof.name → ¬ (serveAgainst r s).2.2 = 0 ∧ (serveAgainst r s).1 = [] ∧ (serveAgainst r s).2.1 = []) ∧
    ((serveTell r).2.2 = 0 → (serveTell s).2.2 = 0 → r.head = s.head → r.proof.name = s.proof.name → 
      ((serveTell r).1 = (serveTell s).1 ∧ (serveTell r).2.1 = (serveTell s).2.1 → (serveAgainst r s).2.2 = 6) ∧
      (¬ ((serveTell r).1 = (serveTell s).1 ∧ (serveTell r).2.1 = (serveTell s).2.1) → (serveAgainst r s).2.2 = 0 ∧ alikeB (serveAgainst r s).1 (serveAgainst r s).2.1 = true)) := by
  constructor
  · intro h
    unfold serveAgainst
    split
    · rename_i h1; exact ⟨h1, rfl, rfl⟩
    split
    · rename_i h1; exact ⟨h1, rfl, rfl⟩
    · rename_i h1 h2
      rw [if_pos]
      · exact ⟨by decide, rfl, rfl⟩
      · rcases h with ((h | h) | h) | h
        · exact absurd h h1
        · exact absurd h h2
        · exact .inr h
        · exact .inl h
  · intro h1 h2 h3 h4
    unfold serveAgainst
    rw [if_neg (by omega), if_neg (by omega), if_neg (by rw [h3, h4]; simp)]
    refine ⟨fun h => by rw [if_pos h], fun h => ?_⟩
    rw [if_neg h]
    have e1 := tell_parts h1
    have e2 := tell_parts h2
    rw [e1] at h1 h; rw [e2] at h2 h
    rw [← h3] at h2 h
    obtain ⟨q1, q2⟩ := binds_law hr hs h1 h2 h4 h
    exact ⟨q1, q2⟩
theorem serves_law : (serveLook (clerkNew 1 1 1).1 [97] 0).2 = 0 ∧ (serveLook (clerkNew 1 1 1).1 [97] 0).1.proof.name = [97] := by decide +kernel

theorem serveLook_con (G : Mem) (vs_c : List Value) (c : ClerkD) (h_c : EClerk.R G vs_c c) (name : List UInt8) (hw_name : (name).length ≤ 140737488351232) (epoch : Int) (hw_epoch : -9223372036854775808 ≤ epoch ∧ epoch < 9223372036854775808)  : ConP 16 #[.agg vs_c.toArray, Sr name, I epoch] G [] (fun u G' L' => ∃ (a1 : Option Addr) (c2 : Nat) (a3 : Option Addr) (c4 : Nat), u = .tuple #[.agg #[I (((serveLook c name epoch).1).head.epoch), U (((serveLook c name epoch).1).head.root), U (((serveLook c name epoch).1).head.prev), I (((serveLook c name epoch).1).head.at_), Sr (((serveLook c name epoch).1).proof.name), Sl a1 ((((serveLook c name epoch).1).proof.entries).length) c2, Sl a3 ((((serveLook c name epoch).1).proof.sides).length) c4], I ((serveLook c name epoch).2)] ∧ (-9223372036854775808 ≤ (((serveLook c name epoch).1).head.epoch) ∧ (((serveLook c name epoch).1).head.epoch) < 9223372036854775808) ∧ (0 ≤ (((serveLook c name epoch).1).head.root) ∧ (((serveLook c name epoch).1).head.root) < 18446744073709551616) ∧ (0 ≤ (((serveLook c name epoch).1).head.prev) ∧ (((serveLook c name epoch).1).head.prev) < 18446744073709551616) ∧ (-9223372036854775808 ≤ (((serveLook c name epoch).1).head.at_) ∧ (((serveLook c name epoch).1).head.at_) < 9223372036854775808) ∧ ((((serveLook c name epoch).1).proof.name).length ≤ 140737488351232) ∧ (RS EEnt G' a1 c2 (((serveLook c name epoch).1).proof.entries)) ∧ (RS EU G' a3 c4 (((serveLook c name epoch).1).proof.sides)) ∧ L' = []) := by
  obtain ⟨a1, c1, a2, c2, a3, c3, rfl, w1, hs1, w2, w3, w4, hs2, hs3⟩ := h_c
  refine con_of Tryz.func16 38 [(0, .agg #[I c.queue.most, Sl a1 c.queue.wait.length c1, I c.batch, I c.every, I c.now, Sl a2 c.heads.length c2, Sl a3 c.books.length c3]), (1, Sr name), (2, I epoch)] rfl (fun w0 G0 => ?_)
  refine tc_seq ?_
  refine tc_region ?_
  refine runL_box 3 #[I c.queue.most, Sl a1 c.queue.wait.length c1, I c.batch, I c.every, I c.now, Sl a2 c.heads.length c2, Sl a3 c.books.length c3] 45 (fun b1 => ?_)
  refine runL_box 6 #[I 0, U 0, U 0, I 0, Sr ([]), Sl none 0 0, Sl none 0 0] 30 (fun b2 => ?_)
  refine runL_bn [0] [] ?_
  refine runL_nil ?_
  refine tq_then ?_
  refine tc_seq ?_
  refine tc_region ?_
  refine runL_bn [4,0] [(12, .agg #[I c.queue.most, Sl a1 c.queue.wait.length c1, I c.batch, I c.every, I c.now, Sl a2 c.heads.length c2, Sl a3 c.books.length c3]), (13, I epoch)] ?_
  refine runL_callR 14 (clerkBook_con G [I c.queue.most, Sl a1 c.queue.wait.length c1, I c.batch, I c.every, I c.now, Sl a2 c.heads.length c2, Sl a3 c.books.length c3] c (⟨a1, c1, a2, c2, a3, c3, rfl, w1, hs1, w2, w3, w4, hs2, hs3⟩) epoch hw_epoch) (fun v G1 L1 hl1 hp => ?_)
  obtain ⟨a4, c4, r1, rfl, hr1, rfl⟩ := hp
  refine runL_bn [0,0,0,0,0] [(8, Sl a4 (((clerkBook c epoch).1).length) c4), (9, I ((clerkBook c epoch).2))] ?_
  refine runL_nil ?_
  refine tq_then ?_
  refine tc_seq ?_
  refine tc_rbn [0,0] [(18, Bo (!decide ((clerkBook c epoch).2 = 0)))] ?_
  refine tc_condP (!decide ((clerkBook c epoch).2 = 0)) (fun h1 => ?_) (fun h1 => ?_)
  ·
    refine tc_rbn [0,0,5,0] [(7, I ((clerkBook c epoch).2))] ?_
    refine tc_ret ?_
    refine tq_then_ret ?_
    have hf1 : serveLook c name epoch = ((⟨(⟨0, 0, 0, 0⟩ : HeadD), (⟨[], [], []⟩ : ProofD)⟩ : ReplyD), (clerkBook c epoch).2) := by
      unfold serveLook replyZ; first | (rw [if_pos (by assumption)]; rfl) | (rw [if_neg (by first | omega | simp_all)]; first | (rw [if_pos (by assumption)]; rfl) | (rw [if_neg (by simp_all)]; simp_all; done))
    refine tq_ret [1, 0] [.agg #[I 0, U 0, U 0, I 0, Sr ([]), Sl none 0 0, Sl none 0 0], I ((clerkBook c epoch).2)] (bp_rowsA [] hl1 ?_)
    rw [hf1]
    try dsimp only
    exact ⟨none, 0, none, 0, rfl, (by first | assumption | omega | (simp; done) | (simp; omega)), (by first | assumption | omega | (simp; done) | (simp; omega)), (by first | assumption | omega | (simp; done) | (simp; omega)), (by first | assumption | omega | (simp; done) | (simp; omega)), (Nat.le_of_ble_eq_true rfl), (RS.nil' EEnt G1), (RS.nil' EU G1), rfl⟩
  ·
    refine tc_skip ?_
    refine tq_then ?_
    refine tc_seq ?_
    refine tc_region ?_
    refine runL_bn [0,0] [(22, Sl a4 (((clerkBook c epoch).1).length) c4), (23, Sr name)] ?_
    refine runL_frzR (E := EEnt) 0 hr1 (by have q_ := book_len c epoch; simp only [EEnt]; omega) (fun G2 hl2 hs4 => ?_)
    refine runL_callR 24 (proofMake_con G2 a4 c4 ((clerkBook c epoch).1) hs4 name hw_name) (fun v G3 L1 hl3 hp => ?_)
    obtain ⟨a5, c5, a6, c6, rfl, w5, hs5, hs6, rfl⟩ := hp
    refine runL_bn [0,0,0] [(25, .agg #[Sr (((proofMake ((clerkBook c epoch).1) name).1).name), Sl a5 ((((proofMake ((clerkBook c epoch).1) name).1).entries).length) c5, Sl a6 ((((proofMake ((clerkBook c epoch).1) name).1).sides).length) c6]), (26, I ((proofMake ((clerkBook c epoch).1) name).2))] ?_
    refine runL_box 10 #[Sr ([]), Sl none 0 0, Sl none 0 0] 28 (fun b3 => ?_)
    refine runL_bsn [3,0] [(9, I ((proofMake ((clerkBook c epoch).1) name).2))] [[Sg b3 0 [Sr (((proofMake ((clerkBook c epoch).1) name).1).name), Sl a5 ((((proofMake ((clerkBook c epoch).1) name).1).entries).length) c5, Sl a6 ((((proofMake ((clerkBook c epoch).1) name).1).sides).length) c6]], [], [Sg b2 0 [I 0, U 0, U 0, I 0, Sr ([]), Sl none 0 0, Sl none 0 0]], [Sg b1 0 [I c.queue.most, Sl a1 c.queue.wait.length c1, I c.batch, I c.every, I c.now, Sl a2 c.heads.length c2, Sl a3 c.books.length c3]]] ?_
    refine runL_nil ?_
    refine tq_then ?_
    refine tc_seq ?_
    refine tc_rbn [0,0] [(28, Bo (!decide ((proofMake ((clerkBook c epoch).1) name).2 = 0)))] ?_
    refine tc_condP (!decide ((proofMake ((clerkBook c epoch).1) name).2 = 0)) (fun h2 => ?_) (fun h2 => ?_)
    ·
      refine tc_rbn [0,0,7,0] [(7, I ((proofMake ((clerkBook c epoch).1) name).2))] ?_
      refine tc_ret ?_
      refine tq_then_ret ?_
      have hf2 : serveLook c name epoch = ((⟨(⟨0, 0, 0, 0⟩ : HeadD), (⟨[], [], []⟩ : ProofD)⟩ : ReplyD), (proofMake ((clerkBook c epoch).1) name).2) := by
        unfold serveLook replyZ; first | (rw [if_pos (by assumption)]; rfl) | (rw [if_neg (by first | omega | simp_all)]; first | (rw [if_pos (by assumption)]; rfl) | (rw [if_neg (by simp_all)]; simp_all; done))
      refine tq_ret [2, 0] [.agg #[I 0, U 0, U 0, I 0, Sr ([]), Sl none 0 0, Sl none 0 0], I ((proofMake ((clerkBook c epoch).1) name).2)] (bp_rowsA [] (Mem.le_trans (Mem.le_trans hl1 hl2) hl3) ?_)
      rw [hf2]
      try dsimp only
      exact ⟨none, 0, none, 0, rfl, (by first | assumption | omega | (simp; done) | (simp; omega)), (by first | assumption | omega | (simp; done) | (simp; omega)), (by first | assumption | omega | (simp; done) | (simp; omega)), (by first | assumption | omega | (simp; done) | (simp; omega)), (Nat.le_of_ble_eq_true rfl), (RS.nil' EEnt G3), (RS.nil' EU G3), rfl⟩
    ·
      refine tc_skip ?_
      refine tq_then ?_
      obtain ⟨kn1, hkn1⟩ : ∃ k_ : Nat, epoch = (k_ : Int) := ⟨(epoch).toNat, by first | omega | (have q_ := book_ok (c := c) (by assumption); have q1_ := q_.1.len; omega)⟩
      have e1 : epoch = (kn1 : Int) := hkn1
      refine tc_put 2 (I ((kn1 : Int))) (congrArg I e1) ?_
      refine tc_seq ?_
      obtain ⟨b4, o1, rfl⟩ := RS.addr (hs2.mono (Mem.le_trans (Mem.le_trans hl1 hl2) hl3)) (k := kn1) (by first | omega | (have q_ := book_ok (c := c) (by assumption); have q1_ := q_.1.len; omega))
      obtain ⟨x1, hx1⟩ := getX (l := c.heads) (k := kn1) (by first | omega | (have q_ := book_ok (c := c) (by assumption); have q1_ := q_.1.len; omega))
      obtain ⟨_, ⟨rfl, w6, w7, w8, w9⟩, hc1⟩ := RS.get (hs2.mono (Mem.le_trans (Mem.le_trans hl1 hl2) hl3)) hx1
      refine tc_draw [7] ?_
      refine dr_V [(0, Pt b1 5), (1, Sl (At b4 o1) c.heads.length c2), (2, I ((kn1 : Int))), (3, Pt b4 (o1 + kn1 * 4)), (4, .agg #[I x1.epoch, U x1.root, U x1.prev, I x1.at_]), (5, .agg #[Sr (((proofMake ((clerkBook c epoch).1) name).1).name), Sl a5 ((((proofMake ((clerkBook c epoch).1) name).1).entries).length) c5, Sl a6 ((((proofMake ((clerkBook c epoch).1) name).1).sides).length) c6]), (6, .agg #[I x1.epoch, U x1.root, U x1.prev, I x1.at_, Sr (((proofMake ((clerkBook c epoch).1) name).1).name), Sl a5 ((((proofMake ((clerkBook c epoch).1) name).1).entries).length) c5, Sl a6 ((((proofMake ((clerkBook c epoch).1) name).1).sides).length) c6])] ?_
      refine dr_mid [] [(0,0), (1,8), (2,0), (5,2), (6,0)] [3, 4] [7] (fmc ?_ (fmc ?_ fm0)) (fmc ?_ fm0)
      · refine stab_of 3 34 (Pt b4 (o1 + kn1 * 4)) [(32, Sl (At b4 o1) c.heads.length c2), (33, I ((kn1 : Int)))] (fun X => ?_)
        exact runL_idx (b := b4) (off := o1) (len := c.heads.length) (cap := c2) (ik := .i64) 34 24 4 kn1 (by first | omega | (have q_ := book_ok (c := c) (by assumption); have q1_ := q_.1.len; omega)) stab_end
      · refine stab_of 4 35 (.agg #[I x1.epoch, U x1.root, U x1.prev, I x1.at_]) [(34, Pt b4 (o1 + kn1 * 4))] (fun X => ?_)
        exact runL_ldG 35 24 (cs := [I x1.epoch, U x1.root, U x1.prev, I x1.at_]) 0 (.agg #[I x1.epoch, U x1.root, U x1.prev, I x1.at_]) hc1 stab_end
      refine act_of 7 [(6, Pt b2 0), (37, .agg #[I x1.epoch, U x1.root, U x1.prev, I x1.at_, Sr (((proofMake ((clerkBook c epoch).1) name).1).name), Sl a5 ((((proofMake ((clerkBook c epoch).1) name).1).entries).length) c5, Sl a6 ((((proofMake ((clerkBook c epoch).1) name).1).sides).length) c6])] (fun X => ?_)
      refine runL_st 2 [[Sg b3 0 [Sr (((proofMake ((clerkBook c epoch).1) name).1).name), Sl a5 ((((proofMake ((clerkBook c epoch).1) name).1).entries).length) c5, Sl a6 ((((proofMake ((clerkBook c epoch).1) name).1).sides).length) c6]], [], [Sg b2 0 [I x1.epoch, U x1.root, U x1.prev, I x1.at_, Sr (((proofMake ((clerkBook c epoch).1) name).1).name), Sl a5 ((((proofMake ((clerkBook c epoch).1) name).1).entries).length) c5, Sl a6 ((((proofMake ((clerkBook c epoch).1) name).1).sides).length) c6]], [Sg b1 0 [I c.queue.most, Sl a1 c.queue.wait.length c1, I c.batch, I c.every, I c.now, Sl (At b4 o1) c.heads.length c2, Sl a3 c.books.length c3]]] ?_
      refine act_endN0 [(8, I 0)] ?_
      refine dr_end [0, 1, 2, 3, 4, 5, 6] [(8,0)] [] [(6, Pt b2 0), (7, I 0)] (List.forall_mem_nil _) ?_
      refine tq_then ?_
      refine tc_ret ?_
      have hf3 : serveLook c name epoch = ((⟨x1, ((proofMake ((clerkBook c epoch).1) name).1)⟩ : ReplyD), 0) := by
        unfold serveLook replyZ; first | (rw [if_pos (by assumption)]; rfl) | (rw [if_neg (by first | omega | simp_all)]; first | (rw [if_pos (by assumption)]; rfl) | (rw [if_neg (by simp_all)]; simp_all; done))
      refine tq_ret [2, 0] [.agg #[I x1.epoch, U x1.root, U x1.prev, I x1.at_, Sr (((proofMake ((clerkBook c epoch).1) name).1).name), Sl a5 ((((proofMake ((clerkBook c epoch).1) name).1).entries).length) c5, Sl a6 ((((proofMake ((clerkBook c epoch).1) name).1).sides).length) c6], I 0] (bp_rowsA [] (Mem.le_trans (Mem.le_trans hl1 hl2) hl3) ?_)
      rw [hf3]
      try dsimp only
      exact ⟨a5, c5, a6, c6, rfl, w6, w7, w8, w9, w5, hs5, hs6, rfl⟩

theorem serves_con (G : Mem)   : ConV 5 #[] G (Bo true) := by
  refine con_of Tryz.func5 22 [] rfl (fun w0 G0 => ?_)
  refine tc_rbn [0] [] ?_
  refine tc_seq ?_
  refine tc_region ?_
  refine runL_callR 6 (clerkNew_con G 1 (by first | assumption | omega | (simp; done) | (simp; omega)) 1 (by first | assumption | omega | (simp; done) | (simp; omega)) 1 (by first | assumption | omega | (simp; done) | (simp; omega))) (fun v G1 L1 hl1 hp => ?_)
  obtain ⟨a1, c1, a2, c2, a3, c3, rfl, w1, hs1, w2, w3, w4, hs2, hs3, rfl⟩ := hp
  refine runL_bn [0,0,0] [(7, .agg #[I (((clerkNew 1 1 1).1).queue.most), Sl a1 ((((clerkNew 1 1 1).1).queue.wait).length) c1, I (((clerkNew 1 1 1).1).batch), I (((clerkNew 1 1 1).1).every), I (((clerkNew 1 1 1).1).now), Sl a2 ((((clerkNew 1 1 1).1).heads).length) c2, Sl a3 ((((clerkNew 1 1 1).1).books).length) c3]), (8, I ((clerkNew 1 1 1).2))] ?_
  refine runL_box 1 #[I 0, Sl none 0 0, I 0, I 0, I 0, Sl none 0 0, Sl none 0 0] 45 (fun b1 => ?_)
  refine runL_bsn [3,0] [] [[Sg b1 0 [I (((clerkNew 1 1 1).1).queue.most), Sl a1 ((((clerkNew 1 1 1).1).queue.wait).length) c1, I (((clerkNew 1 1 1).1).batch), I (((clerkNew 1 1 1).1).every), I (((clerkNew 1 1 1).1).now), Sl a2 ((((clerkNew 1 1 1).1).heads).length) c2, Sl a3 ((((clerkNew 1 1 1).1).books).length) c3]]] ?_
  refine runL_nil ?_
  refine tq_then ?_
  refine tc_seq ?_
  refine tc_region ?_
  refine runL_bn [2] [(10, .agg #[I (((clerkNew 1 1 1).1).queue.most), Sl a1 ((((clerkNew 1 1 1).1).queue.wait).length) c1, I (((clerkNew 1 1 1).1).batch), I (((clerkNew 1 1 1).1).every), I (((clerkNew 1 1 1).1).now), Sl a2 ((((clerkNew 1 1 1).1).heads).length) c2, Sl a3 ((((clerkNew 1 1 1).1).books).length) c3])] ?_
  refine runL_callR 11 (serveLook_con G1 [I (((clerkNew 1 1 1).1).queue.most), Sl a1 ((((clerkNew 1 1 1).1).queue.wait).length) c1, I (((clerkNew 1 1 1).1).batch), I (((clerkNew 1 1 1).1).every), I (((clerkNew 1 1 1).1).now), Sl a2 ((((clerkNew 1 1 1).1).heads).length) c2, Sl a3 ((((clerkNew 1 1 1).1).books).length) c3] (((clerkNew 1 1 1).1)) (⟨a1, c1, a2, c2, a3, c3, rfl, w1, hs1, w2, w3, w4, hs2, hs3⟩) ([97]) (Nat.le_of_ble_eq_true rfl) 0 (by first | assumption | omega | (simp; done) | (simp; omega))) (fun v G2 L1 hl2 hp => ?_)
  obtain ⟨a4, c4, a5, c5, rfl, w5, w6, w7, w8, w9, hs4, hs5, rfl⟩ := hp
  refine runL_bn [0,0,0] [(12, .agg #[I (((serveLook (((clerkNew 1 1 1).1)) ([97]) 0).1).head.epoch), U (((serveLook (((clerkNew 1 1 1).1)) ([97]) 0).1).head.root), U (((serveLook (((clerkNew 1 1 1).1)) ([97]) 0).1).head.prev), I (((serveLook (((clerkNew 1 1 1).1)) ([97]) 0).1).head.at_), Sr (((serveLook (((clerkNew 1 1 1).1)) ([97]) 0).1).proof.name), Sl a4 ((((serveLook (((clerkNew 1 1 1).1)) ([97]) 0).1).proof.entries).length) c4, Sl a5 ((((serveLook (((clerkNew 1 1 1).1)) ([97]) 0).1).proof.sides).length) c5]), (13, I ((serveLook (((clerkNew 1 1 1).1)) ([97]) 0).2))] ?_
  refine runL_box 3 #[I 0, U 0, U 0, I 0, Sr ([]), Sl none 0 0, Sl none 0 0] 30 (fun b2 => ?_)
  refine runL_bsn [3,0] [(4, I ((serveLook (((clerkNew 1 1 1).1)) ([97]) 0).2))] [[Sg b2 0 [I (((serveLook (((clerkNew 1 1 1).1)) ([97]) 0).1).head.epoch), U (((serveLook (((clerkNew 1 1 1).1)) ([97]) 0).1).head.root), U (((serveLook (((clerkNew 1 1 1).1)) ([97]) 0).1).head.prev), I (((serveLook (((clerkNew 1 1 1).1)) ([97]) 0).1).head.at_), Sr (((serveLook (((clerkNew 1 1 1).1)) ([97]) 0).1).proof.name), Sl a4 ((((serveLook (((clerkNew 1 1 1).1)) ([97]) 0).1).proof.entries).length) c4, Sl a5 ((((serveLook (((clerkNew 1 1 1).1)) ([97]) 0).1).proof.sides).length) c5]], [Sg b1 0 [I (((clerkNew 1 1 1).1).queue.most), Sl a1 ((((clerkNew 1 1 1).1).queue.wait).length) c1, I (((clerkNew 1 1 1).1).batch), I (((clerkNew 1 1 1).1).every), I (((clerkNew 1 1 1).1).now), Sl a2 ((((clerkNew 1 1 1).1).heads).length) c2, Sl a3 ((((clerkNew 1 1 1).1).books).length) c3]]] ?_
  refine runL_nil ?_
  refine tq_then ?_
  refine tc_seq ?_
  refine tc_region ?_
  refine runL_bn [0,0,0] [(16, Bo (decide ((serveLook (((clerkNew 1 1 1).1)) ([97]) 0).2 = 0)))] ?_
  refine runL_b2n (decide ((serveLook (((clerkNew 1 1 1).1)) ([97]) 0).2 = 0)) [16] [0,0,2,0,0] [1,1,1,1,0] (fun bb => [(21, Bo (bb && (((B (((serveLook (((clerkNew 1 1 1).1)) ([97]) 0).1).proof.name)).toList == (B ([97])).toList))))]) ?_
  refine runL_put 21 (Bo ((decide ((serveLook (((clerkNew 1 1 1).1)) ([97]) 0).2 = 0)) && ((((serveLook (((clerkNew 1 1 1).1)) ([97]) 0).1).proof.name == [97])))) ((show (Bo ((decide ((serveLook (((clerkNew 1 1 1).1)) ([97]) 0).2 = 0)) && (((B (((serveLook (((clerkNew 1 1 1).1)) ([97]) 0).1).proof.name)).toList == (B ([97])).toList))) : Value) = Bo ((decide ((serveLook (((clerkNew 1 1 1).1)) ([97]) 0).2 = 0)) && ((((serveLook (((clerkNew 1 1 1).1)) ([97]) 0).1).proof.name == [97]))) by simp only [B_toList])) ?_
  refine runL_bn [0] [(0, Bo ((decide ((serveLook (((clerkNew 1 1 1).1)) ([97]) 0).2 = 0)) && ((((serveLook (((clerkNew 1 1 1).1)) ([97]) 0).1).proof.name == [97]))))] ?_
  refine runL_nil ?_
  refine tq_then ?_
  refine tc_ret ?_
  refine tq_ret [0] [Bo ((decide ((serveLook (((clerkNew 1 1 1).1)) ([97]) 0).2 = 0)) && ((((serveLook (((clerkNew 1 1 1).1)) ([97]) 0).1).proof.name == [97])))] (bp_ret (Mem.le_trans hl1 hl2) ?_)
  have hf_ : ((decide ((serveLook (((clerkNew 1 1 1).1)) ([97]) 0).2 = 0)) && ((((serveLook (((clerkNew 1 1 1).1)) ([97]) 0).1).proof.name == [97]))) = true := by
    have q_ := serves_law; first | (simp [q_]; done) | (simp_all; done)
  exact congrArg Bo hf_
end Go.Proofs.YtpofnmobbbcpgaaGreatDoor
