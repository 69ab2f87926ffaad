import Derived.Test.YtmpakffajpnffaaGreatDoorVbClerk
namespace Go.Proofs.YtmpakffajpnffaaGreatDoor
open Go.Tx
set_option linter.unusedVariables false
set_option linter.unusedSimpArgs false
open Go.Tx Go.Proofs
def replyZ : ReplyD := ⟨headZ, proofZ⟩
def serveLook (c : ClerkD) (name : List UInt8) (epoch : Int) : ReplyD × Int := if ¬ (clerkBook c epoch).2 = 0 then (replyZ, (clerkBook c epoch).2) else if ¬ (proofMake (clerkBook c epoch).1 name).2 = 0 then (replyZ, (proofMake (clerkBook c epoch).1 name).2) else (⟨c.heads[epoch.toNat]?.getD headZ, (proofMake (clerkBook c epoch).1 name).1⟩, 0)
theorem look_law {c : ClerkD} {name : List UInt8} {e : Int} (h : (serveLook c name e).2 = 0) : (clerkBook c e).2 = 0 ∧ serveTell (serveLook c name e).1 = treeGet (clerkBook c e).1 name ∧ (treeGet (clerkBook c e).1 name).2.2 = 0 ∧ (serveLook c name e).1.head.epoch = e := by
  unfold serveLook at h ⊢
  split at h
  · contradiction
  split at h
  · contradiction
  · rename_i h1 h2
    rw [if_neg h1, if_neg h2]
    have b1 := Decidable.not_not.1 h1
    have b2 := Decidable.not_not.1 h2
    obtain ⟨ok, e0, e1, hx⟩ := book_ok b1
    obtain ⟨q1, q2, q3, q4⟩ := holds_law b2
    obtain ⟨r1, r2⟩ := ok.root _ _ hx
    have hl : e.toNat < c.heads.length := by rw [← ok.len]; omega
    have hh : c.heads[e.toNat]? = some c.heads[e.toNat] := List.getElem?_eq_getElem hl
    have hc := ok.chain.ok _ (List.getElem_mem hl)
    have he := ok.chain.epoch _ _ hh
    rw [hh] at r2 ⊢
    simp only [Option.getD_some] at r2 ⊢
    refine ⟨b1, ?_, q3, ?_⟩
    · unfold serveTell
      simp only
      rw [if_neg (by rw [hc]; simp), ← r2]
      exact q2
    · rw [he, ok.first]; omega
theorem serveLook_con (G : Mem) (vs_c : List Value) (c : ClerkD) (h_c : EClerk.R G vs_c c) (name : List UInt8) (hw_name : (name).length ≤ 140737488351232) (epoch : Int) (hw_epoch : -9223372036854775808 ≤ epoch ∧ epoch < 9223372036854775808)  : Con Tryz.prog 13 #[.agg vs_c.toArray, Sr name, I epoch] G [] (fun u G' L' => ∃ (a1 : Option Addr) (c2 : Nat) (a3 : Option Addr) (c4 : Nat), u = .tuple #[.agg #[I (((serveLook c name epoch).1).head.epoch), U (((serveLook c name epoch).1).head.root), U (((serveLook c name epoch).1).head.prev), I (((serveLook c name epoch).1).head.at_), Sr (((serveLook c name epoch).1).proof.name), Sl a1 ((((serveLook c name epoch).1).proof.entries).length) c2, Sl a3 ((((serveLook c name epoch).1).proof.sides).length) c4], I ((serveLook c name epoch).2)] ∧ (-9223372036854775808 ≤ (((serveLook c name epoch).1).head.epoch) ∧ (((serveLook c name epoch).1).head.epoch) < 9223372036854775808) ∧ (0 ≤ (((serveLook c name epoch).1).head.root) ∧ (((serveLook c name epoch).1).head.root) < 18446744073709551616) ∧ (0 ≤ (((serveLook c name epoch).1).head.prev) ∧ (((serveLook c name epoch).1).head.prev) < 18446744073709551616) ∧ (-9223372036854775808 ≤ (((serveLook c name epoch).1).head.at_) ∧ (((serveLook c name epoch).1).head.at_) < 9223372036854775808) ∧ ((((serveLook c name epoch).1).proof.name).length ≤ 140737488351232) ∧ (RS EEnt G' a1 c2 (((serveLook c name epoch).1).proof.entries)) ∧ (RS EU G' a3 c4 (((serveLook c name epoch).1).proof.sides)) ∧ L' = []) := by
 obtain ⟨a1, c1, a2, c2, a3, c3, rfl, w1, hs1, w2, w3, w4, hs2, hs3⟩ := h_c
 refine con_of Tryz.func13 38 [(0, .agg #[I c.queue.most, Sl a1 c.queue.wait.length c1, I c.batch, I c.every, I c.now, Sl a2 c.heads.length c2, Sl a3 c.books.length c3]), (1, Sr name), (2, I epoch)] rfl (fun w0 G0 => ?_)
 refine tc_seq (tc_region ?_)
 refine runL_box 3 #[I c.queue.most, Sl a1 c.queue.wait.length c1, I c.batch, I c.every, I c.now, Sl a2 c.heads.length c2, Sl a3 c.books.length c3] 28 (fun b1 => ?_)
 refine runL_box 6 #[I 0, U 0, U 0, I 0, Sr ([]), Sl none 0 0, Sl none 0 0] 38 (fun b2 => ?_)
 refine runL_b [0] [(1, Sr name), (2, I epoch), (3, Pt b1 0), (6, Pt b2 0)] (runL_nil (tq_then (tc_seq (tc_region ?_))))
 refine runL_b [4,0] [(1, Sr name), (2, I epoch), (3, Pt b1 0), (6, Pt b2 0), (12, .agg #[I c.queue.most, Sl a1 c.queue.wait.length c1, I c.batch, I c.every, I c.now, Sl a2 c.heads.length c2, Sl a3 c.books.length c3]), (13, I epoch)] ?_
 refine runL_callR 14 (clerkBook_con G [I c.queue.most, Sl a1 c.queue.wait.length c1, I c.batch, I c.every, I c.now, Sl a2 c.heads.length c2, Sl a3 c.books.length c3] c (⟨a1, c1, a2, c2, a3, c3, rfl, w1, hs1, w2, w3, w4, hs2, hs3⟩) epoch hw_epoch) (fun v G1 L1 hl1 hp => ?_)
 obtain ⟨a4, c4, r1, rfl, hr1, rfl⟩ := hp
 refine runL_b [0,0,0,0,0] [(1, Sr name), (2, I epoch), (3, Pt b1 0), (6, Pt b2 0), (8, Sl a4 (((clerkBook c epoch).1).length) c4), (9, I ((clerkBook c epoch).2))] (runL_nil (tq_then (tc_seq ?_)))
 refine tc_rb [0,0] [(1, Sr name), (2, I epoch), (3, Pt b1 0), (6, Pt b2 0), (8, Sl a4 (((clerkBook c epoch).1).length) c4), (9, I ((clerkBook c epoch).2)), (18, Bo (!decide ((clerkBook c epoch).2 = 0)))] ?_
 refine tc_cond (!decide ((clerkBook c epoch).2 = 0)) (fun h1 => ?_) (fun h1 => ?_)
 ·
  try simp only [BB] at h1
  refine tc_rb [0,0,5,0] [(6, Pt b2 0), (7, I ((clerkBook c epoch).2))] (tc_ret (tq_then_ret ?_))
  have hf1 : serveLook c name epoch = ((⟨(⟨0, 0, 0, 0⟩ : HeadD), (⟨[], [], []⟩ : ProofD)⟩ : ReplyD), (clerkBook c epoch).2) := by
   unfold serveLook replyZ; first | (rw [if_pos (by assumption)]; rfl) | (rw [if_neg (by first | omega | simp_all)]; first | (rw [if_pos (by assumption)]; rfl) | (rw [if_neg (by simp_all)]; simp_all; done))
  refine tq_ret [1, 0] [.agg #[I 0, U 0, U 0, I 0, Sr ([]), Sl none 0 0, Sl none 0 0], I ((clerkBook c epoch).2)] (bp_rows [] (.cons _ (.cons _ (.cons _ .slnil))) hl1 ?_)
  rw [hf1]
  try dsimp only
  exact ⟨none, 0, none, 0, rfl, (by first | assumption | omega | (simp; done) | (simp; omega)), (by first | assumption | omega | (simp; done) | (simp; omega)), (by first | assumption | omega | (simp; done) | (simp; omega)), (by first | assumption | omega | (simp; done) | (simp; omega)), (Nat.le_of_ble_eq_true rfl), (RS.nil' EEnt G1), (RS.nil' EU G1), rfl⟩
 ·
  try simp only [BB] at h1
  refine tc_skip (tq_then (tc_seq (tc_region ?_)))
  refine runL_b [0,0] [(2, I epoch), (3, Pt b1 0), (6, Pt b2 0), (9, I ((clerkBook c epoch).2)), (22, Sl a4 (((clerkBook c epoch).1).length) c4), (23, Sr name)] ?_
  refine runL_frzR (E := EEnt) 0 hr1 (by have q_ := book_len c epoch; simp only [EEnt]; omega) (fun G2 hl2 hs4 => ?_)
  refine runL_callR 24 (proofMake_con G2 a4 c4 ((clerkBook c epoch).1) hs4 name hw_name) (fun v G3 L1 hl3 hp => ?_)
  obtain ⟨a5, c5, a6, c6, rfl, w5, hs5, hs6, rfl⟩ := hp
  refine runL_b [0,0,0] [(2, I epoch), (3, Pt b1 0), (6, Pt b2 0), (9, I ((clerkBook c epoch).2)), (25, .agg #[Sr (((proofMake ((clerkBook c epoch).1) name).1).name), Sl a5 ((((proofMake ((clerkBook c epoch).1) name).1).entries).length) c5, Sl a6 ((((proofMake ((clerkBook c epoch).1) name).1).sides).length) c6]), (26, I ((proofMake ((clerkBook c epoch).1) name).2))] ?_
  refine runL_box 10 #[Sr ([]), Sl none 0 0, Sl none 0 0] 36 (fun b3 => ?_)
  refine runL_bs [3,0] [(2, I epoch), (3, Pt b1 0), (6, Pt b2 0), (9, I ((proofMake ((clerkBook c epoch).1) name).2)), (10, Pt b3 0)] [[Sg b3 0 [Sr (((proofMake ((clerkBook c epoch).1) name).1).name), Sl a5 ((((proofMake ((clerkBook c epoch).1) name).1).entries).length) c5, Sl a6 ((((proofMake ((clerkBook c epoch).1) name).1).sides).length) c6]], [], [Sg b2 0 [I 0, U 0, U 0, I 0, Sr ([]), Sl none 0 0, Sl none 0 0]], [Sg b1 0 [I c.queue.most, Sl a1 c.queue.wait.length c1, I c.batch, I c.every, I c.now, Sl a2 c.heads.length c2, Sl a3 c.books.length c3]]] (runL_nil (tq_then (tc_seq ?_)))
  refine tc_rb [0,0] [(2, I epoch), (3, Pt b1 0), (6, Pt b2 0), (9, I ((proofMake ((clerkBook c epoch).1) name).2)), (10, Pt b3 0), (28, Bo (!decide ((proofMake ((clerkBook c epoch).1) name).2 = 0)))] ?_
  refine tc_cond (!decide ((proofMake ((clerkBook c epoch).1) name).2 = 0)) (fun h2 => ?_) (fun h2 => ?_)
  ·
   try simp only [BB] at h2
   refine tc_rb [0,0,7,0] [(6, Pt b2 0), (7, I ((proofMake ((clerkBook c epoch).1) name).2))] (tc_ret (tq_then_ret ?_))
   have hf2 : serveLook c name epoch = ((⟨(⟨0, 0, 0, 0⟩ : HeadD), (⟨[], [], []⟩ : ProofD)⟩ : ReplyD), (proofMake ((clerkBook c epoch).1) name).2) := by
    unfold serveLook replyZ; first | (rw [if_pos (by assumption)]; rfl) | (rw [if_neg (by first | omega | simp_all)]; first | (rw [if_pos (by assumption)]; rfl) | (rw [if_neg (by simp_all)]; simp_all; done))
   refine tq_ret [2, 0] [.agg #[I 0, U 0, U 0, I 0, Sr ([]), Sl none 0 0, Sl none 0 0], I ((proofMake ((clerkBook c epoch).1) name).2)] (bp_rows [] (.cons _ (.cons _ (.cons _ (.cons _ .slnil)))) (Mem.le_trans (Mem.le_trans hl1 hl2) hl3) ?_)
   rw [hf2]
   try dsimp only
   exact ⟨none, 0, none, 0, rfl, (by first | assumption | omega | (simp; done) | (simp; omega)), (by first | assumption | omega | (simp; done) | (simp; omega)), (by first | assumption | omega | (simp; done) | (simp; omega)), (by first | assumption | omega | (simp; done) | (simp; omega)), (Nat.le_of_ble_eq_true rfl), (RS.nil' EEnt G3), (RS.nil' EU G3), rfl⟩
  ·
   try simp only [BB] at h2
   refine tc_skip (tq_then ?_)
   obtain ⟨kn1, hkn1⟩ : ∃ k_ : Nat, epoch = (k_ : Int) := ⟨(epoch).toNat, by first | omega | (have q_ := book_ok (c := c) (by assumption); have q1_ := q_.1.len; omega)⟩
   have e1 : epoch = (kn1 : Int) := hkn1
   refine tc_eq (fr' := [(2, I (kn1 : Int)), (3, Pt b1 0), (6, Pt b2 0), (9, I ((proofMake ((clerkBook c epoch).1) name).2)), (10, Pt b3 0), (28, Bo (!decide ((proofMake ((clerkBook c epoch).1) name).2 = 0)))]) (L' := [[Sg b3 0 [Sr (((proofMake ((clerkBook c epoch).1) name).1).name), Sl a5 ((((proofMake ((clerkBook c epoch).1) name).1).entries).length) c5, Sl a6 ((((proofMake ((clerkBook c epoch).1) name).1).sides).length) c6]], [], [Sg b2 0 [I 0, U 0, U 0, I 0, Sr ([]), Sl none 0 0, Sl none 0 0]], [Sg b1 0 [I c.queue.most, Sl a1 c.queue.wait.length c1, I c.batch, I c.every, I c.now, Sl a2 c.heads.length c2, Sl a3 c.books.length c3]]]) (by first | rfl | simp only [e1]) (by first | rfl | simp only [e1]) ?_
   refine tc_seq ?_
   obtain ⟨b4, o1, rfl⟩ := RS.addr (hs2.mono (Mem.le_trans (Mem.le_trans hl1 hl2) hl3)) (k := kn1) (by first | omega | (have q_ := book_ok (c := c) (by assumption); have q1_ := q_.1.len; omega))
   obtain ⟨x1, hx1⟩ := getX (l := c.heads) (k := kn1) (by first | omega | (have q_ := book_ok (c := c) (by assumption); have q1_ := q_.1.len; omega))
   obtain ⟨_, ⟨rfl, w6, w7, w8, w9⟩, hc1⟩ := RS.get (hs2.mono (Mem.le_trans (Mem.le_trans hl1 hl2) hl3)) hx1
   refine tc_draw [7] ?_
   refine dr_V [(0, Pt b1 5), (1, Sl (At b4 o1) c.heads.length c2), (2, I (kn1 : Int)), (3, Pt b4 (o1 + kn1 * 4)), (4, .agg #[I x1.epoch, U x1.root, U x1.prev, I x1.at_]), (5, .agg #[Sr (((proofMake ((clerkBook c epoch).1) name).1).name), Sl a5 ((((proofMake ((clerkBook c epoch).1) name).1).entries).length) c5, Sl a6 ((((proofMake ((clerkBook c epoch).1) name).1).sides).length) c6]), (6, .agg #[I x1.epoch, U x1.root, U x1.prev, I x1.at_, Sr (((proofMake ((clerkBook c epoch).1) name).1).name), Sl a5 ((((proofMake ((clerkBook c epoch).1) name).1).entries).length) c5, Sl a6 ((((proofMake ((clerkBook c epoch).1) name).1).sides).length) c6])] ?_
   refine dr_mid [] [(0,0), (1,8), (2,0), (5,2), (6,0)] [3, 4] [7] (List.forall_mem_cons.2 ⟨?_, (List.forall_mem_cons.2 ⟨?_, List.forall_mem_nil _⟩)⟩) (List.forall_mem_cons.2 ⟨?_, List.forall_mem_nil _⟩)
   ·
    refine stab_of 3 34 (Pt b4 (o1 + kn1 * 4)) [(32, Sl (At b4 o1) c.heads.length c2), (33, I (kn1 : Int))] (fun X => ?_)
    exact runL_idx (b := b4) (off := o1) (len := c.heads.length) (cap := c2) (ik := .i64) 34 32 4 kn1 (by first | omega | (have q_ := book_ok (c := c) (by assumption); have q1_ := q_.1.len; omega)) stab_end
   ·
    refine stab_of 4 35 (.agg #[I x1.epoch, U x1.root, U x1.prev, I x1.at_]) [(34, Pt b4 (o1 + kn1 * 4))] (fun X => ?_)
    exact runL_ldG 35 32 (cs := [I x1.epoch, U x1.root, U x1.prev, I x1.at_]) 0 (.agg #[I x1.epoch, U x1.root, U x1.prev, I x1.at_]) hc1 stab_end
   refine act_of 7 [(6, Pt b2 0), (37, .agg #[I x1.epoch, U x1.root, U x1.prev, I x1.at_, Sr (((proofMake ((clerkBook c epoch).1) name).1).name), Sl a5 ((((proofMake ((clerkBook c epoch).1) name).1).entries).length) c5, Sl a6 ((((proofMake ((clerkBook c epoch).1) name).1).sides).length) c6])] (fun X => ?_)
   refine runL_st 2 [[Sg b3 0 [Sr (((proofMake ((clerkBook c epoch).1) name).1).name), Sl a5 ((((proofMake ((clerkBook c epoch).1) name).1).entries).length) c5, Sl a6 ((((proofMake ((clerkBook c epoch).1) name).1).sides).length) c6]], [], [Sg b2 0 [I x1.epoch, U x1.root, U x1.prev, I x1.at_, Sr (((proofMake ((clerkBook c epoch).1) name).1).name), Sl a5 ((((proofMake ((clerkBook c epoch).1) name).1).entries).length) c5, Sl a6 ((((proofMake ((clerkBook c epoch).1) name).1).sides).length) c6]], [Sg b1 0 [I c.queue.most, Sl a1 c.queue.wait.length c1, I c.batch, I c.every, I c.now, Sl (At b4 o1) c.heads.length c2, Sl a3 c.books.length c3]]] ?_
   refine act_end0 (V' := [(0, Pt b1 5), (1, Sl (At b4 o1) c.heads.length c2), (2, I (kn1 : Int)), (3, Pt b4 (o1 + kn1 * 4)), (4, .agg #[I x1.epoch, U x1.root, U x1.prev, I x1.at_]), (5, .agg #[Sr (((proofMake ((clerkBook c epoch).1) name).1).name), Sl a5 ((((proofMake ((clerkBook c epoch).1) name).1).entries).length) c5, Sl a6 ((((proofMake ((clerkBook c epoch).1) name).1).sides).length) c6]), (6, .agg #[I x1.epoch, U x1.root, U x1.prev, I x1.at_, Sr (((proofMake ((clerkBook c epoch).1) name).1).name), Sl a5 ((((proofMake ((clerkBook c epoch).1) name).1).entries).length) c5, Sl a6 ((((proofMake ((clerkBook c epoch).1) name).1).sides).length) c6]), (8, I 0)]) ?_
   refine dr_end [0, 1, 2, 3, 4, 5, 6] [(8,0)] [] [(6, Pt b2 0), (7, I 0)] (List.forall_mem_nil _) ?_
   refine tq_then (tc_ret ?_)
   have hf3 : serveLook c name epoch = ((⟨x1, ((proofMake ((clerkBook c epoch).1) name).1)⟩ : ReplyD), 0) := by
    unfold serveLook replyZ; first | (rw [if_pos (by assumption)]; rfl) | (rw [if_neg (by first | omega | simp_all)]; first | (rw [if_pos (by assumption)]; rfl) | (rw [if_neg (by simp_all)]; simp_all; done))
   refine tq_ret [2, 0] [.agg #[I x1.epoch, U x1.root, U x1.prev, I x1.at_, Sr (((proofMake ((clerkBook c epoch).1) name).1).name), Sl a5 ((((proofMake ((clerkBook c epoch).1) name).1).entries).length) c5, Sl a6 ((((proofMake ((clerkBook c epoch).1) name).1).sides).length) c6], I 0] (bp_rows [] (.cons _ (.cons _ (.cons _ (.cons _ .slnil)))) (Mem.le_trans (Mem.le_trans hl1 hl2) hl3) ?_)
   rw [hf3]
   try dsimp only
   exact ⟨a5, c5, a6, c6, rfl, w6, w7, w8, w9, w5, hs5, hs6, rfl⟩
end Go.Proofs.YtmpakffajpnffaaGreatDoor
