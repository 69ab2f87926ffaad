import Derived.Test.YtmpakffajpnffaaGreatDoorVbClash
import Derived.Test.YtmpakffajpnffaaGreatDoorVbChain
import Derived.Test.YtmpakffajpnffaaGreatDoorVbOwner
namespace Go.Proofs.YtmpakffajpnffaaGreatDoor
open Go.Tx
set_option linter.unusedVariables false
set_option linter.unusedSimpArgs false
def proofRoot (p : ProofD) : Int × Int := if (proofSaid p).2 ≠ 0 then (0, (proofSaid p).2) else (markOf (lastT (proofSaid p).1), 0)
def proofHeld (root : Int) (p : ProofD) : Int := if (proofRoot p).2 = 0 ∧ ¬ (proofRoot p).1 = root then 8 else (proofRoot p).2
def proofTell (root : Int) (p : ProofD) : List UInt8 × Bool × Int := if ¬ proofHeld root p = 0 then ([], false, proofHeld root p) else treeGet p.entries p.name
def serveTell (r : ReplyD) : List UInt8 × Bool × Int := if ¬ headCheck r.head = 0 then ([], false, headCheck r.head) else proofTell r.head.root r.proof
theorem proofSaid_len {p : ProofD} (h : (proofSaid p).2 = 0) : (proofSaid p).1.length = 17 := by
  unfold proofSaid at h ⊢
  split at h
  · contradiction
  · rename_i h1
    rw [if_neg h1]
    simp only
    rw [pOut_len, (proofRight_iff.1 (Decidable.not_not.1 h1)).sides]
def linkDiff (x h : HeadD) : Bool := decide (x.epoch = h.epoch) && !decide (x = h)
def ownerLinks (h : HeadD) (l : List HeadD) : Int := if ¬ (chainCheck l).1 = 0 ∨ (firstH l).epoch > h.epoch + 1 then 2 else if (firstH l).epoch = h.epoch + 1 ∧ (chainFollows h l).1 = false then 2 else if (l.any fun x0 => linkDiff x0 h) = true then 3 else if (lastH l).epoch ≤ h.epoch then 1 else 0
def hadFrom (o : OwnerD) : Int := if 0 > o.had - 1 then 0 else o.had - 1
def hadIdx (o : OwnerD) (w : List UInt8) : Int := idxF (fun x => decide (w = x)) (o.wanted.drop (hadFrom o).toNat)
def ownerVerdict (o : OwnerD) (l : List HeadD) (r : ReplyD) : Int × Int := if ¬ ownerLinks o.head l = 0 then (ownerLinks o.head l, 0) else if (¬ (serveTell r).2.2 = 0 ∨ ¬ r.head = lastH l) ∨ ¬ r.proof.name = o.name then (4, 0) else if (serveTell r).2.1 = false ∧ o.had > 0 then (5, 0) else if (serveTell r).2.1 = false then (0, 0) else if hadIdx o (serveTell r).1 < 0 then (6, 0) else (0, hadFrom o + hadIdx o (serveTell r).1 + 1)
def ownerSee (o : OwnerD) (l : List HeadD) (r : ReplyD) : OwnerD × Int × Int := if ¬ ownerCheck o = 0 then (ownerZ, 0, ownerCheck o) else if (ownerVerdict o l r).1 = 0 then (⟨o.name, o.key, r.head, o.wanted, (ownerVerdict o l r).2⟩, 0, 0) else (o, (ownerVerdict o l r).1, 0)
theorem links_ok {h : HeadD} {l : List HeadD} (e : ownerLinks h l = 0) : ChainOk l ∧ h.epoch < (lastH l).epoch := by
  unfold ownerLinks at e
  split at e
  · cases e
  split at e
  · cases e
  split at e
  · cases e
  split at e
  · cases e
  · rename_i h1 _ _ h4
    exact ⟨chainCheck_iff.1 (Decidable.not_not.1 fun hc => h1 (.inl hc)), by omega⟩
theorem links_c1 {h : HeadD} {l : List HeadD} {x : HeadD} (h1 : ¬ (chainCheck l).1 = 0 ∨ (l[0]? = some x ∧ x.epoch > h.epoch + 1)) : ownerLinks h l = 2 := by
  unfold ownerLinks
  rw [if_pos]
  rcases h1 with h1 | ⟨h1, h2⟩
  · exact .inl h1
  · rw [← firstH_get h1]; exact .inr h2
theorem links_c2 {h : HeadD} {l : List HeadD} {x : HeadD} (h0 : (chainCheck l).1 = 0) (h1 : l[0]? = some x) (h2 : x.epoch ≤ h.epoch + 1) (h3 : x.epoch = h.epoch + 1) (h4 : (chainFollows h l).1 = false) : ownerLinks h l = 2 := by
  unfold ownerLinks
  rw [← firstH_get h1, if_neg (by omega), if_pos ⟨h3, h4⟩]
theorem links_c3 {h : HeadD} {l : List HeadD} {x : HeadD} (h0 : (chainCheck l).1 = 0) (h1 : l[0]? = some x) (h2 : x.epoch ≤ h.epoch + 1) (h3 : ¬ x.epoch = h.epoch + 1 ∨ (chainFollows h l).1 = true) : ownerLinks h l = if (l.any fun x0 => linkDiff x0 h) = true then 3 else if (lastH l).epoch ≤ h.epoch then 1 else 0 := by
  unfold ownerLinks
  rw [← firstH_get h1, if_neg (by omega), if_neg]
  rintro ⟨a, b⟩
  rcases h3 with h3 | h3
  · exact h3 a
  · rw [h3] at b; cases b
theorem idxF_le {α : Type} (p : α → Bool) (l : List α) : -1 ≤ idxF p l ∧ idxF p l < l.length + 1 := by
  by_cases h : idxF p l < 0
  · refine ⟨?_, by omega⟩
    unfold idxF; split <;> omega
  · obtain ⟨k, hk⟩ : ∃ k : Nat, idxF p l = k := ⟨_, (Int.toNat_of_nonneg (by omega)).symm⟩
    obtain ⟨x, hx, _⟩ := idxF_ge hk
    have := (List.getElem?_eq_some_iff.1 hx).1
    omega
theorem verd_c0 {o : OwnerD} {l : List HeadD} {r : ReplyD} {x : HeadD} (h0 : ownerLinks o.head l = 0) (h1 : (serveTell r).2.2 = 0) (h2 : l[l.length - 1]? = some x) (h3 : ((r.head.epoch = x.epoch ∧ r.head.root = x.root) ∧ r.head.prev = x.prev) ∧ r.head.at_ = x.at_) (h4 : r.proof.name = o.name) :
    ownerVerdict o l r = if (serveTell r).2.1 = false ∧ o.had > 0 then (5, 0) else if (serveTell r).2.1 = false then (0, 0) else if hadIdx o (serveTell r).1 < 0 then (6, 0) else (0, hadFrom o + hadIdx o (serveTell r).1 + 1) := by
  unfold ownerVerdict
  have e := lastH_get rfl h2
  have e2 : r.head = lastH l := by rw [← e, HeadD_ne]; exact ⟨h3.1.1.1, h3.1.1.2, h3.1.2, h3.2⟩
  rw [if_neg (by omega), if_neg]
  rintro ((a | a) | a)
  · exact a h1
  · exact a e2
  · exact a h4
theorem verd_c1 {o : OwnerD} {l : List HeadD} {r : ReplyD} (h0 : ownerLinks o.head l = 0) (h1 : (¬ (serveTell r).2.2 = 0 ∨ ∃ x, l[l.length - 1]? = some x ∧ (((r.head.epoch = x.epoch ∧ r.head.root = x.root) ∧ r.head.prev = x.prev) → ¬ r.head.at_ = x.at_)) ∨ ¬ r.proof.name = o.name) : ownerVerdict o l r = (4, 0) := by
  unfold ownerVerdict
  rw [if_neg (by omega), if_pos]
  rcases h1 with (h1 | ⟨x, h1, h2⟩) | h1
  · exact .inl (.inl h1)
  · refine .inl (.inr ?_)
    rw [← lastH_get rfl h1, HeadD_ne]
    rintro ⟨a, b, c, d⟩
    exact h2 ⟨⟨a, b⟩, c⟩ d
  · exact .inr h1
theorem verd_idx {o : OwnerD} {k : Nat} (w : List UInt8) (h : (if 0 > o.had - 1 then 0 else o.had - 1) = (k : Int)) : hadFrom o = k ∧ hadIdx o w = idxF (fun x => decide (w = x)) (o.wanted.drop k) := by
  have e : hadFrom o = k := h
  refine ⟨e, ?_⟩
  unfold hadIdx; rw [e]; rfl
theorem hadIdx_spec {o : OwnerD} {w : List UInt8} (h : ¬ hadIdx o w < 0) : ∃ k : Nat, hadIdx o w = k ∧ o.wanted[(hadFrom o).toNat + k]? = some w := by
  obtain ⟨k, hk⟩ : ∃ k : Nat, hadIdx o w = k := ⟨_, (Int.toNat_of_nonneg (by omega)).symm⟩
  refine ⟨k, hk, ?_⟩
  unfold hadIdx at hk
  obtain ⟨x, hx, hp⟩ := idxF_ge hk
  rw [List.getElem?_drop] at hx
  rw [hx, of_decide_eq_true hp]
theorem verdict_fine {o : OwnerD} {l : List HeadD} {r : ReplyD} (hc : ownerCheck o = 0) (h : (ownerVerdict o l r).1 = 0) :
    (serveTell r).2.2 = 0 ∧ o.head.epoch < r.head.epoch ∧ headCheck r.head = 0 ∧ o.had ≤ (ownerVerdict o l r).2 ∧ 0 ≤ (ownerVerdict o l r).2 ∧ (ownerVerdict o l r).2 ≤ o.wanted.length ∧
    ((serveTell r).2.1 = false → (ownerVerdict o l r).2 = 0 ∧ o.had = 0) ∧ ((serveTell r).2.1 = true → 1 ≤ (ownerVerdict o l r).2 ∧ ∃ k : Nat, (ownerVerdict o l r).2 - 1 = k ∧ o.wanted[k]? = some (serveTell r).1) := by
  have ho := ownerCheck_iff.1 hc
  unfold ownerVerdict at h ⊢
  by_cases h1 : ownerLinks o.head l = 0
  · rw [if_neg (by omega)] at h ⊢
    obtain ⟨c1, c2⟩ := links_ok h1
    by_cases h2 : (¬ (serveTell r).2.2 = 0 ∨ ¬ r.head = lastH l) ∨ ¬ r.proof.name = o.name
    · rw [if_pos h2] at h; cases h
    · rw [if_neg h2] at h ⊢
      have e1 : (serveTell r).2.2 = 0 := Decidable.not_not.1 fun hc => h2 (.inl (.inl hc))
      have e2 : r.head = lastH l := Decidable.not_not.1 fun hc => h2 (.inl (.inr hc))
      have e3 : headCheck r.head = 0 := by rw [e2]; exact c1.ok _ (List.mem_of_getElem? c1.last)
      by_cases h3 : (serveTell r).2.1 = false ∧ o.had > 0
      · rw [if_pos h3] at h; cases h
      · rw [if_neg h3] at h ⊢
        by_cases h4 : (serveTell r).2.1 = false
        · rw [if_pos h4] at h ⊢
          have : ¬ o.had > 0 := fun hc => h3 ⟨h4, hc⟩
          exact ⟨e1, by rw [e2]; exact c2, e3, by simp only; omega, by simp, by simp, fun _ => ⟨rfl, by omega⟩, fun hc => by rw [h4] at hc; cases hc⟩
        · rw [if_neg h4] at h ⊢
          by_cases h5 : hadIdx o (serveTell r).1 < 0
          · rw [if_pos h5] at h; cases h
          · rw [if_neg h5]
            obtain ⟨k, hk, hw⟩ := hadIdx_spec h5
            have hlt := (List.getElem?_eq_some_iff.1 hw).1
            have hf : 0 ≤ hadFrom o ∧ o.had - 1 ≤ hadFrom o := by unfold hadFrom; split <;> omega
            simp only
            refine ⟨e1, by rw [e2]; exact c2, e3, by omega, by omega, by omega, fun hc => absurd hc h4, fun _ => ⟨by omega, (hadFrom o).toNat + k, by omega, hw⟩⟩
  · rw [if_pos h1] at h; exact absurd h h1
theorem see_ok {o : OwnerD} {l : List HeadD} {r : ReplyD} (h : (ownerSee o l r).2.2 = 0) : ownerCheck o = 0 ∧ (ownerSee o l r).2.1 = (ownerVerdict o l r).1 ∧ ((ownerVerdict o l r).1 = 0 → (ownerSee o l r).1 = ⟨o.name, o.key, r.head, o.wanted, (ownerVerdict o l r).2⟩) ∧ (¬ (ownerVerdict o l r).1 = 0 → (ownerSee o l r).1 = o) := by
  unfold ownerSee at h ⊢
  by_cases h1 : ownerCheck o = 0
  · rw [if_neg (by omega)] at h ⊢
    by_cases h2 : (ownerVerdict o l r).1 = 0
    · rw [if_pos h2]; exact ⟨h1, h2.symm, fun _ => rfl, fun hc => absurd h2 hc⟩
    · rw [if_neg h2]; exact ⟨h1, rfl, fun hc => absurd hc h2, fun _ => rfl⟩
  · rw [if_pos h1] at h; exact absurd h h1
theorem see_fine {o : OwnerD} {l : List HeadD} {r : ReplyD} (h : (ownerSee o l r).2.2 = 0) (hv : (ownerSee o l r).2.1 = 0) : (serveTell r).2.2 = 0 ∧ (ownerSee o l r).1.head = r.head ∧ o.head.epoch < (ownerSee o l r).1.head.epoch ∧ o.had ≤ (ownerSee o l r).1.had ∧ ownerCheck (ownerSee o l r).1 = 0 ∧ ((serveTell r).2.1 = false → (ownerSee o l r).1.had = 0 ∧ o.had = 0) ∧ ((serveTell r).2.1 = true → 1 ≤ (ownerSee o l r).1.had ∧ (ownerSee o l r).1.had ≤ o.wanted.length ∧ ∃ k : Nat, (ownerSee o l r).1.had - 1 = k ∧ o.wanted[k]? = some (serveTell r).1) := by
  obtain ⟨h1, h2, h3, _⟩ := see_ok h
  have hv0 : (ownerVerdict o l r).1 = 0 := by rw [← h2]; exact hv
  have hx := h3 hv0
  have ho := ownerCheck_iff.1 h1
  obtain ⟨a1, a2, a3, a4, a5, a6, a7, a8⟩ := verdict_fine h1 hv0
  rw [hx]
  refine ⟨a1, rfl, a2, a4, ownerCheck_iff.2 ⟨ho.1, a3, ho.2.2.1, ho.2.2.2.1, a5, a6⟩, a7, fun hi => ⟨(a8 hi).1, a6, (a8 hi).2⟩⟩
theorem proofRoot_con (G : Mem) (vs_p : List Value) (p : ProofD) (h_p : EProof.R G vs_p p)  : Con Tryz.prog 133 #[.agg vs_p.toArray] G [] (fun u G' L' => u = .tuple #[U ((proofRoot p).1), I ((proofRoot p).2)]) := by
 obtain ⟨a1, c1, a2, c2, rfl, w1, hs1, hs2⟩ := h_p
 refine con_of Tryz.func133 21 [(0, .agg #[Sr p.name, Sl a1 p.entries.length c1, Sl a2 p.sides.length c2])] rfl (fun w0 G0 => ?_)
 refine tc_seq (tc_region ?_)
 refine runL_box 1 #[Sr p.name, Sl a1 p.entries.length c1, Sl a2 p.sides.length c2] 36 (fun b1 => ?_)
 refine runL_b [0,0] [(1, Pt b1 0)] (runL_nil (tq_then (tc_seq (tc_region ?_))))
 refine runL_b [2] [(7, .agg #[Sr p.name, Sl a1 p.entries.length c1, Sl a2 p.sides.length c2])] ?_
 refine runL_callR 8 (proofSaid_con G [Sr p.name, Sl a1 p.entries.length c1, Sl a2 p.sides.length c2] p (⟨a1, c1, a2, c2, rfl, w1, hs1, hs2⟩)) (fun v G1 L1 hl1 hp => ?_)
 obtain ⟨a3, c3, rfl, hs3, rfl⟩ := hp
 refine runL_b [0,0,0,0,0] [(4, Sl a3 (((proofSaid p).1).length) c3), (5, I ((proofSaid p).2))] (runL_nil (tq_then (tc_seq ?_)))
 refine tc_rb [0,0] [(4, Sl a3 (((proofSaid p).1).length) c3), (5, I ((proofSaid p).2)), (12, Bo (!decide ((proofSaid p).2 = 0)))] ?_
 refine tc_cond (!decide ((proofSaid p).2 = 0)) (fun h1 => ?_) (fun h1 => ?_)
 ·
  try simp only [BB] at h1
  refine tc_rb [0,0,0] [(2, U 0), (3, I ((proofSaid p).2))] (tc_ret (tq_then_ret ?_))
  refine tq_ret [0, 0] [U 0, I ((proofSaid p).2)] (bp_ret hl1 ?_)
  have hf_ : (proofRoot p) = (0, ((proofSaid p).2)) := by
   unfold proofRoot; first | (rw [if_pos (by assumption)]; done) | (rw [if_neg (by omega)]; have hl_ := lastT_get (a := (proofSaid p).1) rfl hx1; rw [← hl_]; done)
  (try rw [hf_]); first | with_reducible rfl | (simp only [packR]; done) | rfl
 ·
  try simp only [BB] at h1
  refine tc_skip (tq_then (tc_seq (tc_region ?_)))
  refine runL_b [0,0,0,0] [(14, Sl a3 (((proofSaid p).1).length) c3), (17, I (IntKind.i64.wrap ((((proofSaid p).1).length : Int) - 1)))] ?_
  have e1 : IntKind.i64.wrap ((((proofSaid p).1).length : Int) - 1) = ((((proofSaid p).1).length - 1 : Nat) : Int) := (IntWalk.i64_in _ (by first | omega | (have q_ := proofSaid_len (p := p) (by assumption); omega))).trans (show (((proofSaid p).1).length : Int) - 1 = ((((proofSaid p).1).length - 1 : Nat) : Int) by first | omega | (have q_ := proofSaid_len (p := p) (by assumption); omega))
  refine runL_eq (fr' := [(14, Sl a3 (((proofSaid p).1).length) c3), (17, I ((((proofSaid p).1).length - 1 : Nat) : Int))]) (L' := [[Sg b1 0 [Sr p.name, Sl a1 p.entries.length c1, Sl a2 p.sides.length c2]]]) (by simp only [e1]) (by rfl) ?_
  clear e1
  obtain ⟨b2, o1, rfl⟩ := RS.addr hs3 (k := ((proofSaid p).1).length - 1) (by first | omega | (have q_ := proofSaid_len (p := p) (by assumption); omega))
  obtain ⟨x1, hx1⟩ := getX (l := (proofSaid p).1) (k := ((proofSaid p).1).length - 1) (by first | omega | (have q_ := proofSaid_len (p := p) (by assumption); omega))
  obtain ⟨_, ⟨rfl, w2⟩, hc1⟩ := RS.get hs3 hx1
  refine runL_idx (b := b2) (off := o1) (len := ((proofSaid p).1).length) (cap := c3) (ik := .i64) 18 9 1 (((proofSaid p).1).length - 1) (by first | omega | (have q_ := proofSaid_len (p := p) (by assumption); omega)) ?_
  refine runL_ldG 19 9 (cs := [Sr x1]) 0 (Sr x1) hc1 ?_
  refine runL_callV 20 (U (markOf x1)) (markOf_con x1 (le48r' w2) G1) ?_
  refine runL_b [0,0] [(2, U (markOf x1)), (3, I 0)] (runL_nil (tq_then (tc_ret ?_)))
  refine tq_ret [0, 0] [U (markOf x1), I 0] (bp_ret hl1 ?_)
  have hf_ : (proofRoot p) = ((markOf x1), 0) := by
   unfold proofRoot; first | (rw [if_pos (by assumption)]; done) | (rw [if_neg (by omega)]; have hl_ := lastT_get (a := (proofSaid p).1) rfl hx1; rw [← hl_]; done)
  (try rw [hf_]); first | with_reducible rfl | (simp only [packR]; done) | rfl
theorem proofHeld_con (G : Mem) (root : Int) (vs_p : List Value) (p : ProofD) (h_p : EProof.R G vs_p p)  : Con Tryz.prog 91 #[U root, .agg vs_p.toArray] G [] (fun u G' L' => u = I (proofHeld root p)) := by
 obtain ⟨a1, c1, a2, c2, rfl, w1, hs1, hs2⟩ := h_p
 refine con_of Tryz.func91 20 [(0, U root), (1, .agg #[Sr p.name, Sl a1 p.entries.length c1, Sl a2 p.sides.length c2])] rfl (fun w0 G0 => ?_)
 refine tc_seq (tc_region ?_)
 refine runL_box 3 #[Sr p.name, Sl a1 p.entries.length c1, Sl a2 p.sides.length c2] 36 (fun b1 => ?_)
 refine runL_b [0] [(0, U root), (3, Pt b1 0)] (runL_nil (tq_then (tc_seq (tc_region ?_))))
 refine runL_b [2] [(0, U root), (8, .agg #[Sr p.name, Sl a1 p.entries.length c1, Sl a2 p.sides.length c2])] ?_
 refine runL_callV 9 (.tuple #[U ((proofRoot p).1), I ((proofRoot p).2)]) (proofRoot_con G [Sr p.name, Sl a1 p.entries.length c1, Sl a2 p.sides.length c2] p (⟨a1, c1, a2, c2, rfl, w1, hs1, hs2⟩)) ?_
 refine runL_b [0,0,0,0,0] [(0, U root), (5, U ((proofRoot p).1)), (6, I ((proofRoot p).2))] (runL_nil (tq_then (tc_seq (tc_seq (tc_region ?_)))))
 refine runL_b [0,0,0] [(0, U root), (5, U ((proofRoot p).1)), (6, I ((proofRoot p).2)), (14, Bo (decide ((proofRoot p).2 = 0)))] ?_
 refine runL_b2 (decide ((proofRoot p).2 = 0)) (fun bb => [(0, U root), (5, U ((proofRoot p).1)), (6, I ((proofRoot p).2)), (14, Bo bb)]) [0,0,0,0] [1,1,1,0] (fun bb => [(6, I ((proofRoot p).2)), (18, Bo (bb && (!decide ((proofRoot p).1 = root))))]) ?_
 refine runL_nil (tq_then ?_)
 refine tc_cond ((decide ((proofRoot p).2 = 0)) && (!decide ((proofRoot p).1 = root))) (fun h1 => ?_) (fun h1 => ?_)
 ·
  try simp only [BB] at h1
  refine tc_region ?_
  refine runL_b [0] [(6, I 8)] (runL_nil (tq_then ?_))
  refine tc_rb [0,0] [(4, I 8)] (tc_ret ?_)
  refine tq_ret [0] [I 8] (bp_ret (Mem.le_refl _) ?_)
  have hf_ : (proofHeld root p) = 8 := by
   unfold proofHeld; first | (rw [if_pos (by simp_all)]; done) | (rw [if_neg (by simp_all)]; done) | (rw [if_neg (by simp_all)]; simp_all; done)
  (try rw [hf_]); first | with_reducible rfl | (simp only [packR]; done) | rfl
 ·
  try simp only [BB] at h1
  refine tc_skip (tq_then ?_)
  refine tc_rb [0,0] [(4, I ((proofRoot p).2))] (tc_ret ?_)
  refine tq_ret [0] [I ((proofRoot p).2)] (bp_ret (Mem.le_refl _) ?_)
  have hf_ : (proofHeld root p) = ((proofRoot p).2) := by
   unfold proofHeld; first | (rw [if_pos (by simp_all)]; done) | (rw [if_neg (by simp_all)]; done) | (rw [if_neg (by simp_all)]; simp_all; done)
  (try rw [hf_]); first | with_reducible rfl | (simp only [packR]; done) | rfl
theorem proofTell_con (G : Mem) (root : Int) (vs_p : List Value) (p : ProofD) (h_p : EProof.R G vs_p p)  : Con Tryz.prog 49 #[U root, .agg vs_p.toArray] G [] (fun u G' L' => u = .tuple #[Sr ((proofTell root p).1), Bo ((proofTell root p).2.1), I ((proofTell root p).2.2)] ∧ (((proofTell root p).1).length ≤ 140737488351232) ∧ L' = []) := by
 obtain ⟨a1, c1, a2, c2, rfl, w1, hs1, hs2⟩ := h_p
 refine con_of Tryz.func49 22 [(0, U root), (1, .agg #[Sr p.name, Sl a1 p.entries.length c1, Sl a2 p.sides.length c2])] rfl (fun w0 G0 => ?_)
 refine tc_seq (tc_region ?_)
 refine runL_box 3 #[Sr p.name, Sl a1 p.entries.length c1, Sl a2 p.sides.length c2] 36 (fun b1 => ?_)
 refine runL_b [0,0,0] [(0, U root), (3, Pt b1 0)] (runL_nil (tq_then (tc_seq (tc_seq (tc_region ?_)))))
 refine runL_b [0,2] [(3, Pt b1 0), (8, U root), (9, .agg #[Sr p.name, Sl a1 p.entries.length c1, Sl a2 p.sides.length c2])] ?_
 refine runL_callV 10 (I (proofHeld root p)) (proofHeld_con G root [Sr p.name, Sl a1 p.entries.length c1, Sl a2 p.sides.length c2] p (⟨a1, c1, a2, c2, rfl, w1, hs1, hs2⟩)) ?_
 refine runL_b [0] [(3, Pt b1 0), (7, I (proofHeld root p))] (runL_nil (tq_then ?_))
 refine tc_rb [0,0] [(3, Pt b1 0), (7, I (proofHeld root p)), (12, Bo (!decide (proofHeld root p = 0)))] ?_
 refine tc_cond (!decide (proofHeld root p = 0)) (fun h1 => ?_) (fun h1 => ?_)
 ·
  try simp only [BB] at h1
  refine tc_rb [0,0,0,0] [(4, Sr ([])), (5, Bo false), (6, I (proofHeld root p))] (tc_ret (tq_then_ret ?_))
  have hf1 : proofTell root p = ([], false, proofHeld root p) := by
   unfold proofTell; first | (rw [if_pos (by assumption)]; done) | (rw [if_neg (by simp_all)]; done)
  refine tq_ret [0, 0, 0] [Sr ([]), Bo false, I (proofHeld root p)] (bp_rows [] (.cons _ .slnil) (Mem.le_refl _) ?_)
  rw [hf1]
  try dsimp only
  exact ⟨rfl, (Nat.le_of_ble_eq_true rfl), rfl⟩
 ·
  try simp only [BB] at h1
  refine tc_skip (tq_then (tc_seq (tc_region ?_)))
  refine runL_b [0,2,0,2] [(15, Sl a1 p.entries.length c1), (17, Sr p.name)] ?_
  refine runL_callR 18 (treeGet_con G a1 c1 p.entries hs1 p.name w1) (fun v G1 L1 hl1 hp => ?_)
  obtain ⟨rfl, w2, rfl⟩ := hp
  refine runL_b [0,0,0,0,0,0] [(4, Sr ((treeGet p.entries p.name).1)), (5, Bo ((treeGet p.entries p.name).2.1)), (6, I ((treeGet p.entries p.name).2.2))] (runL_nil (tq_then (tc_ret ?_)))
  have hf2 : proofTell root p = ((treeGet p.entries p.name).1, (treeGet p.entries p.name).2.1, (treeGet p.entries p.name).2.2) := by
   unfold proofTell; first | (rw [if_pos (by assumption)]; done) | (rw [if_neg (by simp_all)]; done)
  refine tq_ret [0, 0, 0] [Sr ((treeGet p.entries p.name).1), Bo ((treeGet p.entries p.name).2.1), I ((treeGet p.entries p.name).2.2)] (bp_rows [] (.cons _ .slnil) hl1 ?_)
  rw [hf2]
  try dsimp only
  exact ⟨rfl, w2, rfl⟩
theorem serveTell_con (G : Mem) (vs_r : List Value) (r : ReplyD) (h_r : EReply.R G vs_r r)  : Con Tryz.prog 14 #[.agg vs_r.toArray] G [] (fun u G' L' => u = .tuple #[Sr ((serveTell r).1), Bo ((serveTell r).2.1), I ((serveTell r).2.2)] ∧ (((serveTell r).1).length ≤ 140737488351232) ∧ L' = []) := by
 obtain ⟨a1, c1, a2, c2, rfl, w1, w2, w3, w4, w5, hs1, hs2⟩ := h_r
 refine con_of Tryz.func14 21 [(0, .agg #[I r.head.epoch, U r.head.root, U r.head.prev, I r.head.at_, Sr r.proof.name, Sl a1 r.proof.entries.length c1, Sl a2 r.proof.sides.length c2])] rfl (fun w0 G0 => ?_)
 refine tc_seq (tc_region ?_)
 refine runL_box 1 #[I r.head.epoch, U r.head.root, U r.head.prev, I r.head.at_, Sr r.proof.name, Sl a1 r.proof.entries.length c1, Sl a2 r.proof.sides.length c2] 38 (fun b1 => ?_)
 refine runL_b [0,0,0] [(1, Pt b1 0)] (runL_nil (tq_then (tc_seq (tc_seq (tc_region ?_)))))
 refine runL_b [0,2] [(1, Pt b1 0), (7, .agg #[I r.head.epoch, U r.head.root, U r.head.prev, I r.head.at_])] ?_
 refine runL_callV 8 (I (headCheck r.head)) (headCheck_con r.head G) ?_
 refine runL_b [0] [(1, Pt b1 0), (5, I (headCheck r.head))] (runL_nil (tq_then ?_))
 refine tc_rb [0,0] [(1, Pt b1 0), (5, I (headCheck r.head)), (10, Bo (!decide (headCheck r.head = 0)))] ?_
 refine tc_cond (!decide (headCheck r.head = 0)) (fun h1 => ?_) (fun h1 => ?_)
 ·
  try simp only [BB] at h1
  refine tc_rb [0,0,0,0] [(2, Sr ([])), (3, Bo false), (4, I (headCheck r.head))] (tc_ret (tq_then_ret ?_))
  have hf1 : serveTell r = ([], false, headCheck r.head) := by
   unfold serveTell; first | (rw [if_pos (by assumption)]; done) | (rw [if_neg (by simp_all)]; done)
  refine tq_ret [0, 0, 0] [Sr ([]), Bo false, I (headCheck r.head)] (bp_rows [] (.cons _ .slnil) (Mem.le_refl _) ?_)
  rw [hf1]
  try dsimp only
  exact ⟨rfl, (Nat.le_of_ble_eq_true rfl), rfl⟩
 ·
  try simp only [BB] at h1
  refine tc_skip (tq_then (tc_seq (tc_region ?_)))
  refine runL_b [0,0,2,0,2] [(14, U r.head.root), (16, .agg #[Sr r.proof.name, Sl a1 r.proof.entries.length c1, Sl a2 r.proof.sides.length c2])] ?_
  refine runL_callR 17 (proofTell_con G r.head.root [Sr r.proof.name, Sl a1 r.proof.entries.length c1, Sl a2 r.proof.sides.length c2] r.proof (⟨a1, c1, a2, c2, rfl, w5, hs1, hs2⟩)) (fun v G1 L1 hl1 hp => ?_)
  obtain ⟨rfl, w6, rfl⟩ := hp
  refine runL_b [0,0,0,0,0,0] [(2, Sr ((proofTell r.head.root r.proof).1)), (3, Bo ((proofTell r.head.root r.proof).2.1)), (4, I ((proofTell r.head.root r.proof).2.2))] (runL_nil (tq_then (tc_ret ?_)))
  have hf2 : serveTell r = ((proofTell r.head.root r.proof).1, (proofTell r.head.root r.proof).2.1, (proofTell r.head.root r.proof).2.2) := by
   unfold serveTell; first | (rw [if_pos (by assumption)]; done) | (rw [if_neg (by simp_all)]; done)
  refine tq_ret [0, 0, 0] [Sr ((proofTell r.head.root r.proof).1), Bo ((proofTell r.head.root r.proof).2.1), I ((proofTell r.head.root r.proof).2.2)] (bp_rows [] (.cons _ .slnil) hl1 ?_)
  rw [hf2]
  try dsimp only
  exact ⟨rfl, w6, rfl⟩
theorem linkDiff_con (G : Mem) (vs_x : List Value) (x : HeadD) (h_x : EHead.R G vs_x x) (vs_h : List Value) (h : HeadD) (h_h : EHead.R G vs_h h) (b_h : Nat) (hz_h : ∀ j v, (vs_h : List Value)[j]? = some v → G b_h (0 + j) = some v)  : Con Tryz.prog 174 #[.agg vs_x.toArray, Pt b_h 0] G [] (fun u G' L' => u = Bo (linkDiff x h)) := by
 obtain ⟨rfl, w1, w2, w3, w4⟩ := h_x
 obtain ⟨rfl, w5, w6, w7, w8⟩ := h_h
 refine con_of Tryz.func174 14 [(0, .agg #[I x.epoch, U x.root, U x.prev, I x.at_]), (1, Pt b_h 0)] rfl (fun w0 G0 => ?_)
 refine tc_seq (tc_region ?_)
 refine runL_box 2 #[I x.epoch, U x.root, U x.prev, I x.at_] 32 (fun b1 => ?_)
 refine runL_b [0] [(1, Pt b_h 0), (2, Pt b1 0)] (runL_nil (tq_then (tc_seq (tc_region ?_))))
 refine runL_b [0,2,0] [(1, Pt b_h 0), (2, Pt b1 0), (5, I x.epoch), (6, Pt b_h 0)] ?_
 refine runL_ldG (o' := 0) 7 2 (cs := [I h.epoch, U h.root, U h.prev, I h.at_]) 0 (I h.epoch) hz_h ?_
 refine runL_b [0,0] [(1, Pt b_h 0), (2, Pt b1 0), (9, Bo (decide (x.epoch = h.epoch)))] ?_
 refine runL_cases (fun bb => [(1, Pt b_h 0), (2, Pt b1 0), (9, Bo bb)]) (decide (x.epoch = h.epoch)) (fun h1 => ?_) (fun h1 => ?_)
 ·
  try simp only [BB] at h1
  refine runL_b [2] [(1, Pt b_h 0), (9, Bo true), (10, .agg #[I x.epoch, U x.root, U x.prev, I x.at_])] ?_
  refine runL_ldG (o' := 0) 11 32 (cs := [I h.epoch, U h.root, U h.prev, I h.at_]) 0 (.agg #[I h.epoch, U h.root, U h.prev, I h.at_]) hz_h ?_
  refine runL_eqv 12 (Bo (!(decide (x.epoch = h.epoch) && (decide (x.root = h.root) && (decide (x.prev = h.prev) && (decide (x.at_ = h.at_) && true)))))) (Bo (!(decide (x.epoch = h.epoch) && decide (x.root = h.root) && decide (x.prev = h.prev) && decide (x.at_ = h.at_)))) (by simp [B_toList, Bool.and_assoc]) ?_
  refine runL_b [0,0] [(3, Bo (!(decide (x.epoch = h.epoch) && decide (x.root = h.root) && decide (x.prev = h.prev) && decide (x.at_ = h.at_))))] (runL_nil (tq_then (tc_ret ?_)))
  refine tq_ret [0] [Bo (!(decide (x.epoch = h.epoch) && decide (x.root = h.root) && decide (x.prev = h.prev) && decide (x.at_ = h.at_)))] (bp_ret (Mem.le_refl _) ?_)
  have hf_ : (linkDiff x h) = (!(decide (x.epoch = h.epoch) && decide (x.root = h.root) && decide (x.prev = h.prev) && decide (x.at_ = h.at_))) := by
   unfold linkDiff; rw [Bool.eq_iff_iff]; simp [HeadD_ne]; grind
  (try rw [hf_]); first | with_reducible rfl | (simp only [packR]; done) | rfl
 ·
  try simp only [BB] at h1
  refine runL_b [1,1,1,0,0] [(3, Bo false)] (runL_nil (tq_then (tc_ret ?_)))
  refine tq_ret [0] [Bo false] (bp_ret (Mem.le_refl _) ?_)
  have hf_ : (linkDiff x h) = false := by
   unfold linkDiff; rw [Bool.eq_iff_iff]; simp [HeadD_ne]; grind
  (try rw [hf_]); first | with_reducible rfl | (simp only [packR]; done) | rfl
theorem ownerLinks_con (G : Mem) (vs_h : List Value) (h : HeadD) (h_h : EHead.R G vs_h h) (a_l : Option Addr) (c_l : Nat) (l : List HeadD) (h_l : RS EHead G a_l c_l l) (hh : headCheck h = 0) : Con Tryz.prog 132 #[.agg vs_h.toArray, Sl a_l l.length c_l] G [] (fun u G' L' => u = I (ownerLinks h l)) := by
 obtain ⟨rfl, w1, w2, w3, w4⟩ := h_h
 refine con_of Tryz.func132 55 [(0, .agg #[I h.epoch, U h.root, U h.prev, I h.at_]), (1, Sl a_l l.length c_l)] rfl (fun w0 G0 => ?_)
 refine tc_seq (tc_region ?_)
 refine runL_box 2 #[I h.epoch, U h.root, U h.prev, I h.at_] 32 (fun b1 => ?_)
 refine runL_b [0] [(1, Sl a_l l.length c_l), (2, Pt b1 0)] (runL_nil (tq_then (tc_seq (tc_seq (tc_region ?_)))))
 refine runL_b [0] [(1, Sl a_l l.length c_l), (2, Pt b1 0), (10, Sl a_l l.length c_l)] ?_
 refine runL_callV 11 (.tuple #[I ((chainCheck l).1), I ((chainCheck l).2)]) (chainCheck_con G a_l c_l l h_l) ?_
 refine runL_b [0,0,0,0,0] [(1, Sl a_l l.length c_l), (2, Pt b1 0), (5, I ((chainCheck l).1))] (runL_nil (tq_then (tc_seq ?_)))
 rcases Bool.eq_false_or_eq_true (!decide ((chainCheck l).1 = 0)) with h1 | h1
 ·
  have h1d := h1
  try simp only [BB] at h1d
  refine tc_draw [] ?_
  refine dr_V [(0, I ((chainCheck l).1)), (1, Bo true), (2, Bo true), (3, undef), (4, undef), (5, undef), (6, undef), (7, undef), (8, undef), (9, undef), (10, undef), (11, Bo true)] ?_
  refine dr_end [] [(0,0), (2,0), (3,1), (4,1), (5,1), (6,1), (7,1), (8,1), (9,1), (10,1), (11,0)] [1] [(1, Sl a_l l.length c_l), (2, Pt b1 0), (25, Bo true)] (List.forall_mem_cons.2 ⟨?_, List.forall_mem_nil _⟩) ?_
  ·
   refine stab_of 1 15 (Bo true) [(14, I ((chainCheck l).1))] (fun X => ?_)
   exact runL_p1 15 (Bo (!decide ((chainCheck l).1 = 0))) (Bo true) (by rw [h1]) stab_end
  refine tq_then ?_
  refine tc_cond_true ?_
  refine tc_rb [0] [(4, I 2)] (tc_ret (tq_then_ret ?_))
  refine tq_ret [0] [I 2] (bp_ret (Mem.le_refl _) ?_)
  have hf_ : (ownerLinks h l) = 2 := by
   first | exact links_c1 (x := headZ) (.inl (by assumption)) | exact links_c1 (.inr ⟨hx1, by assumption⟩) | exact links_c2 (by assumption) hx1 (by assumption) (by assumption) (by assumption) | (rw [links_c3 (by assumption) hx1 (by assumption) (by first | exact .inl (by assumption) | exact .inr (by assumption))]; first | (rw [if_pos (by assumption)]; done) | (have el_ := lastH_get (l := l) (k := l.length - 1) rfl (by assumption); subst el_; rw [if_neg (by simp_all)]; first | (rw [if_pos (by assumption)]; done) | (rw [if_neg (by omega)]; done)))
  (try rw [hf_]); first | with_reducible rfl | (simp only [packR]; done) | rfl
 ·
  have h1d := h1
  try simp only [BB] at h1d
  obtain ⟨b2, o1, rfl⟩ := RS.addr h_l (k := 0) (by first | omega | (have q_ := (chainCheck_iff.1 (by assumption)); have q1_ := q_.len1; have q2_ := q_.len; omega) | (have q0_ := headCheck_ok hh; omega))
  obtain ⟨x1, hx1⟩ := getX (l := l) (k := 0) (by first | omega | (have q_ := (chainCheck_iff.1 (by assumption)); have q1_ := q_.len1; have q2_ := q_.len; omega) | (have q0_ := headCheck_ok hh; omega))
  obtain ⟨_, ⟨rfl, w5, w6, w7, w8⟩, hc1⟩ := RS.get h_l hx1
  have e1 : IntKind.i64.wrap (h.epoch + 1) = h.epoch + 1 := IntWalk.i64_in _ (by first | omega | (have q_ := (chainCheck_iff.1 (by assumption)); have q1_ := q_.len1; have q2_ := q_.len; omega) | (have q0_ := headCheck_ok hh; omega))
  refine tc_draw [] ?_
  refine dr_V [(0, I ((chainCheck l).1)), (1, Bo false), (2, Bo false), (3, Sl (At b2 o1) l.length c_l), (4, Pt b2 (o1 + 0 * 4)), (5, Pt b2 (o1 + 0 * 4)), (6, I x1.epoch), (7, Pt b1 0), (8, I h.epoch), (9, I (h.epoch + 1)), (10, Bo (decide (x1.epoch > h.epoch + 1))), (11, Bo (decide (x1.epoch > h.epoch + 1)))] ?_
  refine dr_end [] [(0,0), (2,0), (3,0), (5,0), (7,0), (8,2), (10,0), (11,0)] [1, 4, 6, 9] [(1, Sl (At b2 o1) l.length c_l), (2, Pt b1 0), (25, Bo (decide (x1.epoch > h.epoch + 1)))] (List.forall_mem_cons.2 ⟨?_, (List.forall_mem_cons.2 ⟨?_, (List.forall_mem_cons.2 ⟨?_, (List.forall_mem_cons.2 ⟨?_, List.forall_mem_nil _⟩)⟩)⟩)⟩) ?_
  ·
   refine stab_of 1 15 (Bo false) [(14, I ((chainCheck l).1))] (fun X => ?_)
   exact runL_p1 15 (Bo (!decide ((chainCheck l).1 = 0))) (Bo false) (by rw [h1]) stab_end
  ·
   refine stab_of 4 18 (Pt b2 (o1 + 0 * 4)) [(16, Bo false), (17, Sl (At b2 o1) l.length c_l)] (fun X => ?_)
   exact runL_idx (b := b2) (off := o1) (len := l.length) (cap := c_l) (ik := .i64) 18 32 4 0 (by first | omega | (have q_ := (chainCheck_iff.1 (by assumption)); have q1_ := q_.len1; have q2_ := q_.len; omega) | (have q0_ := headCheck_ok hh; omega)) stab_end
  ·
   refine stab_of 6 20 (I x1.epoch) [(16, Bo false), (19, Pt b2 (o1 + 0 * 4))] (fun X => ?_)
   exact runL_ldG 20 2 (cs := [I x1.epoch, U x1.root, U x1.prev, I x1.at_]) 0 (I x1.epoch) hc1 stab_end
  ·
   refine stab_of 9 23 (I (h.epoch + 1)) [(16, Bo false), (22, I h.epoch)] (fun X => ?_)
   exact runL_p1 23 (I (IntKind.i64.wrap (h.epoch + 1))) (I (h.epoch + 1)) (by simp only [e1]) stab_end
  refine tq_then ?_
  refine tc_cond (decide (x1.epoch > h.epoch + 1)) (fun h2 => ?_) (fun h2 => ?_)
  ·
   try simp only [BB] at h2
   refine tc_rb [0] [(4, I 2)] (tc_ret (tq_then_ret ?_))
   refine tq_ret [0] [I 2] (bp_ret (Mem.le_refl _) ?_)
   have hf_ : (ownerLinks h l) = 2 := by
    first | exact links_c1 (x := headZ) (.inl (by assumption)) | exact links_c1 (.inr ⟨hx1, by assumption⟩) | exact links_c2 (by assumption) hx1 (by assumption) (by assumption) (by assumption) | (rw [links_c3 (by assumption) hx1 (by assumption) (by first | exact .inl (by assumption) | exact .inr (by assumption))]; first | (rw [if_pos (by assumption)]; done) | (have el_ := lastH_get (l := l) (k := l.length - 1) rfl (by assumption); subst el_; rw [if_neg (by simp_all)]; first | (rw [if_pos (by assumption)]; done) | (rw [if_neg (by omega)]; done)))
   (try rw [hf_]); first | with_reducible rfl | (simp only [packR]; done) | rfl
  ·
   try simp only [BB] at h2
   refine tc_skip (tq_then (tc_seq (tc_seq ?_)))
   have e2 : IntKind.i64.wrap (h.epoch + 1) = h.epoch + 1 := IntWalk.i64_in _ (by first | omega | (have q_ := (chainCheck_iff.1 (by assumption)); have q1_ := q_.len1; have q2_ := q_.len; omega) | (have q0_ := headCheck_ok hh; omega))
   refine tc_draw [] ?_
   refine dr_V [(0, Sl (At b2 o1) l.length c_l), (1, Pt b2 (o1 + 0 * 4)), (2, Pt b2 (o1 + 0 * 4)), (3, I x1.epoch), (4, Pt b1 0), (5, I h.epoch), (6, I (h.epoch + 1)), (7, Bo (decide (x1.epoch = h.epoch + 1)))] ?_
   refine dr_end [] [(0,0), (2,0), (4,0), (5,2), (7,0)] [1, 3, 6] [(1, Sl (At b2 o1) l.length c_l), (2, Pt b1 0), (33, Bo (decide (x1.epoch = h.epoch + 1)))] (List.forall_mem_cons.2 ⟨?_, (List.forall_mem_cons.2 ⟨?_, (List.forall_mem_cons.2 ⟨?_, List.forall_mem_nil _⟩)⟩)⟩) ?_
   ·
    refine stab_of 1 27 (Pt b2 (o1 + 0 * 4)) [(26, Sl (At b2 o1) l.length c_l)] (fun X => ?_)
    exact runL_idx (b := b2) (off := o1) (len := l.length) (cap := c_l) (ik := .i64) 27 32 4 0 (by first | omega | (have q_ := (chainCheck_iff.1 (by assumption)); have q1_ := q_.len1; have q2_ := q_.len; omega) | (have q0_ := headCheck_ok hh; omega)) stab_end
   ·
    refine stab_of 3 29 (I x1.epoch) [(28, Pt b2 (o1 + 0 * 4))] (fun X => ?_)
    exact runL_ldG 29 2 (cs := [I x1.epoch, U x1.root, U x1.prev, I x1.at_]) 0 (I x1.epoch) hc1 stab_end
   ·
    refine stab_of 6 32 (I (h.epoch + 1)) [(31, I h.epoch)] (fun X => ?_)
    exact runL_p1 32 (I (IntKind.i64.wrap (h.epoch + 1))) (I (h.epoch + 1)) (by simp only [e2]) stab_end
   refine tq_then ?_
   refine tc_cond (decide (x1.epoch = h.epoch + 1)) (fun h3 => ?_) (fun h3 => ?_)
   ·
    try simp only [BB] at h3
    refine tc_seq (tc_region ?_)
    refine runL_b [2,0] [(1, Sl (At b2 o1) l.length c_l), (2, Pt b1 0), (35, .agg #[I h.epoch, U h.root, U h.prev, I h.at_]), (36, Sl (At b2 o1) l.length c_l)] ?_
    refine runL_callV 37 (.tuple #[Bo ((chainFollows h l).1), I ((chainFollows h l).2)]) (chainFollows_con G [I h.epoch, U h.root, U h.prev, I h.at_] h (⟨rfl, w1, w2, w3, w4⟩) (At b2 o1) c_l l h_l) ?_
    refine runL_b [0,0,0,0,0] [(1, Sl (At b2 o1) l.length c_l), (2, Pt b1 0), (7, Bo ((chainFollows h l).1))] (runL_nil (tq_then ?_))
    refine tc_rb [0,0] [(1, Sl (At b2 o1) l.length c_l), (2, Pt b1 0), (41, Bo (!((chainFollows h l).1)))] ?_
    refine tc_cond (!((chainFollows h l).1)) (fun h4 => ?_) (fun h4 => ?_)
    ·
     try simp only [BB] at h4
     refine tc_rb [0] [(4, I 2)] (tc_ret (tq_then_ret ?_))
     refine tq_ret [0] [I 2] (bp_ret (Mem.le_refl _) ?_)
     have hf_ : (ownerLinks h l) = 2 := by
      first | exact links_c1 (x := headZ) (.inl (by assumption)) | exact links_c1 (.inr ⟨hx1, by assumption⟩) | exact links_c2 (by assumption) hx1 (by assumption) (by assumption) (by assumption) | (rw [links_c3 (by assumption) hx1 (by assumption) (by first | exact .inl (by assumption) | exact .inr (by assumption))]; first | (rw [if_pos (by assumption)]; done) | (have el_ := lastH_get (l := l) (k := l.length - 1) rfl (by assumption); subst el_; rw [if_neg (by simp_all)]; first | (rw [if_pos (by assumption)]; done) | (rw [if_neg (by omega)]; done)))
     (try rw [hf_]); first | with_reducible rfl | (simp only [packR]; done) | rfl
    ·
     try simp only [BB] at h4
     refine tc_skip (tq_then (tc_seq (tc_seq (tc_region ?_))))
     refine runL_b [0,0] [(1, Sl (At b2 o1) l.length c_l), (2, Pt b1 0), (42, Sl (At b2 o1) l.length c_l), (43, .func (.func 174) #[] #[Pt b1 0])] ?_
     refine runL_frz1 (b := b1) (o := 0) (cs := [I h.epoch, U h.root, U h.prev, I h.at_]) 0 (fun G1 hl1 hz1 => ?_)
     refine runL_callV 44 (Bo (l.any (fun x0 => linkDiff x0 h))) (sany_EHead G1 (At b2 o1) c_l l (h_l.mono hl1) 174 #[Pt b1 0] (fun x0 => linkDiff x0 h) (fun _ _ => by kernel_rfl) (fun vs0 x0 hx0 => by obtain ⟨rfl, w9, w10, w11, w12⟩ := hx0; exact linkDiff_con G1 [I x0.epoch, U x0.root, U x0.prev, I x0.at_] x0 (⟨rfl, w9, w10, w11, w12⟩) [I h.epoch, U h.root, U h.prev, I h.at_] h (⟨rfl, w1, w2, w3, w4⟩) b1 hz1)) ?_
     refine runL_nil (tq_then ?_)
     refine tc_cond (l.any (fun x0 => linkDiff x0 h)) (fun h5 => ?_) (fun h5 => ?_)
     ·
      try simp only [BB] at h5
      refine tc_rb [0] [(4, I 3)] (tc_ret (tq_then_ret ?_))
      refine tq_ret [0] [I 3] (bp_ret hl1 ?_)
      have hf_ : (ownerLinks h l) = 3 := by
       first | exact links_c1 (x := headZ) (.inl (by assumption)) | exact links_c1 (.inr ⟨hx1, by assumption⟩) | exact links_c2 (by assumption) hx1 (by assumption) (by assumption) (by assumption) | (rw [links_c3 (by assumption) hx1 (by assumption) (by first | exact .inl (by assumption) | exact .inr (by assumption))]; first | (rw [if_pos (by assumption)]; done) | (have el_ := lastH_get (l := l) (k := l.length - 1) rfl (by assumption); subst el_; rw [if_neg (by simp_all)]; first | (rw [if_pos (by assumption)]; done) | (rw [if_neg (by omega)]; done)))
      (try rw [hf_]); first | with_reducible rfl | (simp only [packR]; done) | rfl
     ·
      try simp only [BB] at h5
      refine tc_skip (tq_then (tc_seq (tc_seq ?_)))
      have e3 : IntKind.i64.wrap ((l.length : Int) - 1) = ((l.length - 1 : Nat) : Int) := (IntWalk.i64_in _ (by first | omega | (have q_ := (chainCheck_iff.1 (by assumption)); have q1_ := q_.len1; have q2_ := q_.len; omega) | (have q0_ := headCheck_ok hh; omega))).trans (show (l.length : Int) - 1 = ((l.length - 1 : Nat) : Int) by first | omega | (have q_ := (chainCheck_iff.1 (by assumption)); have q1_ := q_.len1; have q2_ := q_.len; omega))
      obtain ⟨x2, hx2⟩ := getX (l := l) (k := l.length - 1) (by first | omega | (have q_ := (chainCheck_iff.1 (by assumption)); have q1_ := q_.len1; have q2_ := q_.len; omega) | (have q0_ := headCheck_ok hh; omega))
      obtain ⟨_, ⟨rfl, w13, w14, w15, w16⟩, hc2⟩ := RS.get (h_l.mono hl1) hx2
      refine tc_draw [] ?_
      refine dr_V [(0, Sl (At b2 o1) l.length c_l), (1, Sl (At b2 o1) l.length c_l), (2, I (l.length : Int)), (3, I ((l.length - 1 : Nat) : Int)), (4, Pt b2 (o1 + (l.length - 1) * 4)), (5, Pt b2 (o1 + (l.length - 1) * 4)), (6, I x2.epoch), (7, Pt b1 0), (8, I h.epoch), (9, Bo (decide (x2.epoch ≤ h.epoch)))] ?_
      refine dr_end [] [(0,0), (1,0), (2,0), (5,0), (7,0), (9,0)] [3, 4, 6, 8] [(54, Bo (decide (x2.epoch ≤ h.epoch)))] (List.forall_mem_cons.2 ⟨?_, (List.forall_mem_cons.2 ⟨?_, (List.forall_mem_cons.2 ⟨?_, (List.forall_mem_cons.2 ⟨?_, List.forall_mem_nil _⟩)⟩)⟩)⟩) ?_
      ·
       refine stab_of 3 48 (I ((l.length - 1 : Nat) : Int)) [(47, I (l.length : Int))] (fun X => ?_)
       exact runL_p1 48 (I (IntKind.i64.wrap ((l.length : Int) - 1))) (I ((l.length - 1 : Nat) : Int)) (by simp only [e3]) stab_end
      ·
       refine stab_of 4 49 (Pt b2 (o1 + (l.length - 1) * 4)) [(45, Sl (At b2 o1) l.length c_l), (48, I ((l.length - 1 : Nat) : Int))] (fun X => ?_)
       exact runL_idx (b := b2) (off := o1) (len := l.length) (cap := c_l) (ik := .i64) 49 32 4 (l.length - 1) (by first | omega | (have q_ := (chainCheck_iff.1 (by assumption)); have q1_ := q_.len1; have q2_ := q_.len; omega) | (have q0_ := headCheck_ok hh; omega)) stab_end
      ·
       refine stab_of 6 51 (I x2.epoch) [(50, Pt b2 (o1 + (l.length - 1) * 4))] (fun X => ?_)
       exact runL_ldG 51 2 (cs := [I x2.epoch, U x2.root, U x2.prev, I x2.at_]) 0 (I x2.epoch) hc2 stab_end
      ·
       refine stab_of 8 53 (I h.epoch) [(52, Pt b1 0)] (fun X => ?_)
       exact runL_ldG (o' := 0) 53 2 (cs := [I h.epoch, U h.root, U h.prev, I h.at_]) 0 (I h.epoch) hz1 stab_end
      refine tq_then ?_
      refine tc_cond (decide (x2.epoch ≤ h.epoch)) (fun h6 => ?_) (fun h6 => ?_)
      ·
       try simp only [BB] at h6
       refine tc_rb [0] [(4, I 1)] (tc_ret (tq_then_ret ?_))
       refine tq_ret [0] [I 1] (bp_ret hl1 ?_)
       have hf_ : (ownerLinks h l) = 1 := by
        first | exact links_c1 (x := headZ) (.inl (by assumption)) | exact links_c1 (.inr ⟨hx1, by assumption⟩) | exact links_c2 (by assumption) hx1 (by assumption) (by assumption) (by assumption) | (rw [links_c3 (by assumption) hx1 (by assumption) (by first | exact .inl (by assumption) | exact .inr (by assumption))]; first | (rw [if_pos (by assumption)]; done) | (have el_ := lastH_get (l := l) (k := l.length - 1) rfl (by assumption); subst el_; rw [if_neg (by simp_all)]; first | (rw [if_pos (by assumption)]; done) | (rw [if_neg (by omega)]; done)))
       (try rw [hf_]); first | with_reducible rfl | (simp only [packR]; done) | rfl
      ·
       try simp only [BB] at h6
       refine tc_skip (tq_then ?_)
       refine tc_rb [0] [(4, I 0)] (tc_ret ?_)
       refine tq_ret [0] [I 0] (bp_ret hl1 ?_)
       have hf_ : (ownerLinks h l) = 0 := by
        first | exact links_c1 (x := headZ) (.inl (by assumption)) | exact links_c1 (.inr ⟨hx1, by assumption⟩) | exact links_c2 (by assumption) hx1 (by assumption) (by assumption) (by assumption) | (rw [links_c3 (by assumption) hx1 (by assumption) (by first | exact .inl (by assumption) | exact .inr (by assumption))]; first | (rw [if_pos (by assumption)]; done) | (have el_ := lastH_get (l := l) (k := l.length - 1) rfl (by assumption); subst el_; rw [if_neg (by simp_all)]; first | (rw [if_pos (by assumption)]; done) | (rw [if_neg (by omega)]; done)))
       (try rw [hf_]); first | with_reducible rfl | (simp only [packR]; done) | rfl
   ·
    try simp only [BB] at h3
    refine tc_skip (tq_then (tc_seq (tc_seq (tc_region ?_))))
    refine runL_b [0,0] [(1, Sl (At b2 o1) l.length c_l), (2, Pt b1 0), (42, Sl (At b2 o1) l.length c_l), (43, .func (.func 174) #[] #[Pt b1 0])] ?_
    refine runL_frz1 (b := b1) (o := 0) (cs := [I h.epoch, U h.root, U h.prev, I h.at_]) 0 (fun G2 hl2 hz2 => ?_)
    refine runL_callV 44 (Bo (l.any (fun x0 => linkDiff x0 h))) (sany_EHead G2 (At b2 o1) c_l l (h_l.mono hl2) 174 #[Pt b1 0] (fun x0 => linkDiff x0 h) (fun _ _ => by kernel_rfl) (fun vs0 x0 hx0 => by obtain ⟨rfl, w17, w18, w19, w20⟩ := hx0; exact linkDiff_con G2 [I x0.epoch, U x0.root, U x0.prev, I x0.at_] x0 (⟨rfl, w17, w18, w19, w20⟩) [I h.epoch, U h.root, U h.prev, I h.at_] h (⟨rfl, w1, w2, w3, w4⟩) b1 hz2)) ?_
    refine runL_nil (tq_then ?_)
    refine tc_cond (l.any (fun x0 => linkDiff x0 h)) (fun h7 => ?_) (fun h7 => ?_)
    ·
     try simp only [BB] at h7
     refine tc_rb [0] [(4, I 3)] (tc_ret (tq_then_ret ?_))
     refine tq_ret [0] [I 3] (bp_ret hl2 ?_)
     have hf_ : (ownerLinks h l) = 3 := by
      first | exact links_c1 (x := headZ) (.inl (by assumption)) | exact links_c1 (.inr ⟨hx1, by assumption⟩) | exact links_c2 (by assumption) hx1 (by assumption) (by assumption) (by assumption) | (rw [links_c3 (by assumption) hx1 (by assumption) (by first | exact .inl (by assumption) | exact .inr (by assumption))]; first | (rw [if_pos (by assumption)]; done) | (have el_ := lastH_get (l := l) (k := l.length - 1) rfl (by assumption); subst el_; rw [if_neg (by simp_all)]; first | (rw [if_pos (by assumption)]; done) | (rw [if_neg (by omega)]; done)))
     (try rw [hf_]); first | with_reducible rfl | (simp only [packR]; done) | rfl
    ·
     try simp only [BB] at h7
     refine tc_skip (tq_then (tc_seq (tc_seq ?_)))
     have e4 : IntKind.i64.wrap ((l.length : Int) - 1) = ((l.length - 1 : Nat) : Int) := (IntWalk.i64_in _ (by first | omega | (have q_ := (chainCheck_iff.1 (by assumption)); have q1_ := q_.len1; have q2_ := q_.len; omega) | (have q0_ := headCheck_ok hh; omega))).trans (show (l.length : Int) - 1 = ((l.length - 1 : Nat) : Int) by first | omega | (have q_ := (chainCheck_iff.1 (by assumption)); have q1_ := q_.len1; have q2_ := q_.len; omega))
     obtain ⟨x3, hx3⟩ := getX (l := l) (k := l.length - 1) (by first | omega | (have q_ := (chainCheck_iff.1 (by assumption)); have q1_ := q_.len1; have q2_ := q_.len; omega) | (have q0_ := headCheck_ok hh; omega))
     obtain ⟨_, ⟨rfl, w21, w22, w23, w24⟩, hc3⟩ := RS.get (h_l.mono hl2) hx3
     refine tc_draw [] ?_
     refine dr_V [(0, Sl (At b2 o1) l.length c_l), (1, Sl (At b2 o1) l.length c_l), (2, I (l.length : Int)), (3, I ((l.length - 1 : Nat) : Int)), (4, Pt b2 (o1 + (l.length - 1) * 4)), (5, Pt b2 (o1 + (l.length - 1) * 4)), (6, I x3.epoch), (7, Pt b1 0), (8, I h.epoch), (9, Bo (decide (x3.epoch ≤ h.epoch)))] ?_
     refine dr_end [] [(0,0), (1,0), (2,0), (5,0), (7,0), (9,0)] [3, 4, 6, 8] [(54, Bo (decide (x3.epoch ≤ h.epoch)))] (List.forall_mem_cons.2 ⟨?_, (List.forall_mem_cons.2 ⟨?_, (List.forall_mem_cons.2 ⟨?_, (List.forall_mem_cons.2 ⟨?_, List.forall_mem_nil _⟩)⟩)⟩)⟩) ?_
     ·
      refine stab_of 3 48 (I ((l.length - 1 : Nat) : Int)) [(47, I (l.length : Int))] (fun X => ?_)
      exact runL_p1 48 (I (IntKind.i64.wrap ((l.length : Int) - 1))) (I ((l.length - 1 : Nat) : Int)) (by simp only [e4]) stab_end
     ·
      refine stab_of 4 49 (Pt b2 (o1 + (l.length - 1) * 4)) [(45, Sl (At b2 o1) l.length c_l), (48, I ((l.length - 1 : Nat) : Int))] (fun X => ?_)
      exact runL_idx (b := b2) (off := o1) (len := l.length) (cap := c_l) (ik := .i64) 49 32 4 (l.length - 1) (by first | omega | (have q_ := (chainCheck_iff.1 (by assumption)); have q1_ := q_.len1; have q2_ := q_.len; omega) | (have q0_ := headCheck_ok hh; omega)) stab_end
     ·
      refine stab_of 6 51 (I x3.epoch) [(50, Pt b2 (o1 + (l.length - 1) * 4))] (fun X => ?_)
      exact runL_ldG 51 2 (cs := [I x3.epoch, U x3.root, U x3.prev, I x3.at_]) 0 (I x3.epoch) hc3 stab_end
     ·
      refine stab_of 8 53 (I h.epoch) [(52, Pt b1 0)] (fun X => ?_)
      exact runL_ldG (o' := 0) 53 2 (cs := [I h.epoch, U h.root, U h.prev, I h.at_]) 0 (I h.epoch) hz2 stab_end
     refine tq_then ?_
     refine tc_cond (decide (x3.epoch ≤ h.epoch)) (fun h8 => ?_) (fun h8 => ?_)
     ·
      try simp only [BB] at h8
      refine tc_rb [0] [(4, I 1)] (tc_ret (tq_then_ret ?_))
      refine tq_ret [0] [I 1] (bp_ret hl2 ?_)
      have hf_ : (ownerLinks h l) = 1 := by
       first | exact links_c1 (x := headZ) (.inl (by assumption)) | exact links_c1 (.inr ⟨hx1, by assumption⟩) | exact links_c2 (by assumption) hx1 (by assumption) (by assumption) (by assumption) | (rw [links_c3 (by assumption) hx1 (by assumption) (by first | exact .inl (by assumption) | exact .inr (by assumption))]; first | (rw [if_pos (by assumption)]; done) | (have el_ := lastH_get (l := l) (k := l.length - 1) rfl (by assumption); subst el_; rw [if_neg (by simp_all)]; first | (rw [if_pos (by assumption)]; done) | (rw [if_neg (by omega)]; done)))
      (try rw [hf_]); first | with_reducible rfl | (simp only [packR]; done) | rfl
     ·
      try simp only [BB] at h8
      refine tc_skip (tq_then ?_)
      refine tc_rb [0] [(4, I 0)] (tc_ret ?_)
      refine tq_ret [0] [I 0] (bp_ret hl2 ?_)
      have hf_ : (ownerLinks h l) = 0 := by
       first | exact links_c1 (x := headZ) (.inl (by assumption)) | exact links_c1 (.inr ⟨hx1, by assumption⟩) | exact links_c2 (by assumption) hx1 (by assumption) (by assumption) (by assumption) | (rw [links_c3 (by assumption) hx1 (by assumption) (by first | exact .inl (by assumption) | exact .inr (by assumption))]; first | (rw [if_pos (by assumption)]; done) | (have el_ := lastH_get (l := l) (k := l.length - 1) rfl (by assumption); subst el_; rw [if_neg (by simp_all)]; first | (rw [if_pos (by assumption)]; done) | (rw [if_neg (by omega)]; done)))
      (try rw [hf_]); first | with_reducible rfl | (simp only [packR]; done) | rfl
theorem copiedO_con (G : Mem) (vs_o : List Value) (o : OwnerD) (h_o : EOwner.R G vs_o o)  : Con Tryz.prog 89 #[.agg vs_o.toArray] G [] (fun u G' L' => ∃ (a1 : Option Addr) (c2 : Nat), u = .agg #[Sr o.name, U o.key, I o.head.epoch, U o.head.root, U o.head.prev, I o.head.at_, Sl a1 o.wanted.length c2, I o.had] ∧ ((o.name).length ≤ 140737488351232) ∧ (0 ≤ o.key ∧ o.key < 18446744073709551616) ∧ (-9223372036854775808 ≤ o.head.epoch ∧ o.head.epoch < 9223372036854775808) ∧ (0 ≤ o.head.root ∧ o.head.root < 18446744073709551616) ∧ (0 ≤ o.head.prev ∧ o.head.prev < 18446744073709551616) ∧ (-9223372036854775808 ≤ o.head.at_ ∧ o.head.at_ < 9223372036854775808) ∧ (RS ES G' a1 c2 o.wanted) ∧ (-9223372036854775808 ≤ o.had ∧ o.had < 9223372036854775808) ∧ L' = []) := by
 obtain ⟨a1, c1, rfl, w1, w2, w3, w4, w5, w6, hs1, w7⟩ := h_o
 refine con_of Tryz.func89 8 [(0, .agg #[Sr o.name, U o.key, I o.head.epoch, U o.head.root, U o.head.prev, I o.head.at_, Sl a1 o.wanted.length c1, I o.had])] rfl (fun w0 G0 => ?_)
 refine tc_seq (tc_region ?_)
 refine runL_box 1 #[Sr o.name, U o.key, I o.head.epoch, U o.head.root, U o.head.prev, I o.head.at_, Sl a1 o.wanted.length c1, I o.had] 92 (fun b1 => ?_)
 refine runL_box 2 #[Sr ([]), U 0, I 0, U 0, U 0, I 0, Sl none 0 0, I 0] 92 (fun b2 => ?_)
 refine runL_nil (tq_then (tc_seq (tc_region ?_)))
 refine runL_b [0,4] [(1, Pt b1 0), (2, Pt b2 0), (4, Sl a1 o.wanted.length c1)] ?_
 refine runL_callR 5 (sclone_ES G a1 c1 o.wanted hs1) (fun v G1 L1 hl1 hp => ?_)
 obtain ⟨a2, c2, r1, rfl, hr1, rfl⟩ := hp
 refine runL_bs [0,7] [(1, Pt b1 0), (2, Pt b2 0)] [r1, [Sg b2 0 [Sr ([]), U 0, I 0, U 0, U 0, I 0, Sl none 0 0, I 0]], [Sg b1 0 [Sr o.name, U o.key, I o.head.epoch, U o.head.root, U o.head.prev, I o.head.at_, Sl a2 o.wanted.length c2, I o.had]]] (runL_nil (tq_then ?_))
 refine tc_rbs [6,5] [(2, Pt b2 0)] [r1, [Sg b2 0 [Sr o.name, U o.key, I o.head.epoch, U o.head.root, U o.head.prev, I o.head.at_, Sl a2 o.wanted.length c2, I o.had]], [Sg b1 0 [Sr o.name, U o.key, I o.head.epoch, U o.head.root, U o.head.prev, I o.head.at_, Sl a2 o.wanted.length c2, I o.had]]] ?_
 refine tc_ret ?_
 refine tq_frzR (E := ES) 0 hr1 (by exact (hs1).fit) (fun G2 hl2 hs2 => ?_)
 have hf1 : o = o := by
  rfl
 refine tq_ret [1] [.agg #[Sr o.name, U o.key, I o.head.epoch, U o.head.root, U o.head.prev, I o.head.at_, Sl a2 o.wanted.length c2, I o.had]] (bp_rows [] (.cons _ (.cons _ (.cons _ .slnil))) (Mem.le_trans hl1 hl2) ?_)
 rw [hf1]
 try dsimp only
 exact ⟨a2, c2, rfl, w1, w2, w3, w4, w5, w6, hs2, w7, rfl⟩
theorem ownerVerdict_con (G : Mem) (vs_o : List Value) (o : OwnerD) (h_o : EOwner.R G vs_o o) (a_l : Option Addr) (c_l : Nat) (l : List HeadD) (h_l : RS EHead G a_l c_l l) (vs_r : List Value) (r : ReplyD) (h_r : EReply.R G vs_r r) (ho : ownerCheck o = 0) : Con Tryz.prog 90 #[.agg vs_o.toArray, Sl a_l l.length c_l, .agg vs_r.toArray] G [] (fun u G' L' => u = .tuple #[I ((ownerVerdict o l r).1), I ((ownerVerdict o l r).2)]) := by
 obtain ⟨a1, c1, rfl, w1, w2, w3, w4, w5, w6, hs1, w7⟩ := h_o
 obtain ⟨a2, c2, a3, c3, rfl, w8, w9, w10, w11, w12, hs2, hs3⟩ := h_r
 refine con_of Tryz.func90 76 [(0, .agg #[Sr o.name, U o.key, I o.head.epoch, U o.head.root, U o.head.prev, I o.head.at_, Sl a1 o.wanted.length c1, I o.had]), (1, Sl a_l l.length c_l), (2, .agg #[I r.head.epoch, U r.head.root, U r.head.prev, I r.head.at_, Sr r.proof.name, Sl a2 r.proof.entries.length c2, Sl a3 r.proof.sides.length c3])] rfl (fun w0 G0 => ?_)
 refine tc_seq (tc_region ?_)
 refine runL_box 3 #[Sr o.name, U o.key, I o.head.epoch, U o.head.root, U o.head.prev, I o.head.at_, Sl a1 o.wanted.length c1, I o.had] 92 (fun b1 => ?_)
 refine runL_box 5 #[I r.head.epoch, U r.head.root, U r.head.prev, I r.head.at_, Sr r.proof.name, Sl a2 r.proof.entries.length c2, Sl a3 r.proof.sides.length c3] 38 (fun b2 => ?_)
 refine runL_b [0,0] [(1, Sl a_l l.length c_l), (3, Pt b1 0), (5, Pt b2 0)] (runL_nil (tq_then (tc_seq (tc_seq (tc_region ?_)))))
 refine runL_b [0,4,0] [(1, Sl a_l l.length c_l), (3, Pt b1 0), (5, Pt b2 0), (15, .agg #[I o.head.epoch, U o.head.root, U o.head.prev, I o.head.at_]), (16, Sl a_l l.length c_l)] ?_
 refine runL_callV 17 (I (ownerLinks o.head l)) (ownerLinks_con G [I o.head.epoch, U o.head.root, U o.head.prev, I o.head.at_] o.head (⟨rfl, w3, w4, w5, w6⟩) a_l c_l l h_l (ownerCheck_iff.1 ho).2.1) ?_
 refine runL_b [0] [(1, Sl a_l l.length c_l), (3, Pt b1 0), (5, Pt b2 0), (8, I (ownerLinks o.head l))] (runL_nil (tq_then ?_))
 refine tc_rb [0,0] [(1, Sl a_l l.length c_l), (3, Pt b1 0), (5, Pt b2 0), (8, I (ownerLinks o.head l)), (19, Bo (!decide (ownerLinks o.head l = 0)))] ?_
 refine tc_cond (!decide (ownerLinks o.head l = 0)) (fun h1 => ?_) (fun h1 => ?_)
 ·
  try simp only [BB] at h1
  refine tc_rb [0,0,0] [(6, I (ownerLinks o.head l)), (7, I 0)] (tc_ret (tq_then_ret ?_))
  refine tq_ret [0, 0] [I (ownerLinks o.head l), I 0] (bp_ret (Mem.le_refl _) ?_)
  have hf_ : (ownerVerdict o l r) = ((ownerLinks o.head l), 0) := by
   first | (unfold ownerVerdict; rw [if_pos (by assumption)]; done) | exact verd_c1 (by assumption) (.inl (.inl (by assumption))) | exact verd_c1 (by assumption) (.inl (.inr ⟨_, hx1, by assumption⟩)) | exact verd_c1 (by assumption) (.inr (by assumption)) | (rw [verd_c0 (by assumption) (by assumption) hx1 (by assumption) (by assumption)]; first | (rw [if_pos (by assumption)]; done) | (rw [if_neg (by simp_all)]; first | (rw [if_pos (by assumption)]; done) | (rw [if_neg (by simp_all)]; obtain ⟨q1_, q2_⟩ := verd_idx (serveTell r).1 hkn1; rw [q1_, q2_]; first | (rw [if_pos (by assumption)]; done) | (rw [if_neg (by omega)]; done))))
  (try rw [hf_]); first | with_reducible rfl | (simp only [packR]; done) | rfl
 ·
  try simp only [BB] at h1
  refine tc_skip (tq_then (tc_seq (tc_region ?_)))
  refine runL_b [2] [(1, Sl a_l l.length c_l), (3, Pt b1 0), (5, Pt b2 0), (22, .agg #[I r.head.epoch, U r.head.root, U r.head.prev, I r.head.at_, Sr r.proof.name, Sl a2 r.proof.entries.length c2, Sl a3 r.proof.sides.length c3])] ?_
  refine runL_callR 23 (serveTell_con G [I r.head.epoch, U r.head.root, U r.head.prev, I r.head.at_, Sr r.proof.name, Sl a2 r.proof.entries.length c2, Sl a3 r.proof.sides.length c3] r (⟨a2, c2, a3, c3, rfl, w8, w9, w10, w11, w12, hs2, hs3⟩)) (fun v G1 L1 hl1 hp => ?_)
  obtain ⟨rfl, w13, rfl⟩ := hp
  refine runL_b [0,0,0,0,0,0,0] [(1, Sl a_l l.length c_l), (3, Pt b1 0), (5, Pt b2 0), (9, Sr ((serveTell r).1)), (10, Bo ((serveTell r).2.1)), (11, I ((serveTell r).2.2))] (runL_nil (tq_then (tc_seq (tc_block (tc_seq ?_)))))
  rcases Bool.eq_false_or_eq_true (!decide ((serveTell r).2.2 = 0)) with h2 | h2
  ·
   have h2d := h2
   try simp only [BB] at h2d
   refine tc_draw [] ?_
   refine dr_V [(0, I ((serveTell r).2.2)), (1, Bo true), (2, Bo true), (3, undef), (4, undef), (5, undef), (6, undef), (7, undef), (8, undef), (9, undef), (10, undef), (11, undef), (12, Bo true), (13, Bo true), (14, undef), (15, undef), (16, undef), (17, undef), (18, undef), (19, undef), (20, Bo true), (21, Bo true)] ?_
   refine dr_end [] [(0,0), (2,0), (3,1), (4,1), (5,1), (6,1), (7,1), (8,1), (9,1), (10,1), (11,1), (12,0), (13,0), (14,1), (15,1), (16,1), (17,1), (18,1), (19,1), (20,0), (21,0)] [1] [(3, Pt b1 0), (9, Sr ((serveTell r).1)), (10, Bo ((serveTell r).2.1)), (27, Bo true)] (List.forall_mem_cons.2 ⟨?_, List.forall_mem_nil _⟩) ?_
   ·
    refine stab_of 1 29 (Bo true) [(28, I ((serveTell r).2.2))] (fun X => ?_)
    exact runL_p1 29 (Bo (!decide ((serveTell r).2.2 = 0))) (Bo true) (by rw [h2]) stab_end
   refine tq_then ?_
   refine tc_cond_true ?_
   refine tc_rb [0,0] [(6, I 4), (7, I 0)] (tc_ret (tq_block_ret (tq_then_ret ?_)))
   refine tq_ret [0, 0] [I 4, I 0] (bp_ret hl1 ?_)
   have hf_ : (ownerVerdict o l r) = (4, 0) := by
    first | (unfold ownerVerdict; rw [if_pos (by assumption)]; done) | exact verd_c1 (by assumption) (.inl (.inl (by assumption))) | exact verd_c1 (by assumption) (.inl (.inr ⟨_, hx1, by assumption⟩)) | exact verd_c1 (by assumption) (.inr (by assumption)) | (rw [verd_c0 (by assumption) (by assumption) hx1 (by assumption) (by assumption)]; first | (rw [if_pos (by assumption)]; done) | (rw [if_neg (by simp_all)]; first | (rw [if_pos (by assumption)]; done) | (rw [if_neg (by simp_all)]; obtain ⟨q1_, q2_⟩ := verd_idx (serveTell r).1 hkn1; rw [q1_, q2_]; first | (rw [if_pos (by assumption)]; done) | (rw [if_neg (by omega)]; done))))
   (try rw [hf_]); first | with_reducible rfl | (simp only [packR]; done) | rfl
  ·
   have h2d := h2
   try simp only [BB] at h2d
   have e1 : IntKind.i64.wrap ((l.length : Int) - 1) = ((l.length - 1 : Nat) : Int) := (IntWalk.i64_in _ (by first | omega | (have q_ := (links_ok (by assumption)).1; have q1_ := q_.len1; have q2_ := q_.len; omega) | (have q_ := ownerCheck_iff.1 ho; omega) | (have q_ := ownerCheck_iff.1 ho; split at hkn1 <;> omega) | (have q_ := ownerCheck_iff.1 ho; have q1_ := idxF_le (fun x => decide ((serveTell r).1 = x)) (o.wanted.drop kn1); rw [List.length_drop] at q1_; omega) | (have q_ := ownerCheck_iff.1 ho; split <;> omega))).trans (show (l.length : Int) - 1 = ((l.length - 1 : Nat) : Int) by first | omega | (have q_ := (links_ok (by assumption)).1; have q1_ := q_.len1; have q2_ := q_.len; omega))
   obtain ⟨b3, o1, rfl⟩ := RS.addr (h_l.mono hl1) (k := l.length - 1) (by first | omega | (have q_ := (links_ok (by assumption)).1; have q1_ := q_.len1; have q2_ := q_.len; omega) | (have q_ := ownerCheck_iff.1 ho; omega) | (have q_ := ownerCheck_iff.1 ho; split at hkn1 <;> omega) | (have q_ := ownerCheck_iff.1 ho; have q1_ := idxF_le (fun x => decide ((serveTell r).1 = x)) (o.wanted.drop kn1); rw [List.length_drop] at q1_; omega) | (have q_ := ownerCheck_iff.1 ho; split <;> omega))
   obtain ⟨x1, hx1⟩ := getX (l := l) (k := l.length - 1) (by first | omega | (have q_ := (links_ok (by assumption)).1; have q1_ := q_.len1; have q2_ := q_.len; omega) | (have q_ := ownerCheck_iff.1 ho; omega) | (have q_ := ownerCheck_iff.1 ho; split at hkn1 <;> omega) | (have q_ := ownerCheck_iff.1 ho; have q1_ := idxF_le (fun x => decide ((serveTell r).1 = x)) (o.wanted.drop kn1); rw [List.length_drop] at q1_; omega) | (have q_ := ownerCheck_iff.1 ho; split <;> omega))
   obtain ⟨_, ⟨rfl, w14, w15, w16, w17⟩, hc1⟩ := RS.get (h_l.mono hl1) hx1
   rcases Bool.eq_false_or_eq_true (!(decide (r.head.epoch = x1.epoch) && decide (r.head.root = x1.root) && decide (r.head.prev = x1.prev) && decide (r.head.at_ = x1.at_))) with h3 | h3
   ·
    have h3d := h3
    try simp only [BB] at h3d
    have e2 : IntKind.i64.wrap ((l.length : Int) - 1) = ((l.length - 1 : Nat) : Int) := (IntWalk.i64_in _ (by first | omega | (have q_ := (links_ok (by assumption)).1; have q1_ := q_.len1; have q2_ := q_.len; omega) | (have q_ := ownerCheck_iff.1 ho; omega) | (have q_ := ownerCheck_iff.1 ho; split at hkn1 <;> omega) | (have q_ := ownerCheck_iff.1 ho; have q1_ := idxF_le (fun x => decide ((serveTell r).1 = x)) (o.wanted.drop kn1); rw [List.length_drop] at q1_; omega) | (have q_ := ownerCheck_iff.1 ho; split <;> omega))).trans (show (l.length : Int) - 1 = ((l.length - 1 : Nat) : Int) by first | omega | (have q_ := (links_ok (by assumption)).1; have q1_ := q_.len1; have q2_ := q_.len; omega))
    refine tc_draw [] ?_
    refine dr_V [(0, I ((serveTell r).2.2)), (1, Bo false), (2, Bo false), (3, Pt b2 0), (4, .agg #[I r.head.epoch, U r.head.root, U r.head.prev, I r.head.at_]), (5, Sl (At b3 o1) l.length c_l), (6, Sl (At b3 o1) l.length c_l), (7, I (l.length : Int)), (8, I ((l.length - 1 : Nat) : Int)), (9, Pt b3 (o1 + (l.length - 1) * 4)), (10, .agg #[I x1.epoch, U x1.root, U x1.prev, I x1.at_]), (11, Bo (!(decide (r.head.epoch = x1.epoch) && decide (r.head.root = x1.root) && decide (r.head.prev = x1.prev) && decide (r.head.at_ = x1.at_)))), (12, Bo true), (13, Bo true), (14, undef), (15, undef), (16, undef), (17, undef), (18, undef), (19, undef), (20, Bo true), (21, Bo true)] ?_
    refine dr_end [] [(0,0), (2,0), (3,0), (4,2), (5,0), (6,0), (7,0), (13,0), (14,1), (15,1), (16,1), (17,1), (18,1), (19,1), (20,0), (21,0)] [1, 8, 9, 10, 11, 12] [(3, Pt b1 0), (9, Sr ((serveTell r).1)), (10, Bo ((serveTell r).2.1)), (27, Bo true)] (List.forall_mem_cons.2 ⟨?_, (List.forall_mem_cons.2 ⟨?_, (List.forall_mem_cons.2 ⟨?_, (List.forall_mem_cons.2 ⟨?_, (List.forall_mem_cons.2 ⟨?_, (List.forall_mem_cons.2 ⟨?_, List.forall_mem_nil _⟩)⟩)⟩)⟩)⟩)⟩) ?_
    ·
     refine stab_of 1 29 (Bo false) [(28, I ((serveTell r).2.2))] (fun X => ?_)
     exact runL_p1 29 (Bo (!decide ((serveTell r).2.2 = 0))) (Bo false) (by rw [h2]) stab_end
    ·
     refine stab_of 8 36 (I ((l.length - 1 : Nat) : Int)) [(30, Bo false), (35, I (l.length : Int))] (fun X => ?_)
     exact runL_p1 36 (I (IntKind.i64.wrap ((l.length : Int) - 1))) (I ((l.length - 1 : Nat) : Int)) (by simp only [e2]) stab_end
    ·
     refine stab_of 9 37 (Pt b3 (o1 + (l.length - 1) * 4)) [(30, Bo false), (33, Sl (At b3 o1) l.length c_l), (36, I ((l.length - 1 : Nat) : Int))] (fun X => ?_)
     exact runL_idx (b := b3) (off := o1) (len := l.length) (cap := c_l) (ik := .i64) 37 32 4 (l.length - 1) (by first | omega | (have q_ := (links_ok (by assumption)).1; have q1_ := q_.len1; have q2_ := q_.len; omega) | (have q_ := ownerCheck_iff.1 ho; omega) | (have q_ := ownerCheck_iff.1 ho; split at hkn1 <;> omega) | (have q_ := ownerCheck_iff.1 ho; have q1_ := idxF_le (fun x => decide ((serveTell r).1 = x)) (o.wanted.drop kn1); rw [List.length_drop] at q1_; omega) | (have q_ := ownerCheck_iff.1 ho; split <;> omega)) stab_end
    ·
     refine stab_of 10 38 (.agg #[I x1.epoch, U x1.root, U x1.prev, I x1.at_]) [(30, Bo false), (37, Pt b3 (o1 + (l.length - 1) * 4))] (fun X => ?_)
     exact runL_ldG 38 32 (cs := [I x1.epoch, U x1.root, U x1.prev, I x1.at_]) 0 (.agg #[I x1.epoch, U x1.root, U x1.prev, I x1.at_]) hc1 stab_end
    ·
     refine stab_of 11 39 (Bo (!(decide (r.head.epoch = x1.epoch) && decide (r.head.root = x1.root) && decide (r.head.prev = x1.prev) && decide (r.head.at_ = x1.at_)))) [(30, Bo false), (32, .agg #[I r.head.epoch, U r.head.root, U r.head.prev, I r.head.at_]), (38, .agg #[I x1.epoch, U x1.root, U x1.prev, I x1.at_])] (fun X => ?_)
     exact runL_eqv 39 (Bo (!(decide (r.head.epoch = x1.epoch) && (decide (r.head.root = x1.root) && (decide (r.head.prev = x1.prev) && (decide (r.head.at_ = x1.at_) && true)))))) (Bo (!(decide (r.head.epoch = x1.epoch) && decide (r.head.root = x1.root) && decide (r.head.prev = x1.prev) && decide (r.head.at_ = x1.at_)))) (by simp [B_toList, Bool.and_assoc]) stab_end
    ·
     refine stab_of 12 40 (Bo true) [(30, Bo false), (39, Bo (!(decide (r.head.epoch = x1.epoch) && decide (r.head.root = x1.root) && decide (r.head.prev = x1.prev) && decide (r.head.at_ = x1.at_))))] (fun X => ?_)
     exact runL_p1 40 (Bo (!(decide (r.head.epoch = x1.epoch) && decide (r.head.root = x1.root) && decide (r.head.prev = x1.prev) && decide (r.head.at_ = x1.at_)))) (Bo true) (by rw [h3]) stab_end
    refine tq_then ?_
    refine tc_cond_true ?_
    refine tc_rb [0,0] [(6, I 4), (7, I 0)] (tc_ret (tq_block_ret (tq_then_ret ?_)))
    refine tq_ret [0, 0] [I 4, I 0] (bp_ret hl1 ?_)
    have hf_ : (ownerVerdict o l r) = (4, 0) := by
     first | (unfold ownerVerdict; rw [if_pos (by assumption)]; done) | exact verd_c1 (by assumption) (.inl (.inl (by assumption))) | exact verd_c1 (by assumption) (.inl (.inr ⟨_, hx1, by assumption⟩)) | exact verd_c1 (by assumption) (.inr (by assumption)) | (rw [verd_c0 (by assumption) (by assumption) hx1 (by assumption) (by assumption)]; first | (rw [if_pos (by assumption)]; done) | (rw [if_neg (by simp_all)]; first | (rw [if_pos (by assumption)]; done) | (rw [if_neg (by simp_all)]; obtain ⟨q1_, q2_⟩ := verd_idx (serveTell r).1 hkn1; rw [q1_, q2_]; first | (rw [if_pos (by assumption)]; done) | (rw [if_neg (by omega)]; done))))
    (try rw [hf_]); first | with_reducible rfl | (simp only [packR]; done) | rfl
   ·
    have h3d := h3
    try simp only [BB] at h3d
    have e3 : IntKind.i64.wrap ((l.length : Int) - 1) = ((l.length - 1 : Nat) : Int) := (IntWalk.i64_in _ (by first | omega | (have q_ := (links_ok (by assumption)).1; have q1_ := q_.len1; have q2_ := q_.len; omega) | (have q_ := ownerCheck_iff.1 ho; omega) | (have q_ := ownerCheck_iff.1 ho; split at hkn1 <;> omega) | (have q_ := ownerCheck_iff.1 ho; have q1_ := idxF_le (fun x => decide ((serveTell r).1 = x)) (o.wanted.drop kn1); rw [List.length_drop] at q1_; omega) | (have q_ := ownerCheck_iff.1 ho; split <;> omega))).trans (show (l.length : Int) - 1 = ((l.length - 1 : Nat) : Int) by first | omega | (have q_ := (links_ok (by assumption)).1; have q1_ := q_.len1; have q2_ := q_.len; omega))
    refine tc_draw [] ?_
    refine dr_V [(0, I ((serveTell r).2.2)), (1, Bo false), (2, Bo false), (3, Pt b2 0), (4, .agg #[I r.head.epoch, U r.head.root, U r.head.prev, I r.head.at_]), (5, Sl (At b3 o1) l.length c_l), (6, Sl (At b3 o1) l.length c_l), (7, I (l.length : Int)), (8, I ((l.length - 1 : Nat) : Int)), (9, Pt b3 (o1 + (l.length - 1) * 4)), (10, .agg #[I x1.epoch, U x1.root, U x1.prev, I x1.at_]), (11, Bo (!(decide (r.head.epoch = x1.epoch) && decide (r.head.root = x1.root) && decide (r.head.prev = x1.prev) && decide (r.head.at_ = x1.at_)))), (12, Bo false), (13, Bo false), (14, Pt b2 4), (15, Pt b2 4), (16, Sr r.proof.name), (17, Pt b1 0), (18, Sr o.name), (19, Bo (!((B r.proof.name).toList == (B o.name).toList))), (20, Bo (!((B r.proof.name).toList == (B o.name).toList))), (21, Bo (!((B r.proof.name).toList == (B o.name).toList)))] ?_
    refine dr_end [] [(0,0), (2,0), (3,0), (4,2), (5,0), (6,0), (7,0), (13,0), (14,0), (15,0), (16,2), (17,0), (18,4), (19,0), (20,0), (21,0)] [1, 8, 9, 10, 11, 12] [(3, Pt b1 0), (9, Sr ((serveTell r).1)), (10, Bo ((serveTell r).2.1)), (27, Bo (!((B r.proof.name).toList == (B o.name).toList)))] (List.forall_mem_cons.2 ⟨?_, (List.forall_mem_cons.2 ⟨?_, (List.forall_mem_cons.2 ⟨?_, (List.forall_mem_cons.2 ⟨?_, (List.forall_mem_cons.2 ⟨?_, (List.forall_mem_cons.2 ⟨?_, List.forall_mem_nil _⟩)⟩)⟩)⟩)⟩)⟩) ?_
    ·
     refine stab_of 1 29 (Bo false) [(28, I ((serveTell r).2.2))] (fun X => ?_)
     exact runL_p1 29 (Bo (!decide ((serveTell r).2.2 = 0))) (Bo false) (by rw [h2]) stab_end
    ·
     refine stab_of 8 36 (I ((l.length - 1 : Nat) : Int)) [(30, Bo false), (35, I (l.length : Int))] (fun X => ?_)
     exact runL_p1 36 (I (IntKind.i64.wrap ((l.length : Int) - 1))) (I ((l.length - 1 : Nat) : Int)) (by simp only [e3]) stab_end
    ·
     refine stab_of 9 37 (Pt b3 (o1 + (l.length - 1) * 4)) [(30, Bo false), (33, Sl (At b3 o1) l.length c_l), (36, I ((l.length - 1 : Nat) : Int))] (fun X => ?_)
     exact runL_idx (b := b3) (off := o1) (len := l.length) (cap := c_l) (ik := .i64) 37 32 4 (l.length - 1) (by first | omega | (have q_ := (links_ok (by assumption)).1; have q1_ := q_.len1; have q2_ := q_.len; omega) | (have q_ := ownerCheck_iff.1 ho; omega) | (have q_ := ownerCheck_iff.1 ho; split at hkn1 <;> omega) | (have q_ := ownerCheck_iff.1 ho; have q1_ := idxF_le (fun x => decide ((serveTell r).1 = x)) (o.wanted.drop kn1); rw [List.length_drop] at q1_; omega) | (have q_ := ownerCheck_iff.1 ho; split <;> omega)) stab_end
    ·
     refine stab_of 10 38 (.agg #[I x1.epoch, U x1.root, U x1.prev, I x1.at_]) [(30, Bo false), (37, Pt b3 (o1 + (l.length - 1) * 4))] (fun X => ?_)
     exact runL_ldG 38 32 (cs := [I x1.epoch, U x1.root, U x1.prev, I x1.at_]) 0 (.agg #[I x1.epoch, U x1.root, U x1.prev, I x1.at_]) hc1 stab_end
    ·
     refine stab_of 11 39 (Bo (!(decide (r.head.epoch = x1.epoch) && decide (r.head.root = x1.root) && decide (r.head.prev = x1.prev) && decide (r.head.at_ = x1.at_)))) [(30, Bo false), (32, .agg #[I r.head.epoch, U r.head.root, U r.head.prev, I r.head.at_]), (38, .agg #[I x1.epoch, U x1.root, U x1.prev, I x1.at_])] (fun X => ?_)
     exact runL_eqv 39 (Bo (!(decide (r.head.epoch = x1.epoch) && (decide (r.head.root = x1.root) && (decide (r.head.prev = x1.prev) && (decide (r.head.at_ = x1.at_) && true)))))) (Bo (!(decide (r.head.epoch = x1.epoch) && decide (r.head.root = x1.root) && decide (r.head.prev = x1.prev) && decide (r.head.at_ = x1.at_)))) (by simp [B_toList, Bool.and_assoc]) stab_end
    ·
     refine stab_of 12 40 (Bo false) [(30, Bo false), (39, Bo (!(decide (r.head.epoch = x1.epoch) && decide (r.head.root = x1.root) && decide (r.head.prev = x1.prev) && decide (r.head.at_ = x1.at_))))] (fun X => ?_)
     exact runL_p1 40 (Bo (!(decide (r.head.epoch = x1.epoch) && decide (r.head.root = x1.root) && decide (r.head.prev = x1.prev) && decide (r.head.at_ = x1.at_)))) (Bo false) (by rw [h3]) stab_end
    refine tq_eq (fr' := [(3, Pt b1 0), (9, Sr ((serveTell r).1)), (10, Bo ((serveTell r).2.1)), (27, Bo (!(r.proof.name == o.name)))]) (L' := [[Sg b2 0 [I r.head.epoch, U r.head.root, U r.head.prev, I r.head.at_, Sr r.proof.name, Sl a2 r.proof.entries.length c2, Sl a3 r.proof.sides.length c3]], [Sg b1 0 [Sr o.name, U o.key, I o.head.epoch, U o.head.root, U o.head.prev, I o.head.at_, Sl a1 o.wanted.length c1, I o.had]]]) (by simp only [B_toList]) (by rfl) ?_
    refine tq_then ?_
    refine tc_cond (!(r.proof.name == o.name)) (fun h4 => ?_) (fun h4 => ?_)
    ·
     try simp only [BB] at h4
     refine tc_rb [0,0] [(6, I 4), (7, I 0)] (tc_ret (tq_block_ret (tq_then_ret ?_)))
     refine tq_ret [0, 0] [I 4, I 0] (bp_ret hl1 ?_)
     have hf_ : (ownerVerdict o l r) = (4, 0) := by
      first | (unfold ownerVerdict; rw [if_pos (by assumption)]; done) | exact verd_c1 (by assumption) (.inl (.inl (by assumption))) | exact verd_c1 (by assumption) (.inl (.inr ⟨_, hx1, by assumption⟩)) | exact verd_c1 (by assumption) (.inr (by assumption)) | (rw [verd_c0 (by assumption) (by assumption) hx1 (by assumption) (by assumption)]; first | (rw [if_pos (by assumption)]; done) | (rw [if_neg (by simp_all)]; first | (rw [if_pos (by assumption)]; done) | (rw [if_neg (by simp_all)]; obtain ⟨q1_, q2_⟩ := verd_idx (serveTell r).1 hkn1; rw [q1_, q2_]; first | (rw [if_pos (by assumption)]; done) | (rw [if_neg (by omega)]; done))))
     (try rw [hf_]); first | with_reducible rfl | (simp only [packR]; done) | rfl
    ·
     try simp only [BB] at h4
     refine tc_seq (tc_region ?_)
     refine runL_b [0,0,0] [(3, Pt b1 0), (9, Sr ((serveTell r).1)), (10, Bo ((serveTell r).2.1)), (52, Bo (!((serveTell r).2.1)))] ?_
     refine runL_b2 (!((serveTell r).2.1)) (fun bb => [(3, Pt b1 0), (9, Sr ((serveTell r).1)), (10, Bo ((serveTell r).2.1)), (52, Bo bb)]) [0,4,0,0] [1,1,1,0] (fun bb => [(3, Pt b1 0), (9, Sr ((serveTell r).1)), (10, Bo ((serveTell r).2.1)), (56, Bo (bb && (decide (o.had > 0))))]) ?_
     refine runL_b [0] [(3, Pt b1 0), (9, Sr ((serveTell r).1)), (10, Bo ((serveTell r).2.1)), (49, Bo ((!((serveTell r).2.1)) && (decide (o.had > 0))))] (runL_nil (tq_then ?_))
     refine tc_cond ((!((serveTell r).2.1)) && (decide (o.had > 0))) (fun h5 => ?_) (fun h5 => ?_)
     ·
      try simp only [BB] at h5
      refine tc_rb [0,0] [(6, I 5), (7, I 0)] (tc_ret (tq_block_ret (tq_then_ret ?_)))
      refine tq_ret [0, 0] [I 5, I 0] (bp_ret hl1 ?_)
      have hf_ : (ownerVerdict o l r) = (5, 0) := by
       first | (unfold ownerVerdict; rw [if_pos (by assumption)]; done) | exact verd_c1 (by assumption) (.inl (.inl (by assumption))) | exact verd_c1 (by assumption) (.inl (.inr ⟨_, hx1, by assumption⟩)) | exact verd_c1 (by assumption) (.inr (by assumption)) | (rw [verd_c0 (by assumption) (by assumption) hx1 (by assumption) (by assumption)]; first | (rw [if_pos (by assumption)]; done) | (rw [if_neg (by simp_all)]; first | (rw [if_pos (by assumption)]; done) | (rw [if_neg (by simp_all)]; obtain ⟨q1_, q2_⟩ := verd_idx (serveTell r).1 hkn1; rw [q1_, q2_]; first | (rw [if_pos (by assumption)]; done) | (rw [if_neg (by omega)]; done))))
      (try rw [hf_]); first | with_reducible rfl | (simp only [packR]; done) | rfl
     ·
      try simp only [BB] at h5
      refine tc_rb [0,0,0] [(3, Pt b1 0), (9, Sr ((serveTell r).1)), (57, Bo (!((serveTell r).2.1)))] ?_
      refine tc_cond (!((serveTell r).2.1)) (fun h6 => ?_) (fun h6 => ?_)
      ·
       try simp only [BB] at h6
       refine tc_rb [0,0] [(6, I 0), (7, I 0)] (tc_ret (tq_block_ret (tq_then_ret ?_)))
       refine tq_ret [0, 0] [I 0, I 0] (bp_ret hl1 ?_)
       have hf_ : (ownerVerdict o l r) = (0, 0) := by
        first | (unfold ownerVerdict; rw [if_pos (by assumption)]; done) | exact verd_c1 (by assumption) (.inl (.inl (by assumption))) | exact verd_c1 (by assumption) (.inl (.inr ⟨_, hx1, by assumption⟩)) | exact verd_c1 (by assumption) (.inr (by assumption)) | (rw [verd_c0 (by assumption) (by assumption) hx1 (by assumption) (by assumption)]; first | (rw [if_pos (by assumption)]; done) | (rw [if_neg (by simp_all)]; first | (rw [if_pos (by assumption)]; done) | (rw [if_neg (by simp_all)]; obtain ⟨q1_, q2_⟩ := verd_idx (serveTell r).1 hkn1; rw [q1_, q2_]; first | (rw [if_pos (by assumption)]; done) | (rw [if_neg (by omega)]; done))))
       (try rw [hf_]); first | with_reducible rfl | (simp only [packR]; done) | rfl
      ·
       try simp only [BB] at h6
       refine tc_skip (tq_block (tq_then ?_))
       refine tc_rb [0,4,0,0,0] [(3, Pt b1 0), (9, Sr ((serveTell r).1)), (12, I (if 0 > (IntKind.i64.wrap (o.had - 1)) then 0 else (IntKind.i64.wrap (o.had - 1))))] ?_
       have e4 : IntKind.i64.wrap (o.had - 1) = o.had - 1 := IntWalk.i64_in _ (by first | omega | (have q_ := (links_ok (by assumption)).1; have q1_ := q_.len1; have q2_ := q_.len; omega) | (have q_ := ownerCheck_iff.1 ho; omega) | (have q_ := ownerCheck_iff.1 ho; split at hkn1 <;> omega) | (have q_ := ownerCheck_iff.1 ho; have q1_ := idxF_le (fun x => decide ((serveTell r).1 = x)) (o.wanted.drop kn1); rw [List.length_drop] at q1_; omega) | (have q_ := ownerCheck_iff.1 ho; split <;> omega))
       refine tc_eq (fr' := [(3, Pt b1 0), (9, Sr ((serveTell r).1)), (12, I (if 0 > (o.had - 1) then 0 else (o.had - 1)))]) (L' := [[Sg b2 0 [I r.head.epoch, U r.head.root, U r.head.prev, I r.head.at_, Sr r.proof.name, Sl a2 r.proof.entries.length c2, Sl a3 r.proof.sides.length c3]], [Sg b1 0 [Sr o.name, U o.key, I o.head.epoch, U o.head.root, U o.head.prev, I o.head.at_, Sl a1 o.wanted.length c1, I o.had]]]) (by simp only [e4]) (by rfl) ?_
       clear e4
       refine tc_seq (tc_region ?_)
       refine runL_b [0,4,0] [(9, Sr ((serveTell r).1)), (12, I (if 0 > (o.had - 1) then 0 else (o.had - 1))), (65, Sl a1 o.wanted.length c1), (66, I (if 0 > (o.had - 1) then 0 else (o.had - 1)))] ?_
       obtain ⟨kn1, hkn1⟩ : ∃ k_ : Nat, (if 0 > (o.had - 1) then 0 else (o.had - 1)) = (k_ : Int) := ⟨(if 0 > (o.had - 1) then 0 else (o.had - 1)).toNat, by first | omega | (have q_ := (links_ok (by assumption)).1; have q1_ := q_.len1; have q2_ := q_.len; omega) | (have q_ := ownerCheck_iff.1 ho; omega) | (have q_ := ownerCheck_iff.1 ho; split at hkn1 <;> omega) | (have q_ := ownerCheck_iff.1 ho; have q1_ := idxF_le (fun x => decide ((serveTell r).1 = x)) (o.wanted.drop kn1); rw [List.length_drop] at q1_; omega) | (have q_ := ownerCheck_iff.1 ho; split <;> omega)⟩
       have e5 : (if 0 > (o.had - 1) then 0 else (o.had - 1)) = (kn1 : Int) := hkn1
       refine runL_b [] [(9, Sr ((serveTell r).1)), (12, I (if 0 > (o.had - 1) then 0 else (o.had - 1))), (65, Sl a1 o.wanted.length c1), (66, I (if 0 > (o.had - 1) then 0 else (o.had - 1)))] ?_
       refine runL_eq (fr' := [(9, Sr ((serveTell r).1)), (12, I (kn1 : Int)), (65, Sl a1 o.wanted.length c1), (66, I (kn1 : Int))]) (L' := [[Sg b2 0 [I r.head.epoch, U r.head.root, U r.head.prev, I r.head.at_, Sr r.proof.name, Sl a2 r.proof.entries.length c2, Sl a3 r.proof.sides.length c3]], [Sg b1 0 [Sr o.name, U o.key, I o.head.epoch, U o.head.root, U o.head.prev, I o.head.at_, Sl a1 o.wanted.length c1, I o.had]]]) (by first | rfl | simp only [e5]) (by first | rfl | simp only [e5]) ?_
       obtain ⟨a4, c4, ea1, ec1, en1, eh1, hs4⟩ := RS.reslXD (hs1.mono hl1) kn1 (by first | omega | (have q_ := (links_ok (by assumption)).1; have q1_ := q_.len1; have q2_ := q_.len; omega) | (have q_ := ownerCheck_iff.1 ho; omega) | (have q_ := ownerCheck_iff.1 ho; split at hkn1 <;> omega) | (have q_ := ownerCheck_iff.1 ho; have q1_ := idxF_le (fun x => decide ((serveTell r).1 = x)) (o.wanted.drop kn1); rw [List.length_drop] at q1_; omega) | (have q_ := ownerCheck_iff.1 ho; split <;> omega))
       refine runL_reslE (a := a1) (len := o.wanted.length) (cap := c1) 67 1 (some (I (kn1 : Int))) none kn1 o.wanted.length (.inr ⟨_, rfl⟩) (.inl ⟨rfl, rfl⟩) (by first | omega | (have q_ := (links_ok (by assumption)).1; have q1_ := q_.len1; have q2_ := q_.len; omega) | (have q_ := ownerCheck_iff.1 ho; omega) | (have q_ := ownerCheck_iff.1 ho; split at hkn1 <;> omega) | (have q_ := ownerCheck_iff.1 ho; have q1_ := idxF_le (fun x => decide ((serveTell r).1 = x)) (o.wanted.drop kn1); rw [List.length_drop] at q1_; omega) | (have q_ := ownerCheck_iff.1 ho; split <;> omega)) ea1 ec1 en1 eh1 ?_
       refine runL_b [0] [(12, I (kn1 : Int)), (67, Sl a4 ((o.wanted.drop kn1).length) c4), (68, Sr ((serveTell r).1))] ?_
       refine runL_callV 69 (I (idxF (fun x => decide ((serveTell r).1 = x)) (o.wanted.drop kn1))) (sidx_ES G1 a4 c4 (o.wanted.drop kn1) hs4 ((serveTell r).1)) ?_
       refine runL_b [0] [(12, I (kn1 : Int)), (13, I (idxF (fun x => decide ((serveTell r).1 = x)) (o.wanted.drop kn1)))] (runL_nil (tq_then (tc_seq ?_)))
       refine tc_rb [0,0] [(12, I (kn1 : Int)), (13, I (idxF (fun x => decide ((serveTell r).1 = x)) (o.wanted.drop kn1))), (71, Bo (decide (idxF (fun x => decide ((serveTell r).1 = x)) (o.wanted.drop kn1) < 0)))] ?_
       refine tc_cond (decide (idxF (fun x => decide ((serveTell r).1 = x)) (o.wanted.drop kn1) < 0)) (fun h7 => ?_) (fun h7 => ?_)
       ·
        try simp only [BB] at h7
        refine tc_rb [0,0] [(6, I 6), (7, I 0)] (tc_ret (tq_then_ret ?_))
        refine tq_ret [0, 0] [I 6, I 0] (bp_ret hl1 ?_)
        have hf_ : (ownerVerdict o l r) = (6, 0) := by
         first | (unfold ownerVerdict; rw [if_pos (by assumption)]; done) | exact verd_c1 (by assumption) (.inl (.inl (by assumption))) | exact verd_c1 (by assumption) (.inl (.inr ⟨_, hx1, by assumption⟩)) | exact verd_c1 (by assumption) (.inr (by assumption)) | (rw [verd_c0 (by assumption) (by assumption) hx1 (by assumption) (by assumption)]; first | (rw [if_pos (by assumption)]; done) | (rw [if_neg (by simp_all)]; first | (rw [if_pos (by assumption)]; done) | (rw [if_neg (by simp_all)]; obtain ⟨q1_, q2_⟩ := verd_idx (serveTell r).1 hkn1; rw [q1_, q2_]; first | (rw [if_pos (by assumption)]; done) | (rw [if_neg (by omega)]; done))))
        (try rw [hf_]); first | with_reducible rfl | (simp only [packR]; done) | rfl
       ·
        try simp only [BB] at h7
        refine tc_skip (tq_then ?_)
        refine tc_rb [0,0,0,0,0,0] [(6, I 0), (7, I (IntKind.i64.wrap ((IntKind.i64.wrap ((kn1 : Int) + (idxF (fun x => decide ((serveTell r).1 = x)) (o.wanted.drop kn1)))) + 1)))] ?_
        have e6 : IntKind.i64.wrap ((kn1 : Int) + (idxF (fun x => decide ((serveTell r).1 = x)) (o.wanted.drop kn1))) = (kn1 : Int) + (idxF (fun x => decide ((serveTell r).1 = x)) (o.wanted.drop kn1)) := IntWalk.i64_in _ (by first | omega | (have q_ := (links_ok (by assumption)).1; have q1_ := q_.len1; have q2_ := q_.len; omega) | (have q_ := ownerCheck_iff.1 ho; omega) | (have q_ := ownerCheck_iff.1 ho; split at hkn1 <;> omega) | (have q_ := ownerCheck_iff.1 ho; have q1_ := idxF_le (fun x => decide ((serveTell r).1 = x)) (o.wanted.drop kn1); rw [List.length_drop] at q1_; omega) | (have q_ := ownerCheck_iff.1 ho; split <;> omega))
        have e7 : IntKind.i64.wrap (((kn1 : Int) + (idxF (fun x => decide ((serveTell r).1 = x)) (o.wanted.drop kn1))) + 1) = ((kn1 : Int) + (idxF (fun x => decide ((serveTell r).1 = x)) (o.wanted.drop kn1))) + 1 := IntWalk.i64_in _ (by first | omega | (have q_ := (links_ok (by assumption)).1; have q1_ := q_.len1; have q2_ := q_.len; omega) | (have q_ := ownerCheck_iff.1 ho; omega) | (have q_ := ownerCheck_iff.1 ho; split at hkn1 <;> omega) | (have q_ := ownerCheck_iff.1 ho; have q1_ := idxF_le (fun x => decide ((serveTell r).1 = x)) (o.wanted.drop kn1); rw [List.length_drop] at q1_; omega) | (have q_ := ownerCheck_iff.1 ho; split <;> omega))
        refine tc_eq (fr' := [(6, I 0), (7, I (((kn1 : Int) + (idxF (fun x => decide ((serveTell r).1 = x)) (o.wanted.drop kn1))) + 1))]) (L' := [[Sg b2 0 [I r.head.epoch, U r.head.root, U r.head.prev, I r.head.at_, Sr r.proof.name, Sl a2 r.proof.entries.length c2, Sl a3 r.proof.sides.length c3]], [Sg b1 0 [Sr o.name, U o.key, I o.head.epoch, U o.head.root, U o.head.prev, I o.head.at_, Sl a1 o.wanted.length c1, I o.had]]]) (by simp only [e6, e7]) (by rfl) ?_
        clear e7 e6
        refine tc_ret ?_
        refine tq_ret [0, 0] [I 0, I (((kn1 : Int) + (idxF (fun x => decide ((serveTell r).1 = x)) (o.wanted.drop kn1))) + 1)] (bp_ret hl1 ?_)
        have hf_ : (ownerVerdict o l r) = (0, (((kn1 : Int) + (idxF (fun x => decide ((serveTell r).1 = x)) (o.wanted.drop kn1))) + 1)) := by
         first | (unfold ownerVerdict; rw [if_pos (by assumption)]; done) | exact verd_c1 (by assumption) (.inl (.inl (by assumption))) | exact verd_c1 (by assumption) (.inl (.inr ⟨_, hx1, by assumption⟩)) | exact verd_c1 (by assumption) (.inr (by assumption)) | (rw [verd_c0 (by assumption) (by assumption) hx1 (by assumption) (by assumption)]; first | (rw [if_pos (by assumption)]; done) | (rw [if_neg (by simp_all)]; first | (rw [if_pos (by assumption)]; done) | (rw [if_neg (by simp_all)]; obtain ⟨q1_, q2_⟩ := verd_idx (serveTell r).1 hkn1; rw [q1_, q2_]; first | (rw [if_pos (by assumption)]; done) | (rw [if_neg (by omega)]; done))))
        (try rw [hf_]); first | with_reducible rfl | (simp only [packR]; done) | rfl
theorem ownerSee_con (G : Mem) (vs_o : List Value) (o : OwnerD) (h_o : EOwner.R G vs_o o) (a_l : Option Addr) (c_l : Nat) (l : List HeadD) (h_l : RS EHead G a_l c_l l) (vs_r : List Value) (r : ReplyD) (h_r : EReply.R G vs_r r)  : Con Tryz.prog 47 #[.agg vs_o.toArray, Sl a_l l.length c_l, .agg vs_r.toArray] G [] (fun u G' L' => ∃ (a1 : Option Addr) (c2 : Nat), u = .tuple #[.agg #[Sr (((ownerSee o l r).1).name), U (((ownerSee o l r).1).key), I (((ownerSee o l r).1).head.epoch), U (((ownerSee o l r).1).head.root), U (((ownerSee o l r).1).head.prev), I (((ownerSee o l r).1).head.at_), Sl a1 ((((ownerSee o l r).1).wanted).length) c2, I (((ownerSee o l r).1).had)], I ((ownerSee o l r).2.1), I ((ownerSee o l r).2.2)] ∧ ((((ownerSee o l r).1).name).length ≤ 140737488351232) ∧ (0 ≤ (((ownerSee o l r).1).key) ∧ (((ownerSee o l r).1).key) < 18446744073709551616) ∧ (-9223372036854775808 ≤ (((ownerSee o l r).1).head.epoch) ∧ (((ownerSee o l r).1).head.epoch) < 9223372036854775808) ∧ (0 ≤ (((ownerSee o l r).1).head.root) ∧ (((ownerSee o l r).1).head.root) < 18446744073709551616) ∧ (0 ≤ (((ownerSee o l r).1).head.prev) ∧ (((ownerSee o l r).1).head.prev) < 18446744073709551616) ∧ (-9223372036854775808 ≤ (((ownerSee o l r).1).head.at_) ∧ (((ownerSee o l r).1).head.at_) < 9223372036854775808) ∧ (RS ES G' a1 c2 (((ownerSee o l r).1).wanted)) ∧ (-9223372036854775808 ≤ (((ownerSee o l r).1).had) ∧ (((ownerSee o l r).1).had) < 9223372036854775808) ∧ L' = []) := by
 obtain ⟨a1, c1, rfl, w1, w2, w3, w4, w5, w6, hs1, w7⟩ := h_o
 obtain ⟨a2, c2, a3, c3, rfl, w8, w9, w10, w11, w12, hs2, hs3⟩ := h_r
 refine con_of Tryz.func47 36 [(0, .agg #[Sr o.name, U o.key, I o.head.epoch, U o.head.root, U o.head.prev, I o.head.at_, Sl a1 o.wanted.length c1, I o.had]), (1, Sl a_l l.length c_l), (2, .agg #[I r.head.epoch, U r.head.root, U r.head.prev, I r.head.at_, Sr r.proof.name, Sl a2 r.proof.entries.length c2, Sl a3 r.proof.sides.length c3])] rfl (fun w0 G0 => ?_)
 refine tc_seq (tc_region ?_)
 refine runL_box 3 #[Sr o.name, U o.key, I o.head.epoch, U o.head.root, U o.head.prev, I o.head.at_, Sl a1 o.wanted.length c1, I o.had] 92 (fun b1 => ?_)
 refine runL_box 5 #[I r.head.epoch, U r.head.root, U r.head.prev, I r.head.at_, Sr r.proof.name, Sl a2 r.proof.entries.length c2, Sl a3 r.proof.sides.length c3] 38 (fun b2 => ?_)
 refine runL_box 6 #[Sr ([]), U 0, I 0, U 0, U 0, I 0, Sl none 0 0, I 0] 92 (fun b3 => ?_)
 refine runL_b [0,0] [(1, Sl a_l l.length c_l), (3, Pt b1 0), (5, Pt b2 0), (6, Pt b3 0)] (runL_nil (tq_then (tc_seq (tc_seq (tc_region ?_)))))
 refine runL_b [6] [(1, Sl a_l l.length c_l), (3, Pt b1 0), (5, Pt b2 0), (6, Pt b3 0), (12, .agg #[Sr o.name, U o.key, I o.head.epoch, U o.head.root, U o.head.prev, I o.head.at_, Sl a1 o.wanted.length c1, I o.had])] ?_
 refine runL_callV 13 (I (ownerCheck o)) (ownerCheck_con G [Sr o.name, U o.key, I o.head.epoch, U o.head.root, U o.head.prev, I o.head.at_, Sl a1 o.wanted.length c1, I o.had] o (⟨a1, c1, rfl, w1, w2, w3, w4, w5, w6, hs1, w7⟩)) ?_
 refine runL_b [0] [(1, Sl a_l l.length c_l), (3, Pt b1 0), (5, Pt b2 0), (6, Pt b3 0), (9, I (ownerCheck o))] (runL_nil (tq_then ?_))
 refine tc_rb [0,0] [(1, Sl a_l l.length c_l), (3, Pt b1 0), (5, Pt b2 0), (6, Pt b3 0), (9, I (ownerCheck o)), (15, Bo (!decide (ownerCheck o = 0)))] ?_
 refine tc_cond (!decide (ownerCheck o = 0)) (fun h1 => ?_) (fun h1 => ?_)
 ·
  try simp only [BB] at h1
  refine tc_rb [0,0,3,0,0] [(6, Pt b3 0), (7, I 0), (8, I (ownerCheck o))] (tc_ret (tq_then_ret ?_))
  have hf1 : ownerSee o l r = ((⟨[], 0, (⟨0, 0, 0, 0⟩ : HeadD), [], 0⟩ : OwnerD), 0, ownerCheck o) := by
   unfold ownerSee ownerZ headZ; simp_all
  refine tq_ret [0, 0, 0] [.agg #[Sr ([]), U 0, I 0, U 0, U 0, I 0, Sl none 0 0, I 0], I 0, I (ownerCheck o)] (bp_rows [] (.cons _ (.cons _ (.cons _ .slnil))) (Mem.le_refl _) ?_)
  rw [hf1]
  try dsimp only
  exact ⟨none, 0, rfl, (Nat.le_of_ble_eq_true rfl), (by first | (first | assumption | omega | (have q_ := verdict_fine (by assumption) (by assumption); have q1_ := ownerCheck_iff.1 (by assumption); omega)) | (dsimp only; first | assumption | omega | (have q_ := verdict_fine (by assumption) (by assumption); have q1_ := ownerCheck_iff.1 (by assumption); omega))), (by first | (first | assumption | omega | (have q_ := verdict_fine (by assumption) (by assumption); have q1_ := ownerCheck_iff.1 (by assumption); omega)) | (dsimp only; first | assumption | omega | (have q_ := verdict_fine (by assumption) (by assumption); have q1_ := ownerCheck_iff.1 (by assumption); omega))), (by first | (first | assumption | omega | (have q_ := verdict_fine (by assumption) (by assumption); have q1_ := ownerCheck_iff.1 (by assumption); omega)) | (dsimp only; first | assumption | omega | (have q_ := verdict_fine (by assumption) (by assumption); have q1_ := ownerCheck_iff.1 (by assumption); omega))), (by first | (first | assumption | omega | (have q_ := verdict_fine (by assumption) (by assumption); have q1_ := ownerCheck_iff.1 (by assumption); omega)) | (dsimp only; first | assumption | omega | (have q_ := verdict_fine (by assumption) (by assumption); have q1_ := ownerCheck_iff.1 (by assumption); omega))), (by first | (first | assumption | omega | (have q_ := verdict_fine (by assumption) (by assumption); have q1_ := ownerCheck_iff.1 (by assumption); omega)) | (dsimp only; first | assumption | omega | (have q_ := verdict_fine (by assumption) (by assumption); have q1_ := ownerCheck_iff.1 (by assumption); omega))), (RS.nil' ES G), (by first | (first | assumption | omega | (have q_ := verdict_fine (by assumption) (by assumption); have q1_ := ownerCheck_iff.1 (by assumption); omega)) | (dsimp only; first | assumption | omega | (have q_ := verdict_fine (by assumption) (by assumption); have q1_ := ownerCheck_iff.1 (by assumption); omega))), rfl⟩
 ·
  try simp only [BB] at h1
  refine tc_skip (tq_then (tc_seq (tc_region ?_)))
  refine runL_b [6] [(1, Sl a_l l.length c_l), (3, Pt b1 0), (5, Pt b2 0), (6, Pt b3 0), (18, .agg #[Sr o.name, U o.key, I o.head.epoch, U o.head.root, U o.head.prev, I o.head.at_, Sl a1 o.wanted.length c1, I o.had])] ?_
  refine runL_callR 19 (copiedO_con G [Sr o.name, U o.key, I o.head.epoch, U o.head.root, U o.head.prev, I o.head.at_, Sl a1 o.wanted.length c1, I o.had] o (⟨a1, c1, rfl, w1, w2, w3, w4, w5, w6, hs1, w7⟩)) (fun v G1 L1 hl1 hp => ?_)
  obtain ⟨a4, c4, rfl, w13, w14, w15, w16, w17, w18, hs4, w19, rfl⟩ := hp
  refine runL_bs [7] [(1, Sl a_l l.length c_l), (3, Pt b1 0), (5, Pt b2 0), (6, Pt b3 0)] [[Sg b3 0 [Sr ([]), U 0, I 0, U 0, U 0, I 0, Sl none 0 0, I 0]], [Sg b2 0 [I r.head.epoch, U r.head.root, U r.head.prev, I r.head.at_, Sr r.proof.name, Sl a2 r.proof.entries.length c2, Sl a3 r.proof.sides.length c3]], [Sg b1 0 [Sr o.name, U o.key, I o.head.epoch, U o.head.root, U o.head.prev, I o.head.at_, Sl a4 o.wanted.length c4, I o.had]]] (runL_nil (tq_then (tc_seq (tc_region ?_))))
  refine runL_b [6,0,4] [(3, Pt b1 0), (5, Pt b2 0), (6, Pt b3 0), (21, .agg #[Sr o.name, U o.key, I o.head.epoch, U o.head.root, U o.head.prev, I o.head.at_, Sl a4 o.wanted.length c4, I o.had]), (22, Sl a_l l.length c_l), (23, .agg #[I r.head.epoch, U r.head.root, U r.head.prev, I r.head.at_, Sr r.proof.name, Sl a2 r.proof.entries.length c2, Sl a3 r.proof.sides.length c3])] ?_
  refine runL_callV 24 (.tuple #[I ((ownerVerdict o l r).1), I ((ownerVerdict o l r).2)]) (ownerVerdict_con G1 [Sr o.name, U o.key, I o.head.epoch, U o.head.root, U o.head.prev, I o.head.at_, Sl a4 o.wanted.length c4, I o.had] o (⟨a4, c4, rfl, w13, w14, w15, w16, w17, w18, hs4, w19⟩) a_l c_l l (h_l.mono hl1) [I r.head.epoch, U r.head.root, U r.head.prev, I r.head.at_, Sr r.proof.name, Sl a2 r.proof.entries.length c2, Sl a3 r.proof.sides.length c3] r (⟨a2, c2, a3, c3, rfl, w8, w9, w10, w11, w12, (hs2.mono hl1), (hs3.mono hl1)⟩) (by first | assumption | omega | simp)) ?_
  refine runL_b [0,0,0,0,0] [(3, Pt b1 0), (5, Pt b2 0), (6, Pt b3 0), (10, I ((ownerVerdict o l r).1)), (11, I ((ownerVerdict o l r).2))] (runL_nil (tq_then (tc_seq ?_)))
  refine tc_rb [0,0] [(3, Pt b1 0), (5, Pt b2 0), (6, Pt b3 0), (10, I ((ownerVerdict o l r).1)), (11, I ((ownerVerdict o l r).2)), (28, Bo (decide ((ownerVerdict o l r).1 = 0)))] ?_
  refine tc_cond (decide ((ownerVerdict o l r).1 = 0)) (fun h2 => ?_) (fun h2 => ?_)
  ·
   try simp only [BB] at h2
   refine tc_region ?_
   refine runL_bs [0,4,0,0,7,0,7] [(3, Pt b1 0), (6, Pt b3 0), (10, I ((ownerVerdict o l r).1))] [[Sg b3 0 [Sr ([]), U 0, I 0, U 0, U 0, I 0, Sl none 0 0, I 0]], [Sg b2 0 [I r.head.epoch, U r.head.root, U r.head.prev, I r.head.at_, Sr r.proof.name, Sl a2 r.proof.entries.length c2, Sl a3 r.proof.sides.length c3]], [Sg b1 0 [Sr o.name, U o.key, I r.head.epoch, U r.head.root, U r.head.prev, I r.head.at_, Sl a4 o.wanted.length c4, I ((ownerVerdict o l r).2)]]] (runL_nil (tq_then ?_))
   refine tc_rbs [6,0,3,0,0] [(6, Pt b3 0), (7, I ((ownerVerdict o l r).1)), (8, I 0)] [[Sg b3 0 [Sr o.name, U o.key, I r.head.epoch, U r.head.root, U r.head.prev, I r.head.at_, Sl a4 o.wanted.length c4, I ((ownerVerdict o l r).2)]], [Sg b2 0 [I r.head.epoch, U r.head.root, U r.head.prev, I r.head.at_, Sr r.proof.name, Sl a2 r.proof.entries.length c2, Sl a3 r.proof.sides.length c3]], [Sg b1 0 [Sr o.name, U o.key, I r.head.epoch, U r.head.root, U r.head.prev, I r.head.at_, Sl a4 o.wanted.length c4, I ((ownerVerdict o l r).2)]]] ?_
   refine tc_ret ?_
   have hf2 : ownerSee o l r = ((⟨o.name, o.key, r.head, o.wanted, (ownerVerdict o l r).2⟩ : OwnerD), (ownerVerdict o l r).1, 0) := by
    unfold ownerSee ownerZ headZ; simp_all
   refine tq_ret [0, 0, 0] [.agg #[Sr o.name, U o.key, I r.head.epoch, U r.head.root, U r.head.prev, I r.head.at_, Sl a4 o.wanted.length c4, I ((ownerVerdict o l r).2)], I ((ownerVerdict o l r).1), I 0] (bp_rows [] (.cons _ (.cons _ (.cons _ .slnil))) hl1 ?_)
   rw [hf2]
   try dsimp only
   exact ⟨a4, c4, rfl, w13, w14, w8, w9, w10, w11, hs4, (by first | (first | assumption | omega | (have q_ := verdict_fine (by assumption) (by assumption); have q1_ := ownerCheck_iff.1 (by assumption); omega)) | (dsimp only; first | assumption | omega | (have q_ := verdict_fine (by assumption) (by assumption); have q1_ := ownerCheck_iff.1 (by assumption); omega))), rfl⟩
  ·
   try simp only [BB] at h2
   refine tc_skip (tq_then ?_)
   refine tc_rbs [6,0,3,0,0] [(6, Pt b3 0), (7, I ((ownerVerdict o l r).1)), (8, I 0)] [[Sg b3 0 [Sr o.name, U o.key, I o.head.epoch, U o.head.root, U o.head.prev, I o.head.at_, Sl a4 o.wanted.length c4, I o.had]], [Sg b2 0 [I r.head.epoch, U r.head.root, U r.head.prev, I r.head.at_, Sr r.proof.name, Sl a2 r.proof.entries.length c2, Sl a3 r.proof.sides.length c3]], [Sg b1 0 [Sr o.name, U o.key, I o.head.epoch, U o.head.root, U o.head.prev, I o.head.at_, Sl a4 o.wanted.length c4, I o.had]]] ?_
   refine tc_ret ?_
   have hf3 : ownerSee o l r = (o, (ownerVerdict o l r).1, 0) := by
    unfold ownerSee ownerZ headZ; simp_all
   refine tq_ret [0, 0, 0] [.agg #[Sr o.name, U o.key, I o.head.epoch, U o.head.root, U o.head.prev, I o.head.at_, Sl a4 o.wanted.length c4, I o.had], I ((ownerVerdict o l r).1), I 0] (bp_rows [] (.cons _ (.cons _ (.cons _ .slnil))) hl1 ?_)
   rw [hf3]
   try dsimp only
   exact ⟨a4, c4, rfl, w13, w14, w15, w16, w17, w18, hs4, w19, rfl⟩
end Go.Proofs.YtmpakffajpnffaaGreatDoor
