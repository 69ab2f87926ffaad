import Derived.Test.YtngoijkcbmchdaaGreatDoorClash
import Derived.Test.YtngoijkcbmchdaaGreatDoorChain
import Derived.Test.YtngoijkcbmchdaaGreatDoorOwner
namespace Go.Proofs.YtngoijkcbmchdaaGreatDoor
open Go.Tx
set_option linter.unusedVariables false
set_option linter.unusedSimpArgs false

def proofRoot (p : ProofD) : Int × Int := if (proofSaid p).2 ≠ 0 then (0, (proofSaid p).2) else (markOf (lastT (proofSaid p).1), 0)
def proofHeld (root : Int) (p : ProofD) : Int := if (proofRoot p).2 = 0 ∧ ¬ (proofRoot p).1 = root then 8 else (proofRoot p).2
def proofTell (root : Int) (p : ProofD) : List UInt8 × Bool × Int := if ¬ proofHeld root p = 0 then ([], false, proofHeld root p) else treeGet p.entries p.name
def serveTell (r : ReplyD) : List UInt8 × Bool × Int := if ¬ headCheck r.head = 0 then ([], false, headCheck r.head) else proofTell r.head.root r.proof
theorem proofSaid_len {p : ProofD} (h : (proofSaid p).2 = 0) : (proofSaid p).1.length = 17 := by
  unfold proofSaid at h ⊢
  split at h
  · contradiction
  · rename_i h1
    rw [if_neg h1]
    simp only
    rw [pOut_len, (proofRight_iff.1 (Decidable.not_not.1 h1)).sides]
def linkDiff (x h : HeadD) : Bool := decide (x.epoch = h.epoch) && !decide (x = h)
def ownerLinks (h : HeadD) (l : List HeadD) : Int := if ¬ (chainCheck l).1 = 0 ∨ (firstH l).epoch > h.epoch + 1 then 2 else if (firstH l).epoch = h.epoch + 1 ∧ (chainFollows h l).1 = false then 2 else if (l.any fun x0 => linkDiff x0 h) = true then 3 else if (lastH l).epoch ≤ h.epoch then 1 else 0
def hadFrom (o : OwnerD) : Int := if 0 > o.had - 1 then 0 else o.had - 1
def hadIdx (o : OwnerD) (w : List UInt8) : Int := idxF (fun x => decide (w = x)) (o.wanted.drop (hadFrom o).toNat)
def ownerVerdict (o : OwnerD) (l : List HeadD) (r : ReplyD) : Int × Int := if ¬ ownerLinks o.head l = 0 then (ownerLinks o.head l, 0) else if (¬ (serveTell r).2.2 = 0 ∨ ¬ r.head = lastH l) ∨ ¬ r.proof.name = o.name then (4, 0) else if (serveTell r).2.1 = false ∧ o.had > 0 then (5, 0) else if (serveTell r).2.1 = false then (0, 0) else if hadIdx o (serveTell r).1 < 0 then (6, 0) else (0, hadFrom o + hadIdx o (serveTell r).1 + 1)
def ownerSee (o : OwnerD) (l : List HeadD) (r : ReplyD) : OwnerD × Int × Int := if ¬ ownerCheck o = 0 then (ownerZ, 0, ownerCheck o) else if (ownerVerdict o l r).1 = 0 then (⟨o.name, o.key, r.head, o.wanted, (ownerVerdict o l r).2⟩, 0, 0) else (o, (ownerVerdict o l r).1, 0)
theorem links_ok {h : HeadD} {l : List HeadD} (e : ownerLinks h l = 0) : ChainOk l ∧ h.epoch < (lastH l).epoch := by
  unfold ownerLinks at e
  split at e
  · cases e
  split at e
  · cases e
  split at e
  · cases e
  split at e
  · cases e
  · rename_i h1 _ _ h4
    exact ⟨chainCheck_iff.1 (Decidable.not_not.1 fun hc => h1 (.inl hc)), by omega⟩
theorem OwnerD_ne {x y : OwnerD} : x = y ↔ x.name = y.name ∧ x.key = y.key ∧ x.head = y.head ∧ x.wanted = y.wanted ∧ x.had = y.had := by cases x; cases y; simp
theorem links_c1 {h : HeadD} {l : List HeadD} {x : HeadD} (h1 : ¬ (chainCheck l).1 = 0 ∨ (l[0]? = some x ∧ x.epoch > h.epoch + 1)) : ownerLinks h l = 2 := by
  unfold ownerLinks
  rw [if_pos]
  rcases h1 with h1 | ⟨h1, h2⟩
  · exact .inl h1
  · rw [← firstH_get h1]; exact .inr h2
theorem links_c2 {h : HeadD} {l : List HeadD} {x : HeadD} (h0 : (chainCheck l).1 = 0) (h1 : l[0]? = some x) (h2 : x.epoch ≤ h.epoch + 1) (h3 : x.epoch = h.epoch + 1) (h4 : (chainFollows h l).1 = false) : ownerLinks h l = 2 := by
  unfold ownerLinks
  rw [← firstH_get h1, if_neg (by omega), if_pos ⟨h3, h4⟩]
theorem links_c3 {h : HeadD} {l : List HeadD} {x : HeadD} (h0 : (chainCheck l).1 = 0) (h1 : l[0]? = some x) (h2 : x.epoch ≤ h.epoch + 1) (h3 : ¬ x.epoch = h.epoch + 1 ∨ (chainFollows h l).1 = true) : ownerLinks h l = if (l.any fun x0 => linkDiff x0 h) = true then 3 else if (lastH l).epoch ≤ h.epoch then 1 else 0 := by
  unfold ownerLinks
  rw [← firstH_get h1, if_neg (by omega), if_neg]
  rintro ⟨a, b⟩
  rcases h3 with h3 | h3
  · exact h3 a
  · rw [h3] at b; cases b
theorem idxF_le {α : Type} (p : α → Bool) (l : List α) : -1 ≤ idxF p l ∧ idxF p l < l.length + 1 := by
  by_cases h : idxF p l < 0
  · refine ⟨?_, by omega⟩
    unfold idxF; split <;> omega
  · obtain ⟨k, hk⟩ : ∃ k : Nat, idxF p l = k := ⟨_, (Int.toNat_of_nonneg (by omega)).symm⟩
    obtain ⟨x, hx, _⟩ := idxF_ge hk
    have := (List.getElem?_eq_some_iff.1 hx).1
    omega
theorem verd_c0 {o : OwnerD} {l : List HeadD} {r : ReplyD} {x : HeadD} (h0 : ownerLinks o.head l = 0) (h1 : (serveTell r).2.2 = 0) (h2 : l[l.length - 1]? = some x) (h3 : ((r.head.epoch = x.epoch ∧ r.head.root = x.root) ∧ r.head.prev = x.prev) ∧ r.head.at_ = x.at_) (h4 : r.proof.name = o.name) :
    ownerVerdict o l r = if (serveTell r).2.1 = false ∧ o.had > 0 then (5, 0) else if (serveTell r).2.1 = false then (0, 0) else if hadIdx o (serveTell r).1 < 0 then (6, 0) else (0, hadFrom o + hadIdx o (serveTell r).1 + 1) := by
  unfold ownerVerdict
  have e := lastH_get rfl h2
  have e2 : r.head = lastH l := by rw [← e, HeadD_ne]; exact ⟨h3.1.1.1, h3.1.1.2, h3.1.2, h3.2⟩
  rw [if_neg (by omega), if_neg]
  rintro ((a | a) | a)
  · exact a h1
  · exact a e2
  · exact a h4
theorem verd_c1 {o : OwnerD} {l : List HeadD} {r : ReplyD} (h0 : ownerLinks o.head l = 0) (h1 : (¬ (serveTell r).2.2 = 0 ∨ ∃ x, l[l.length - 1]? = some x ∧ (((r.head.epoch = x.epoch ∧ r.head.root = x.root) ∧ r.head.prev = x.prev) → ¬ r.head.at_ = x.at_)) ∨ ¬ r.proof.name = o.name) : ownerVerdict o l r = (4, 0) := by
  unfold ownerVerdict
  rw [if_neg (by omega), if_pos]
  rcases h1 with (h1 | ⟨x, h1, h2⟩) | h1
  · exact .inl (.inl h1)
  · refine .inl (.inr ?_)
    rw [← lastH_get rfl h1, HeadD_ne]
    rintro ⟨a, b, c, d⟩
    exact h2 ⟨⟨a, b⟩, c⟩ d
  · exact .inr h1
theorem verd_idx {o : OwnerD} {k : Nat} (w : List UInt8) (h : (if 0 > o.had - 1 then 0 else o.had - 1) = (k : Int)) : hadFrom o = k ∧ hadIdx o w = idxF (fun x => decide (w = x)) (o.wanted.drop k) := by
  have e : hadFrom o = k := h
  refine ⟨e, ?_⟩
  unfold hadIdx; rw [e]; rfl
theorem links_bd (h : HeadD) (l : List HeadD) : 0 ≤ ownerLinks h l ∧ ownerLinks h l ≤ 3 := by unfold ownerLinks; (repeat' split) <;> omega
theorem hadIdx_spec {o : OwnerD} {w : List UInt8} (h : ¬ hadIdx o w < 0) : ∃ k : Nat, hadIdx o w = k ∧ o.wanted[(hadFrom o).toNat + k]? = some w := by
  obtain ⟨k, hk⟩ : ∃ k : Nat, hadIdx o w = k := ⟨_, (Int.toNat_of_nonneg (by omega)).symm⟩
  refine ⟨k, hk, ?_⟩
  unfold hadIdx at hk
  obtain ⟨x, hx, hp⟩ := idxF_ge hk
  rw [List.getElem?_drop] at hx
  rw [hx, of_decide_eq_true hp]
theorem verdict_fine {o : OwnerD} {l : List HeadD} {r : ReplyD} (hc : ownerCheck o = 0) (h : (ownerVerdict o l r).1 = 0) :
    (serveTell r).2.2 = 0 ∧ o.head.epoch < r.head.epoch ∧ headCheck r.head = 0 ∧ o.had ≤ (ownerVerdict o l r).2 ∧ 0 ≤ (ownerVerdict o l r).2 ∧ (ownerVerdict o l r).2 ≤ o.wanted.length ∧
    ((serveTell r).2.1 = false → (ownerVerdict o l r).2 = 0 ∧ o.had = 0) ∧ ((serveTell r).2.1 = true → 1 ≤ (ownerVerdict o l r).2 ∧ ∃ k : Nat, (ownerVerdict o l r).2 - 1 = k ∧ o.wanted[k]? = some (serveTell r).1) := by
  have ho := ownerCheck_iff.1 hc
  unfold ownerVerdict at h ⊢
  by_cases h1 : ownerLinks o.head l = 0
  · rw [if_neg (by omega)] at h ⊢
    obtain ⟨c1, c2⟩ := links_ok h1
    by_cases h2 : (¬ (serveTell r).2.2 = 0 ∨ ¬ r.head = lastH l) ∨ ¬ r.proof.name = o.name
    · rw [if_pos h2] at h; cases h
    · rw [if_neg h2] at h ⊢
      have e1 : (serveTell r).2.2 = 0 := Decidable.not_not.1 fun hc => h2 (.inl (.inl hc))
      have e2 : r.head = lastH l := Decidable.not_not.1 fun hc => h2 (.inl (.inr hc))
      have e3 : headCheck r.head = 0 := by rw [e2]; exact c1.ok _ (List.mem_of_getElem? c1.last)
      by_cases h3 : (serveTell r).2.1 = false ∧ o.had > 0
      · rw [if_pos h3] at h; cases h
      · rw [if_neg h3] at h ⊢
        by_cases h4 : (serveTell r).2.1 = false
        · rw [if_pos h4] at h ⊢
          have : ¬ o.had > 0 := fun hc => h3 ⟨h4, hc⟩
          exact ⟨e1, by rw [e2]; exact c2, e3, by simp only; omega, by simp, by simp, fun _ => ⟨rfl, by omega⟩, fun hc => by rw [h4] at hc; cases hc⟩
        · rw [if_neg h4] at h ⊢
          by_cases h5 : hadIdx o (serveTell r).1 < 0
          · rw [if_pos h5] at h; cases h
          · rw [if_neg h5]
            obtain ⟨k, hk, hw⟩ := hadIdx_spec h5
            have hlt := (List.getElem?_eq_some_iff.1 hw).1
            have hf : 0 ≤ hadFrom o ∧ o.had - 1 ≤ hadFrom o := by unfold hadFrom; split <;> omega
            simp only
            refine ⟨e1, by rw [e2]; exact c2, e3, by omega, by omega, by omega, fun hc => absurd hc h4, fun _ => ⟨by omega, (hadFrom o).toNat + k, by omega, hw⟩⟩
  · rw [if_pos h1] at h; exact absurd h h1
theorem verdict_bd (o : OwnerD) (l : List HeadD) (r : ReplyD) : 0 ≤ (ownerVerdict o l r).1 ∧ (ownerVerdict o l r).1 ≤ 6 := by
  have := links_bd o.head l
  unfold ownerVerdict; (repeat' split) <;> simp only <;> omega
theorem see_ok {o : OwnerD} {l : List HeadD} {r : ReplyD} (h : (ownerSee o l r).2.2 = 0) : ownerCheck o = 0 ∧ (ownerSee o l r).2.1 = (ownerVerdict o l r).1 ∧ ((ownerVerdict o l r).1 = 0 → (ownerSee o l r).1 = ⟨o.name, o.key, r.head, o.wanted, (ownerVerdict o l r).2⟩) ∧ (¬ (ownerVerdict o l r).1 = 0 → (ownerSee o l r).1 = o) := by
  unfold ownerSee at h ⊢
  by_cases h1 : ownerCheck o = 0
  · rw [if_neg (by omega)] at h ⊢
    by_cases h2 : (ownerVerdict o l r).1 = 0
    · rw [if_pos h2]; exact ⟨h1, h2.symm, fun _ => rfl, fun hc => absurd h2 hc⟩
    · rw [if_neg h2]; exact ⟨h1, rfl, fun hc => absurd hc h2, fun _ => rfl⟩
  · rw [if_pos h1] at h; exact absurd h h1
theorem see_err {o : OwnerD} {l : List HeadD} {r : ReplyD} (h : ¬ (ownerSee o l r).2.2 = 0) : (ownerSee o l r).1 = ownerZ ∧ (ownerSee o l r).2.1 = 0 := by
  revert h; unfold ownerSee
  split
  · simp
  split <;> simp
theorem see_fine {o : OwnerD} {l : List HeadD} {r : ReplyD} (h : (ownerSee o l r).2.2 = 0) (hv : (ownerSee o l r).2.1 = 0) : (serveTell r).2.2 = 0 ∧ (ownerSee o l r).1.head = r.head ∧ o.head.epoch < (ownerSee o l r).1.head.epoch ∧ o.had ≤ (ownerSee o l r).1.had ∧ ownerCheck (ownerSee o l r).1 = 0 ∧ ((serveTell r).2.1 = false → (ownerSee o l r).1.had = 0 ∧ o.had = 0) ∧ ((serveTell r).2.1 = true → 1 ≤ (ownerSee o l r).1.had ∧ (ownerSee o l r).1.had ≤ o.wanted.length ∧ ∃ k : Nat, (ownerSee o l r).1.had - 1 = k ∧ o.wanted[k]? = some (serveTell r).1) := by
  obtain ⟨h1, h2, h3, _⟩ := see_ok h
  have hv0 : (ownerVerdict o l r).1 = 0 := by rw [← h2]; exact hv
  have hx := h3 hv0
  have ho := ownerCheck_iff.1 h1
  obtain ⟨a1, a2, a3, a4, a5, a6, a7, a8⟩ := verdict_fine h1 hv0
  rw [hx]
  refine ⟨a1, rfl, a2, a4, ownerCheck_iff.2 ⟨ho.1, a3, ho.2.2.1, ho.2.2.2.1, a5, a6⟩, a7, fun hi => ⟨(a8 hi).1, a6, (a8 hi).2⟩⟩
theorem see_detects {o : OwnerD} {l : List HeadD} {r : ReplyD} (h : (ownerSee o l r).2.2 = 0) (hi : (serveTell r).2.1 = true) (hn : (o.wanted.any fun x => decide ((serveTell r).1 = x)) = false) : ¬ (ownerSee o l r).2.1 = 0 := by
  intro hv
  obtain ⟨_, _, _, _, _, _, a8⟩ := see_fine h hv
  obtain ⟨_, _, k, _, hw⟩ := a8 hi
  have := List.any_eq_false.1 hn _ (List.mem_of_getElem? hw)
  simp at this

theorem proofRoot_con (G : Mem) (vs_p : List Value) (p : ProofD) (h_p : EProof.R G vs_p p)  : ConV 71 #[.agg vs_p.toArray] G (.tuple #[U ((proofRoot p).1), I ((proofRoot p).2)]) := by
  obtain ⟨a1, c1, a2, c2, rfl, w1, hs1, hs2⟩ := h_p
  refine con_of Tryz.func71 21 [(0, .agg #[Sr p.name, Sl a1 p.entries.length c1, Sl a2 p.sides.length c2])] rfl (fun w0 G0 => ?_)
  refine tc_seq ?_
  refine tc_region ?_
  refine runL_box 1 #[Sr p.name, Sl a1 p.entries.length c1, Sl a2 p.sides.length c2] 52 (fun b1 => ?_)
  refine runL_bn [0,0] [] ?_
  refine runL_nil ?_
  refine tq_then ?_
  refine tc_seq ?_
  refine tc_region ?_
  refine runL_bn [2] [(7, .agg #[Sr p.name, Sl a1 p.entries.length c1, Sl a2 p.sides.length c2])] ?_
  refine runL_callR 8 (proofSaid_con G [Sr p.name, Sl a1 p.entries.length c1, Sl a2 p.sides.length c2] p (⟨a1, c1, a2, c2, rfl, w1, hs1, hs2⟩)) (fun v G1 L1 hl1 hp => ?_)
  obtain ⟨a3, c3, rfl, hs3, rfl⟩ := hp
  refine runL_bn [0,0,0,0,0] [(4, Sl a3 (((proofSaid p).1).length) c3), (5, I ((proofSaid p).2))] ?_
  refine runL_nil ?_
  refine tq_then ?_
  refine tc_seq ?_
  refine tc_rbn [0,0] [(12, Bo (!decide ((proofSaid p).2 = 0)))] ?_
  refine tc_condP (!decide ((proofSaid p).2 = 0)) (fun h1 => ?_) (fun h1 => ?_)
  ·
    refine tc_rbn [0,0,0] [(2, U 0), (3, I ((proofSaid p).2))] ?_
    refine tc_ret ?_
    refine tq_then_ret ?_
    refine tq_ret [0, 0] [U 0, I ((proofSaid p).2)] (bp_ret hl1 ?_)
    have hf_ : (proofRoot p) = (0, ((proofSaid p).2)) := by
      unfold proofRoot; first | (rw [if_pos (by assumption)]; done) | (rw [if_neg (by omega)]; have hl_ := lastT_get (a := (proofSaid p).1) rfl hx1; rw [← hl_]; done)
    (try rw [hf_]); first | with_reducible rfl | (simp only [packR]; done) | rfl
  ·
    refine tc_skip ?_
    refine tq_then ?_
    refine tc_seq ?_
    refine tc_region ?_
    refine runL_bn [0,0,0,0] [(14, Sl a3 (((proofSaid p).1).length) c3), (17, I (IntKind.i64.wrap ((((((proofSaid p).1).length : Nat) : Int)) - 1)))] ?_
    have e1 : IntKind.i64.wrap ((((((proofSaid p).1).length : Nat) : Int)) - 1) = ((((proofSaid p).1).length - 1 : Nat) : Int) := (IntWalk.i64_in _ (by first | omega | (have q_ := proofSaid_len (p := p) (by assumption); omega))).trans (show (((((proofSaid p).1).length : Nat) : Int)) - 1 = ((((proofSaid p).1).length - 1 : Nat) : Int) by first | omega | (have q_ := proofSaid_len (p := p) (by assumption); omega))
    refine runL_put 17 (I (((((proofSaid p).1).length - 1 : Nat) : Int))) (congrArg I e1) ?_
    clear e1
    obtain ⟨b2, o1, rfl⟩ := RS.addr hs3 (k := ((proofSaid p).1).length - 1) (by first | omega | (have q_ := proofSaid_len (p := p) (by assumption); omega))
    obtain ⟨x1, hx1⟩ := getX (l := (proofSaid p).1) (k := ((proofSaid p).1).length - 1) (by first | omega | (have q_ := proofSaid_len (p := p) (by assumption); omega))
    obtain ⟨_, ⟨rfl, w2⟩, hc1⟩ := RS.get hs3 hx1
    refine runL_idx (b := b2) (off := o1) (len := ((proofSaid p).1).length) (cap := c3) (ik := .i64) 18 9 1 (((proofSaid p).1).length - 1) (by first | omega | (have q_ := proofSaid_len (p := p) (by assumption); omega)) ?_
    refine runL_ldG 19 9 (cs := [Sr x1]) 0 (Sr x1) hc1 ?_
    refine runL_callV 20 (U (markOf x1)) (markOf_con x1 (le48r' w2) G1) ?_
    refine runL_bn [0,0] [(2, U (markOf x1)), (3, I 0)] ?_
    refine runL_nil ?_
    refine tq_then ?_
    refine tc_ret ?_
    refine tq_ret [0, 0] [U (markOf x1), I 0] (bp_ret hl1 ?_)
    have hf_ : (proofRoot p) = ((markOf x1), 0) := by
      unfold proofRoot; first | (rw [if_pos (by assumption)]; done) | (rw [if_neg (by omega)]; have hl_ := lastT_get (a := (proofSaid p).1) rfl hx1; rw [← hl_]; done)
    (try rw [hf_]); first | with_reducible rfl | (simp only [packR]; done) | rfl

theorem proofHeld_con (G : Mem) (root : Int) (vs_p : List Value) (p : ProofD) (h_p : EProof.R G vs_p p)  : ConV 47 #[U root, .agg vs_p.toArray] G (I (proofHeld root p)) := by
  obtain ⟨a1, c1, a2, c2, rfl, w1, hs1, hs2⟩ := h_p
  refine con_of Tryz.func47 20 [(0, U root), (1, .agg #[Sr p.name, Sl a1 p.entries.length c1, Sl a2 p.sides.length c2])] rfl (fun w0 G0 => ?_)
  refine tc_seq ?_
  refine tc_region ?_
  refine runL_box 3 #[Sr p.name, Sl a1 p.entries.length c1, Sl a2 p.sides.length c2] 52 (fun b1 => ?_)
  refine runL_bn [0] [] ?_
  refine runL_nil ?_
  refine tq_then ?_
  refine tc_seq ?_
  refine tc_region ?_
  refine runL_bn [2] [(8, .agg #[Sr p.name, Sl a1 p.entries.length c1, Sl a2 p.sides.length c2])] ?_
  refine runL_callV 9 (.tuple #[U ((proofRoot p).1), I ((proofRoot p).2)]) (proofRoot_con G [Sr p.name, Sl a1 p.entries.length c1, Sl a2 p.sides.length c2] p (⟨a1, c1, a2, c2, rfl, w1, hs1, hs2⟩)) ?_
  refine runL_bn [0,0,0,0,0] [(5, U ((proofRoot p).1)), (6, I ((proofRoot p).2))] ?_
  refine runL_nil ?_
  refine tq_then ?_
  refine tc_seq ?_
  refine tc_seq ?_
  refine tc_region ?_
  refine runL_bn [0,0,0] [(14, Bo (decide ((proofRoot p).2 = 0)))] ?_
  refine runL_b2n (decide ((proofRoot p).2 = 0)) [14] [0,0,0,0] [1,1,1,0] (fun bb => [(18, Bo (bb && (!decide ((proofRoot p).1 = root))))]) ?_
  refine runL_nil ?_
  refine tq_then ?_
  refine tc_condP ((decide ((proofRoot p).2 = 0)) && (!decide ((proofRoot p).1 = root))) (fun h1 => ?_) (fun h1 => ?_)
  ·
    refine tc_region ?_
    refine runL_bn [0] [(6, I 8)] ?_
    refine runL_nil ?_
    refine tq_then ?_
    refine tc_rbn [0,0] [(4, I 8)] ?_
    refine tc_ret ?_
    refine tq_ret [0] [I 8] (bp_ret (Mem.le_refl _) (congrArg I (?_ : (proofHeld root p) = 8).symm))
    unfold proofHeld; first | (rw [if_pos (by simp_all)]; done) | (rw [if_neg (by simp_all)]; done) | (rw [if_neg (by simp_all)]; simp_all; done)
  ·
    refine tc_skip ?_
    refine tq_then ?_
    refine tc_rbn [0,0] [(4, I ((proofRoot p).2))] ?_
    refine tc_ret ?_
    refine tq_ret [0] [I ((proofRoot p).2)] (bp_ret (Mem.le_refl _) (congrArg I (?_ : (proofHeld root p) = ((proofRoot p).2)).symm))
    unfold proofHeld; first | (rw [if_pos (by simp_all)]; done) | (rw [if_neg (by simp_all)]; done) | (rw [if_neg (by simp_all)]; simp_all; done)

theorem proofTell_con (G : Mem) (root : Int) (vs_p : List Value) (p : ProofD) (h_p : EProof.R G vs_p p)  : ConP 24 #[U root, .agg vs_p.toArray] G [] (fun u G' L' => u = .tuple #[Sr ((proofTell root p).1), Bo ((proofTell root p).2.1), I ((proofTell root p).2.2)] ∧ (((proofTell root p).1).length ≤ 140737488351232) ∧ L' = []) := by
  obtain ⟨a1, c1, a2, c2, rfl, w1, hs1, hs2⟩ := h_p
  refine con_of Tryz.func24 22 [(0, U root), (1, .agg #[Sr p.name, Sl a1 p.entries.length c1, Sl a2 p.sides.length c2])] rfl (fun w0 G0 => ?_)
  refine tc_seq ?_
  refine tc_region ?_
  refine runL_box 3 #[Sr p.name, Sl a1 p.entries.length c1, Sl a2 p.sides.length c2] 52 (fun b1 => ?_)
  refine runL_bn [0,0,0] [] ?_
  refine runL_nil ?_
  refine tq_then ?_
  refine tc_seq ?_
  refine tc_seq ?_
  refine tc_region ?_
  refine runL_bn [0,2] [(8, U root), (9, .agg #[Sr p.name, Sl a1 p.entries.length c1, Sl a2 p.sides.length c2])] ?_
  refine runL_callV 10 (I (proofHeld root p)) (proofHeld_con G root [Sr p.name, Sl a1 p.entries.length c1, Sl a2 p.sides.length c2] p (⟨a1, c1, a2, c2, rfl, w1, hs1, hs2⟩)) ?_
  refine runL_bn [0] [(7, I (proofHeld root p))] ?_
  refine runL_nil ?_
  refine tq_then ?_
  refine tc_rbn [0,0] [(12, Bo (!decide (proofHeld root p = 0)))] ?_
  refine tc_condP (!decide (proofHeld root p = 0)) (fun h1 => ?_) (fun h1 => ?_)
  ·
    refine tc_rbn [0,0,0,0] [(4, Sr ([])), (5, Bo false), (6, I (proofHeld root p))] ?_
    refine tc_ret ?_
    refine tq_then_ret ?_
    have hf1 : proofTell root p = ([], false, proofHeld root p) := by
      unfold proofTell; first | (rw [if_pos (by assumption)]; done) | (rw [if_neg (by simp_all)]; done)
    refine tq_ret [0, 0, 0] [Sr ([]), Bo false, I (proofHeld root p)] (bp_rowsA [] (Mem.le_refl _) ?_)
    rw [hf1]
    try dsimp only
    exact ⟨rfl, (Nat.le_of_ble_eq_true rfl), rfl⟩
  ·
    refine tc_skip ?_
    refine tq_then ?_
    refine tc_seq ?_
    refine tc_region ?_
    refine runL_bn [0,2,0,2] [(15, Sl a1 p.entries.length c1), (17, Sr p.name)] ?_
    refine runL_callR 18 (treeGet_con G a1 c1 p.entries hs1 p.name w1) (fun v G1 L1 hl1 hp => ?_)
    obtain ⟨rfl, w2, rfl⟩ := hp
    refine runL_bn [0,0,0,0,0,0] [(4, Sr ((treeGet p.entries p.name).1)), (5, Bo ((treeGet p.entries p.name).2.1)), (6, I ((treeGet p.entries p.name).2.2))] ?_
    refine runL_nil ?_
    refine tq_then ?_
    refine tc_ret ?_
    have hf2 : proofTell root p = ((treeGet p.entries p.name).1, (treeGet p.entries p.name).2.1, (treeGet p.entries p.name).2.2) := by
      unfold proofTell; first | (rw [if_pos (by assumption)]; done) | (rw [if_neg (by simp_all)]; done)
    refine tq_ret [0, 0, 0] [Sr ((treeGet p.entries p.name).1), Bo ((treeGet p.entries p.name).2.1), I ((treeGet p.entries p.name).2.2)] (bp_rowsA [] hl1 ?_)
    rw [hf2]
    try dsimp only
    exact ⟨rfl, w2, rfl⟩

theorem serveTell_con (G : Mem) (vs_r : List Value) (r : ReplyD) (h_r : EReply.R G vs_r r)  : ConP 16 #[.agg vs_r.toArray] G [] (fun u G' L' => u = .tuple #[Sr ((serveTell r).1), Bo ((serveTell r).2.1), I ((serveTell r).2.2)] ∧ (((serveTell r).1).length ≤ 140737488351232) ∧ L' = []) := by
  obtain ⟨a1, c1, a2, c2, rfl, w1, w2, w3, w4, w5, hs1, hs2⟩ := h_r
  refine con_of Tryz.func16 21 [(0, .agg #[I r.head.epoch, U r.head.root, U r.head.prev, I r.head.at_, Sr r.proof.name, Sl a1 r.proof.entries.length c1, Sl a2 r.proof.sides.length c2])] rfl (fun w0 G0 => ?_)
  refine tc_seq ?_
  refine tc_region ?_
  refine runL_box 1 #[I r.head.epoch, U r.head.root, U r.head.prev, I r.head.at_, Sr r.proof.name, Sl a1 r.proof.entries.length c1, Sl a2 r.proof.sides.length c2] 54 (fun b1 => ?_)
  refine runL_bn [0,0,0] [] ?_
  refine runL_nil ?_
  refine tq_then ?_
  refine tc_seq ?_
  refine tc_seq ?_
  refine tc_region ?_
  refine runL_bn [0,2] [(7, .agg #[I r.head.epoch, U r.head.root, U r.head.prev, I r.head.at_])] ?_
  refine runL_callV 8 (I (headCheck r.head)) (headCheck_con r.head G) ?_
  refine runL_bn [0] [(5, I (headCheck r.head))] ?_
  refine runL_nil ?_
  refine tq_then ?_
  refine tc_rbn [0,0] [(10, Bo (!decide (headCheck r.head = 0)))] ?_
  refine tc_condP (!decide (headCheck r.head = 0)) (fun h1 => ?_) (fun h1 => ?_)
  ·
    refine tc_rbn [0,0,0,0] [(2, Sr ([])), (3, Bo false), (4, I (headCheck r.head))] ?_
    refine tc_ret ?_
    refine tq_then_ret ?_
    have hf1 : serveTell r = ([], false, headCheck r.head) := by
      unfold serveTell; first | (rw [if_pos (by assumption)]; done) | (rw [if_neg (by simp_all)]; done)
    refine tq_ret [0, 0, 0] [Sr ([]), Bo false, I (headCheck r.head)] (bp_rowsA [] (Mem.le_refl _) ?_)
    rw [hf1]
    try dsimp only
    exact ⟨rfl, (Nat.le_of_ble_eq_true rfl), rfl⟩
  ·
    refine tc_skip ?_
    refine tq_then ?_
    refine tc_seq ?_
    refine tc_region ?_
    refine runL_bn [0,0,2,0,2] [(14, U r.head.root), (16, .agg #[Sr r.proof.name, Sl a1 r.proof.entries.length c1, Sl a2 r.proof.sides.length c2])] ?_
    refine runL_callR 17 (proofTell_con G r.head.root [Sr r.proof.name, Sl a1 r.proof.entries.length c1, Sl a2 r.proof.sides.length c2] r.proof (⟨a1, c1, a2, c2, rfl, w5, hs1, hs2⟩)) (fun v G1 L1 hl1 hp => ?_)
    obtain ⟨rfl, w6, rfl⟩ := hp
    refine runL_bn [0,0,0,0,0,0] [(2, Sr ((proofTell r.head.root r.proof).1)), (3, Bo ((proofTell r.head.root r.proof).2.1)), (4, I ((proofTell r.head.root r.proof).2.2))] ?_
    refine runL_nil ?_
    refine tq_then ?_
    refine tc_ret ?_
    have hf2 : serveTell r = ((proofTell r.head.root r.proof).1, (proofTell r.head.root r.proof).2.1, (proofTell r.head.root r.proof).2.2) := by
      unfold serveTell; first | (rw [if_pos (by assumption)]; done) | (rw [if_neg (by simp_all)]; done)
    refine tq_ret [0, 0, 0] [Sr ((proofTell r.head.root r.proof).1), Bo ((proofTell r.head.root r.proof).2.1), I ((proofTell r.head.root r.proof).2.2)] (bp_rowsA [] hl1 ?_)
    rw [hf2]
    try dsimp only
    exact ⟨rfl, w6, rfl⟩
end Go.Proofs.YtngoijkcbmchdaaGreatDoor
