/- The law ProofOwn is proved: for every input the call returns true and each argument reads afterwards as before. Conditions: those of the given row, among them the two listed tables of package utf8, tied by the given tie (the code that is walked does not read them). -/
import Derived.Test.YtmpakffajpnffaaDoorCards
import Derived.Test.YtmpakffajpnffaaDoorTie
import Derived.Lay
import Derived.LaidMore
import Derived.SevenTiedAt
import Derived.Handed
import Derived.Stop.Joined
import Derived.Test.YtmpakffajpnffaaDoorZProve
set_option linter.unusedVariables false
set_option linter.unusedSimpArgs false
namespace Go.Proofs.YtmpakffajpnffaaDoor
open Go.Tx
theorem lawProofOwn_con (G : Mem) (args : Array Value) (n : Nat) (h : RdA Tryd.prog G Tryd.f3.params.toList args.toList n) : Con Tryd.prog 3 args G [] (fun u _ _ => u = Bo true) := by
  rw [show Tryd.f3.params.toList = [22, 26, 9] from rfl] at h
  obtain ⟨v0, vs0, m0, r0, e0, hm0, h0, h⟩ := h
  obtain ⟨v1, vs1, m1, r1, e1, hm1, h1, h⟩ := h
  obtain ⟨v2, vs2, m2, r2, e2, hm2, h2, h⟩ := h
  have h : vs2 = [] := h
  subst h
  subst e2
  subst e1
  obtain rfl : args = #[v0, v1, v2] := by cases args; simp_all
  obtain ⟨x0, rfl, w0⟩ := h0.one (.int .u64) (by kernel_rfl) (by kernel_rfl)
  obtain ⟨cs1, rfl, k1⟩ := h1.agg [.str, .sl 23, .sl 24] (by kernel_rfl) (by kernel_rfl)
  obtain ⟨x1, hx1, _⟩ := o_EProof k1
  obtain ⟨x2, rfl, w2, u2⟩ := h2.one .str (by kernel_rfl) (by kernel_rfl)
  exact proofOwn_con G x0 (wf_u64 w0) cs1 x1 hx1 x2 w2
end Go.Proofs.YtmpakffajpnffaaDoor
namespace Go.Proofs.YtmpakffajpnffaaDoor.lawProofOwn
open Go.Tx Go.ChangeShapes Go.WideShapes Go.ChangeAt Go.RowKit Go.Proofs.YtmpakffajpnffaaDoor

theorem shape {H : Type} : ∀ ds : List (DataW H), ds.length = Tryd.f3.params.toList.length → Rows.proofOwnSpec.fn H ds = { results := [.lit (.bool true)], args := ds }
  | [d0, d1, d2], _ => rfl
  | [], h => by simp [Tryd.f3] at h
  | [_], h => by simp [Tryd.f3] at h
  | [_, _], h => by simp [Tryd.f3] at h
  | _ :: _ :: _ :: _ :: _, h => by simp [Tryd.f3] at h

set_option maxRecDepth 100000 in
theorem contract (H : Type) (enc : TypeId × Value → H) (W : World) (base : Nat) (args : Array Value) (ds gs : List (DataW H)) (before : List MemPlace)
    (hval : ∀ (j : Nat) t v, Tryd.f3.params[j]? = some t → args[j]? = some v → Value.okWide Tryd.prog W .any base t v)
    (hW : DataW.Whole enc Tryd.prog Tryd.f3.params.toList Rows.proofOwnSpec.vars false W args.toList ds gs before)
    (hsz : (DataW.weightsEach Tryd.prog (Tryd.f3.params.toList ++ Rows.proofOwnSpec.plain.varTypes Tryd.prog) (ds ++ gs)).all (· ≤ reachBytes) = true) :
    Calls Tryd.prog 3 args W fun e W' => ∃ v, e = .returned v ∧ Rows.proofOwnSpec.post enc Tryd.prog Tryd.f3 false true false false W args v W' :=
  law_contract (t := 4) (Rows.uptoBulkAll (ds ++ gs)) laidOut (by kernel_rfl) rfl shape (by kernel_rfl) (by kernel_rfl) (fun G args n hn h => lawProofOwn_con G args n h) W base args ds gs before hval hW (Nat.le_refl _) hsz

set_option maxRecDepth 100000 in
theorem lifted (os : Os) (started : os.Started) (H : Type) (enc : TypeId × Value → H) :
    ReturnsInHanded {} Tryd.checked os 3 .any (fun w args => (Rows.proofOwnSpec.pre enc Tryd.prog Tryd.f3 Rows.proofOwnRow.domain false w args ∧ laidMetH Tryd.prog Rows.proofOwnRow.laid w) ∧ sizedMet enc Tryd.prog Tryd.f3 (OpenSpec.ofChange Rows.proofOwnSpec) false w args)
      (Rows.proofOwnSpec.post enc Tryd.prog Tryd.f3 false true false false) := by
  refine returnsInHanded_of_change_and (C := Tryd.checked) (X := fun w _ => laidMetH Tryd.prog Rows.proofOwnRow.laid w) (fun _ _ _ hh h => h.of_heap hh) own started (by kernel_rfl) Tryd.func3
    (ChangeSpec.witness_shaped (enc := enc) (C := Tryd.checked) (os := os) (X := fun w _ => laidMetH Tryd.prog Rows.proofOwnRow.laid w) false (World.laidAll Tryd.prog os Rows.proofOwnRow.laid) #[.int .u64 0, .agg #[.string ⟨#[]⟩, .slice none 0 0, .slice none 0 0], .string ⟨#[]⟩] 8 (World.laidAll_os _ _ _)
      (World.shaped_of_ZipB (by kernel_rfl) (by kernel_rfl)) (by kernel_rfl) (by kernel_rfl) (by kernel_rfl)
      (by rw [MakeChecks.laidMetH_plain _ _ _ (by kernel_rfl)]; exact laidMet_laidAll _ (by kernel_rfl) (by kernel_rfl))) ?_
  intro W base args ds gs before hval hW _ hsz _ _
  exact contract H enc W base args ds gs before hval hW hsz

theorem said : Rows.ProofOwnSaid :=
  OpenClaim.holds_of_wide 3 Tryd.f3 rfl rfl rfl rfl rfl rfl rfl ⟨rfl, rfl, rfl, rfl, rfl⟩ rfl rfl rfl rfl rfl (by kernel_rfl) Tryd.func3 (by kernel_rfl)
    (of_decide_eq_true (by kernel_rfl)) (by unfold Func.isWrapper; first | (rw [if_pos (by decide +kernel)]; kernel_rfl) | (rw [if_neg (by decide +kernel)]; exact ⟨rfl, rfl⟩))
    (fun os started H enc _ => lifted os started H enc)

theorem proved : Rows.ProofOwnCardSaid :=
  Claim7.holds_tied_plain_at .later [] [.data, .pinned] true (true, "be85d3c8c7ce7140b1094d54e8db62a83245a076698cec803f7a0eb90108a9c2") false said (fun _ h => by cases h) (by kernel_rfl) (fun _ h => by cases h) proofOwn_row_tie rfl ⟨rfl, rfl⟩ (by kernel_rfl) rfl
    (fun f fn hf hfn => by
      obtain rfl : f = 3 := Option.some.inj ((show Tryd.prog.funcNamed "tallyroll/tallyrollkeep.ProofOwn" = some 3 by kernel_rfl).symm.trans hf) |>.symm
      obtain rfl : fn = Tryd.f3 := (Option.some.inj (Tryd.func3.symm.trans hfn)).symm
      exact ⟨by kernel_rfl, fun j t ht => by
        rw [show Tryd.f3.params = #[22, 26, 9] from rfl] at ht
        have hm : t ∈ [22, 26, 9] := by simpa using Array.mem_of_getElem? ht
        have hall : ([22, 26, 9].all fun u => !Tryd.prog.wantsStandIn u) = true := by kernel_rfl
        exact (show Tryd.prog.wantsStandIn t = false by simpa using List.all_eq_true.1 hall t hm)⟩)
    (by kernel_rfl)
end Go.Proofs.YtmpakffajpnffaaDoor.lawProofOwn
