/- The law ProofBinds is proved: for every input the call returns true and each argument reads afterwards as before. Conditions: those of the given row, among them the two listed tables of package utf8, tied by the given tie (the code that is walked does not read them). -/
import Derived.Test.YtjcbbpohbfjkkaaDoorCards
import Derived.Test.YtjcbbpohbfjkkaaDoorTie
import Derived.Lay
import Derived.LaidMore
import Derived.SevenTiedAt
import Derived.Handed
import Derived.Stop.Joined
import Derived.Test.YtjcbbpohbfjkkaaDoorProve
set_option linter.unusedVariables false
set_option linter.unusedSimpArgs false
namespace Go.Proofs.YtjcbbpohbfjkkaaDoor
open Go.Tx
theorem lawProofBinds_con (G : Mem) (args : Array Value) (n : Nat) (h : RdA Tryd.prog G Tryd.f6.params.toList args.toList n) : Con Tryd.prog 6 args G [] (fun u _ _ => u = Bo true) := by
  rw [show Tryd.f6.params.toList = [31, 35, 35] from rfl] at h
  obtain ⟨v0, vs0, m0, r0, e0, hm0, h0, h⟩ := h
  obtain ⟨v1, vs1, m1, r1, e1, hm1, h1, h⟩ := h
  obtain ⟨v2, vs2, m2, r2, e2, hm2, h2, h⟩ := h
  have h : vs2 = [] := h
  subst h
  subst e2
  subst e1
  obtain rfl : args = #[v0, v1, v2] := by cases args; simp_all
  obtain ⟨x0, rfl, w0⟩ := h0.one (.int .u64) (by kernel_rfl) (by kernel_rfl)
  obtain ⟨cs1, rfl, k1⟩ := h1.agg [.str, .sl 32, .sl 33] (by kernel_rfl) (by kernel_rfl)
  obtain ⟨x1, hx1, _⟩ := o_EProof k1
  obtain ⟨cs2, rfl, k2⟩ := h2.agg [.str, .sl 32, .sl 33] (by kernel_rfl) (by kernel_rfl)
  obtain ⟨x2, hx2, _⟩ := o_EProof k2
  exact proofBinds_con G x0 (wf_u64 w0) cs1 x1 hx1 cs2 x2 hx2
end Go.Proofs.YtjcbbpohbfjkkaaDoor
namespace Go.Proofs.YtjcbbpohbfjkkaaDoor.lawProofBinds
open Go.Tx Go.ChangeShapes Go.WideShapes Go.ChangeAt Go.RowKit Go.Proofs.YtjcbbpohbfjkkaaDoor

theorem shape {H : Type} : ∀ ds : List (DataW H), ds.length = Tryd.f6.params.toList.length → Rows.proofBindsSpec.fn H ds = { results := [.lit (.bool true)], args := ds }
  | [d0, d1, d2], _ => rfl
  | [], h => by simp [Tryd.f6] at h
  | [_], h => by simp [Tryd.f6] at h
  | [_, _], h => by simp [Tryd.f6] at h
  | _ :: _ :: _ :: _ :: _, h => by simp [Tryd.f6] at h

set_option maxRecDepth 100000 in
theorem contract (H : Type) (enc : TypeId × Value → H) (W : World) (base : Nat) (args : Array Value) (ds gs : List (DataW H)) (before : List MemPlace)
    (hval : ∀ (j : Nat) t v, Tryd.f6.params[j]? = some t → args[j]? = some v → Value.okWide Tryd.prog W .any base t v)
    (hW : DataW.Whole enc Tryd.prog Tryd.f6.params.toList Rows.proofBindsSpec.vars false W args.toList ds gs before)
    (hsz : (DataW.weightsEach Tryd.prog (Tryd.f6.params.toList ++ Rows.proofBindsSpec.plain.varTypes Tryd.prog) (ds ++ gs)).all (· ≤ reachBytes) = true) :
    Calls Tryd.prog 6 args W fun e W' => ∃ v, e = .returned v ∧ Rows.proofBindsSpec.post enc Tryd.prog Tryd.f6 false true false false W args v W' :=
  law_contract (t := 4) (Rows.uptoBulkAll (ds ++ gs)) laidOut (by kernel_rfl) rfl shape (by kernel_rfl) (by kernel_rfl) (fun G args n hn h => lawProofBinds_con G args n h) W base args ds gs before hval hW (Nat.le_refl _) hsz

set_option maxRecDepth 100000 in
theorem lifted (os : Os) (started : os.Started) (H : Type) (enc : TypeId × Value → H) :
    ReturnsInHanded {} Tryd.checked os 6 .any (fun w args => (Rows.proofBindsSpec.pre enc Tryd.prog Tryd.f6 Rows.proofBindsRow.domain false w args ∧ laidMetH Tryd.prog Rows.proofBindsRow.laid w) ∧ sizedMet enc Tryd.prog Tryd.f6 (OpenSpec.ofChange Rows.proofBindsSpec) false w args)
      (Rows.proofBindsSpec.post enc Tryd.prog Tryd.f6 false true false false) := by
  refine returnsInHanded_of_change_and (C := Tryd.checked) (X := fun w _ => laidMetH Tryd.prog Rows.proofBindsRow.laid w) (fun _ _ _ hh h => h.of_heap hh) own started (by kernel_rfl) Tryd.func6
    (ChangeSpec.witness_shaped (enc := enc) (C := Tryd.checked) (os := os) (X := fun w _ => laidMetH Tryd.prog Rows.proofBindsRow.laid w) false (World.laidAll Tryd.prog os Rows.proofBindsRow.laid) #[.int .u64 0, .agg #[.string ⟨#[]⟩, .slice none 0 0, .slice none 0 0], .agg #[.string ⟨#[]⟩, .slice none 0 0, .slice none 0 0]] 8 (World.laidAll_os _ _ _)
      (World.shaped_of_ZipB (by kernel_rfl) (by kernel_rfl)) (by kernel_rfl) (by kernel_rfl) (by kernel_rfl)
      (by rw [MakeChecks.laidMetH_plain _ _ _ (by kernel_rfl)]; exact laidMet_laidAll _ (by kernel_rfl) (by kernel_rfl))) ?_
  intro W base args ds gs before hval hW _ hsz _ _
  exact contract H enc W base args ds gs before hval hW hsz

theorem said : Rows.ProofBindsSaid :=
  OpenClaim.holds_of_wide 6 Tryd.f6 rfl rfl rfl rfl rfl rfl rfl ⟨rfl, rfl, rfl, rfl, rfl⟩ rfl rfl rfl rfl rfl (by kernel_rfl) Tryd.func6 (by kernel_rfl)
    (of_decide_eq_true (by kernel_rfl)) (by unfold Func.isWrapper; first | (rw [if_pos (by decide +kernel)]; kernel_rfl) | (rw [if_neg (by decide +kernel)]; exact ⟨rfl, rfl⟩))
    (fun os started H enc _ => lifted os started H enc)

theorem proved : Rows.ProofBindsCardSaid :=
  Claim7.holds_tied_plain_at .later [] [.data, .pinned] true (true, "7283574e88b4f45c81e9d097349a5e74dce4293290079ac1c3f4e28d6ecb1bbc") false said (fun _ h => by cases h) (by kernel_rfl) (fun _ h => by cases h) proofBinds_row_tie rfl ⟨rfl, rfl⟩ (by kernel_rfl) rfl
    (fun f fn hf hfn => by
      obtain rfl : f = 6 := Option.some.inj ((show Tryd.prog.funcNamed "tallyroll/tallyrollkeep.ProofBinds" = some 6 by kernel_rfl).symm.trans hf) |>.symm
      obtain rfl : fn = Tryd.f6 := (Option.some.inj (Tryd.func6.symm.trans hfn)).symm
      exact ⟨by kernel_rfl, fun j t ht => by
        rw [show Tryd.f6.params = #[31, 35, 35] from rfl] at ht
        have hm : t ∈ [31, 35, 35] := by simpa using Array.mem_of_getElem? ht
        have hall : ([31, 35, 35].all fun u => !Tryd.prog.wantsStandIn u) = true := by kernel_rfl
        exact (show Tryd.prog.wantsStandIn t = false by simpa using List.all_eq_true.1 hall t hm)⟩)
    (by kernel_rfl)
end Go.Proofs.YtjcbbpohbfjkkaaDoor.lawProofBinds
