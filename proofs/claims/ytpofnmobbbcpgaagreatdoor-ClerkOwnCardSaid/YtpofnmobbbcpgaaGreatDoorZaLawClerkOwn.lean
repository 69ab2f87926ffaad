/- The law ClerkOwn is proved: for every input the call returns true and each argument reads afterwards as before. Conditions: those of the given row, among them the two listed tables of package utf8, tied by the given tie (the code that is walked does not read them). -/
import Derived.Test.YtpofnmobbbcpgaaGreatDoorCards
import Derived.Test.YtpofnmobbbcpgaaGreatDoorTie
import Derived.Lay
import Derived.LaidMore
import Derived.SevenTiedAt
import Derived.Handed
import Derived.Stop.Joined
import Derived.Test.YtpofnmobbbcpgaaGreatDoorZaClerkOwn
set_option linter.unusedVariables false
set_option linter.unusedSimpArgs false
namespace Go.Proofs.YtpofnmobbbcpgaaGreatDoor
open Go.Tx Go.RowKit
theorem lawClerkOwn_con (G : Mem) (args : Array Value) (n : Nat) (h : RdA Tryz.prog G Tryz.f4.params.toList args.toList n) : Con Tryz.prog 4 args G [] (fun u _ _ => u = Bo true) := by
  rw [show Tryz.f4.params.toList = [45, 47, 2] from rfl] at h
  obtain ⟨v0, vs0, m0, r0, e0, hm0, h0, h⟩ := h
  obtain ⟨v1, vs1, m1, r1, e1, hm1, h1, h⟩ := h
  obtain ⟨v2, vs2, m2, r2, e2, hm2, h2, h⟩ := h
  have h : vs2 = [] := h
  subst h
  subst e2
  subst e1
  obtain rfl : args = #[v0, v1, v2] := by cases args; simp_all
  obtain ⟨cs0, rfl, k0⟩ := h0.agg [.int .i64, .sl 39, .int .i64, .int .i64, .int .i64, .sl 42, .sl 43] (by kernel_rfl) (by kernel_rfl)
  obtain ⟨x0, hx0, hfb0⟩ := o_EClerkF k0
  obtain ⟨cs1, rfl, k1⟩ := h1.agg [.str, .str, .int .u64, .int .u64] (by kernel_rfl) (by kernel_rfl)
  obtain ⟨x1, hx1, _⟩ := o_EAsk k1
  obtain ⟨x2, rfl, w2⟩ := h2.one (.int .i64) (by kernel_rfl) (by kernel_rfl)
  exact clerkOwn_con G cs0 x0 hx0 cs1 x1 hx1 x2 (wf_i64 w2) hfb0
end Go.Proofs.YtpofnmobbbcpgaaGreatDoor
namespace Go.Proofs.YtpofnmobbbcpgaaGreatDoor.lawClerkOwn
open Go.Tx Go.ChangeShapes Go.WideShapes Go.ChangeAt Go.RowKit Go.Proofs.YtpofnmobbbcpgaaGreatDoor
theorem shape {H : Type} : ∀ ds : List (DataW H), ds.length = Tryz.f4.params.toList.length → Rows.clerkOwnSpec.fn H ds = { results := [.lit (.bool true)], args := ds }
  | [d0, d1, d2], _ => rfl
  | [], h => by simp [Tryz.f4] at h
  | [_], h => by simp [Tryz.f4] at h
  | [_, _], h => by simp [Tryz.f4] at h
  | _ :: _ :: _ :: _ :: _, h => by simp [Tryz.f4] at h
set_option maxRecDepth 100000 in
theorem contract (H : Type) (enc : TypeId × Value → H) (W : World) (base : Nat) (args : Array Value) (ds gs : List (DataW H)) (before : List MemPlace)
    (hval : ∀ (j : Nat) t v, Tryz.f4.params[j]? = some t → args[j]? = some v → Value.okWide Tryz.prog W .any base t v)
    (hW : DataW.Whole enc Tryz.prog Tryz.f4.params.toList Rows.clerkOwnSpec.vars false W args.toList ds gs before)
    (hsz : (DataW.weightsEach Tryz.prog (Tryz.f4.params.toList ++ Rows.clerkOwnSpec.plain.varTypes Tryz.prog) (ds ++ gs)).all (· ≤ reachBytes) = true) :
    Calls Tryz.prog 4 args W fun e W' => ∃ v, e = .returned v ∧ Rows.clerkOwnSpec.post enc Tryz.prog Tryz.f4 false true false false W args v W' :=
  law_contract (t := 4) (Rows.uptoBulkAll (ds ++ gs)) laidOut (by kernel_rfl) rfl shape (by kernel_rfl) (by kernel_rfl) (fun G args n hn h => lawClerkOwn_con G args n h) W base args ds gs before hval hW (Nat.le_refl _) hsz
set_option maxRecDepth 100000 in
theorem lifted (os : Os) (started : os.Started) (H : Type) (enc : TypeId × Value → H) :
    ReturnsInHanded {} Tryz.checked os 4 .any (fun w args => (Rows.clerkOwnSpec.pre enc Tryz.prog Tryz.f4 Rows.clerkOwnRow.domain false w args ∧ laidMetH Tryz.prog Rows.clerkOwnRow.laid w) ∧ sizedMet enc Tryz.prog Tryz.f4 (OpenSpec.ofChange Rows.clerkOwnSpec) false w args)
      (Rows.clerkOwnSpec.post enc Tryz.prog Tryz.f4 false true false false) := by
  refine returnsInHanded_of_change_and (C := Tryz.checked) (X := fun w _ => laidMetH Tryz.prog Rows.clerkOwnRow.laid w) (fun _ _ _ hh h => h.of_heap hh) own started (by kernel_rfl) Tryz.func4
    (ChangeSpec.witness_shaped (enc := enc) (C := Tryz.checked) (os := os) (X := fun w _ => laidMetH Tryz.prog Rows.clerkOwnRow.laid w) false (World.laidAll Tryz.prog os Rows.clerkOwnRow.laid) #[.agg #[.int .i64 0, .slice none 0 0, .int .i64 0, .int .i64 0, .int .i64 0, .slice none 0 0, .slice none 0 0], .agg #[.string ⟨#[]⟩, .string ⟨#[]⟩, .int .u64 0, .int .u64 0], .int .i64 0] 8 (World.laidAll_os _ _ _)
      (World.shaped_of_ZipB (by kernel_rfl) (by kernel_rfl)) (by kernel_rfl) (by kernel_rfl) (by kernel_rfl)
      (by rw [MakeChecks.laidMetH_plain _ _ _ (by kernel_rfl)]; exact laidMet_laidAll _ (by kernel_rfl) (by kernel_rfl))) ?_
  intro W base args ds gs before hval hW _ hsz _ _
  exact contract H enc W base args ds gs before hval hW hsz
theorem said : Rows.ClerkOwnSaid :=
  OpenClaim.holds_of_wide 4 Tryz.f4 rfl rfl rfl rfl rfl rfl rfl ⟨rfl, rfl, rfl, rfl, rfl⟩ rfl rfl rfl rfl rfl (by kernel_rfl) Tryz.func4 (by kernel_rfl)
    (of_decide_eq_true (by kernel_rfl)) (by unfold Func.isWrapper; first | (rw [if_pos (by decide +kernel)]; kernel_rfl) | (rw [if_neg (by decide +kernel)]; exact ⟨rfl, rfl⟩))
    (fun os started H enc _ => lifted os started H enc)
theorem proved : Rows.ClerkOwnCardSaid :=
  Claim7.holds_tied_plain_at .later [] [.data, .pinned] true (true, "a3661ed1362275627ff62bbf13867fb71c55891f8a4b8ff8fbe42db0e4be5ca0") false said (fun _ h => by cases h) (by kernel_rfl) (fun _ h => by cases h) clerkOwn_row_tie rfl ⟨rfl, rfl⟩ (by kernel_rfl) rfl
    (fun f fn hf hfn => by
      obtain rfl : f = 4 := Option.some.inj ((show Tryz.prog.funcNamed "tallyroll/tallyrollkeep.ClerkOwn" = some 4 by kernel_rfl).symm.trans hf) |>.symm
      obtain rfl : fn = Tryz.f4 := (Option.some.inj (Tryz.func4.symm.trans hfn)).symm
      exact ⟨by kernel_rfl, fun j t ht => by
        rw [show Tryz.f4.params = #[45, 47, 2] from rfl] at ht
        have hm : t ∈ [45, 47, 2] := by simpa using Array.mem_of_getElem? ht
        have hall : ([45, 47, 2].all fun u => !Tryz.prog.wantsStandIn u) = true := by kernel_rfl
        exact (show Tryz.prog.wantsStandIn t = false by simpa using List.all_eq_true.1 hall t hm)⟩)
    (by kernel_rfl)
end Go.Proofs.YtpofnmobbbcpgaaGreatDoor.lawClerkOwn
