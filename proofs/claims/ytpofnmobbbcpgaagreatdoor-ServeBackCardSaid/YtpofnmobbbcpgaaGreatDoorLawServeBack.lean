/- The law ServeBack is proved: for every input the call returns true and each argument reads afterwards as before. Conditions: those of the given row, among them the two listed tables of package utf8, tied by the given tie (the code that is walked does not read them). -/
import Derived.Test.YtpofnmobbbcpgaaGreatDoorCards
import Derived.Test.YtpofnmobbbcpgaaGreatDoorTie
import Derived.Lay
import Derived.LaidMore
import Derived.SevenTiedAt
import Derived.Handed
import Derived.Stop.Joined
import Derived.Test.YtpofnmobbbcpgaaGreatDoorServeB
set_option linter.unusedVariables false
set_option linter.unusedSimpArgs false
namespace Go.Proofs.YtpofnmobbbcpgaaGreatDoor
open Go.Tx Go.RowKit
theorem lawServeBack_con (G : Mem) (args : Array Value) (n : Nat) (h : RdA Tryz.prog G Tryz.f3.params.toList args.toList n) : Con Tryz.prog 3 args G [] (fun u _ _ => u = Bo true) := by
  rw [show Tryz.f3.params.toList = [30, 9] from rfl] at h
  obtain ⟨v0, vs0, m0, r0, e0, hm0, h0, h⟩ := h
  obtain ⟨v1, vs1, m1, r1, e1, hm1, h1, h⟩ := h
  have h : vs1 = [] := h
  subst h
  subst e1
  obtain rfl : args = #[v0, v1] := by cases args; simp_all
  obtain ⟨cs0, rfl, k0⟩ := h0.agg [.int .i64, .int .u64, .int .u64, .int .i64, .str, .sl 25, .sl 26] (by kernel_rfl) (by kernel_rfl)
  obtain ⟨x0, hx0, _⟩ := o_EReply k0
  obtain ⟨x1, rfl, w1, u1⟩ := h1.one .str (by kernel_rfl) (by kernel_rfl)
  exact serveBack_con G cs0 x0 hx0 x1 w1
end Go.Proofs.YtpofnmobbbcpgaaGreatDoor
namespace Go.Proofs.YtpofnmobbbcpgaaGreatDoor.lawServeBack
open Go.Tx Go.ChangeShapes Go.WideShapes Go.ChangeAt Go.RowKit Go.Proofs.YtpofnmobbbcpgaaGreatDoor

theorem shape {H : Type} : ∀ ds : List (DataW H), ds.length = Tryz.f3.params.toList.length → Rows.serveBackSpec.fn H ds = { results := [.lit (.bool true)], args := ds }
  | [d0, d1], _ => rfl
  | [], h => by simp [Tryz.f3] at h
  | [_], h => by simp [Tryz.f3] at h
  | _ :: _ :: _ :: _, h => by simp [Tryz.f3] at h

set_option maxRecDepth 100000 in
theorem contract (H : Type) (enc : TypeId × Value → H) (W : World) (base : Nat) (args : Array Value) (ds gs : List (DataW H)) (before : List MemPlace)
    (hval : ∀ (j : Nat) t v, Tryz.f3.params[j]? = some t → args[j]? = some v → Value.okWide Tryz.prog W .any base t v)
    (hW : DataW.Whole enc Tryz.prog Tryz.f3.params.toList Rows.serveBackSpec.vars false W args.toList ds gs before)
    (hsz : (DataW.weightsEach Tryz.prog (Tryz.f3.params.toList ++ Rows.serveBackSpec.plain.varTypes Tryz.prog) (ds ++ gs)).all (· ≤ reachBytes) = true) :
    Calls Tryz.prog 3 args W fun e W' => ∃ v, e = .returned v ∧ Rows.serveBackSpec.post enc Tryz.prog Tryz.f3 false true false false W args v W' :=
  law_contract (t := 4) (Rows.uptoBulkAll (ds ++ gs)) laidOut (by kernel_rfl) rfl shape (by kernel_rfl) (by kernel_rfl) (fun G args n hn h => lawServeBack_con G args n h) W base args ds gs before hval hW (Nat.le_refl _) hsz

set_option maxRecDepth 100000 in
theorem lifted (os : Os) (started : os.Started) (H : Type) (enc : TypeId × Value → H) :
    ReturnsInHanded {} Tryz.checked os 3 .any (fun w args => (Rows.serveBackSpec.pre enc Tryz.prog Tryz.f3 Rows.serveBackRow.domain false w args ∧ laidMetH Tryz.prog Rows.serveBackRow.laid w) ∧ sizedMet enc Tryz.prog Tryz.f3 (OpenSpec.ofChange Rows.serveBackSpec) false w args)
      (Rows.serveBackSpec.post enc Tryz.prog Tryz.f3 false true false false) := by
  refine returnsInHanded_of_change_and (C := Tryz.checked) (X := fun w _ => laidMetH Tryz.prog Rows.serveBackRow.laid w) (fun _ _ _ hh h => h.of_heap hh) own started (by kernel_rfl) Tryz.func3
    (ChangeSpec.witness_shaped (enc := enc) (C := Tryz.checked) (os := os) (X := fun w _ => laidMetH Tryz.prog Rows.serveBackRow.laid w) false (World.laidAll Tryz.prog os Rows.serveBackRow.laid) #[.agg #[.int .i64 0, .int .u64 0, .int .u64 0, .int .i64 0, .string ⟨#[]⟩, .slice none 0 0, .slice none 0 0], .string ⟨#[]⟩] 8 (World.laidAll_os _ _ _)
      (World.shaped_of_ZipB (by kernel_rfl) (by kernel_rfl)) (by kernel_rfl) (by kernel_rfl) (by kernel_rfl)
      (by rw [MakeChecks.laidMetH_plain _ _ _ (by kernel_rfl)]; exact laidMet_laidAll _ (by kernel_rfl) (by kernel_rfl))) ?_
  intro W base args ds gs before hval hW _ hsz _ _
  exact contract H enc W base args ds gs before hval hW hsz

theorem said : Rows.ServeBackSaid :=
  OpenClaim.holds_of_wide 3 Tryz.f3 rfl rfl rfl rfl rfl rfl rfl ⟨rfl, rfl, rfl, rfl, rfl⟩ rfl rfl rfl rfl rfl (by kernel_rfl) Tryz.func3 (by kernel_rfl)
    (of_decide_eq_true (by kernel_rfl)) (by unfold Func.isWrapper; first | (rw [if_pos (by decide +kernel)]; kernel_rfl) | (rw [if_neg (by decide +kernel)]; exact ⟨rfl, rfl⟩))
    (fun os started H enc _ => lifted os started H enc)

theorem proved : Rows.ServeBackCardSaid :=
  Claim7.holds_tied_plain_at .later [] [.data, .pinned] true (true, "a3661ed1362275627ff62bbf13867fb71c55891f8a4b8ff8fbe42db0e4be5ca0") false said (fun _ h => by cases h) (by kernel_rfl) (fun _ h => by cases h) serveBack_row_tie rfl ⟨rfl, rfl⟩ (by kernel_rfl) rfl
    (fun f fn hf hfn => by
      obtain rfl : f = 3 := Option.some.inj ((show Tryz.prog.funcNamed "tallyroll/tallyrollkeep.ServeBack" = some 3 by kernel_rfl).symm.trans hf) |>.symm
      obtain rfl : fn = Tryz.f3 := (Option.some.inj (Tryz.func3.symm.trans hfn)).symm
      exact ⟨by kernel_rfl, fun j t ht => by
        rw [show Tryz.f3.params = #[30, 9] from rfl] at ht
        have hm : t ∈ [30, 9] := by simpa using Array.mem_of_getElem? ht
        have hall : ([30, 9].all fun u => !Tryz.prog.wantsStandIn u) = true := by kernel_rfl
        exact (show Tryz.prog.wantsStandIn t = false by simpa using List.all_eq_true.1 hall t hm)⟩)
    (by kernel_rfl)
end Go.Proofs.YtpofnmobbbcpgaaGreatDoor.lawServeBack
