/- The law OwnerCalm is proved: for every input the call returns true and each argument reads afterwards as before. Conditions: those of the given row, among them the two listed tables of package utf8, tied by the given tie (the code that is walked does not read them). -/
import Derived.Test.YtmpakffajpnffaaGreatDoorCards
import Derived.Test.YtmpakffajpnffaaGreatDoorTie
import Derived.Lay
import Derived.LaidMore
import Derived.SevenTiedAt
import Derived.Handed
import Derived.Stop.Joined
import Derived.Test.YtmpakffajpnffaaGreatDoorVbCalm
set_option linter.unusedVariables false
set_option linter.unusedSimpArgs false
namespace Go.Proofs.YtmpakffajpnffaaGreatDoor
open Go.Tx
theorem lawOwnerCalm_con (G : Mem) (args : Array Value) (n : Nat) (h : RdA Tryz.prog G Tryz.f11.params.toList args.toList n) : Con Tryz.prog 11 args G [] (fun u _ _ => u = Bo true) := by
  rw [show Tryz.f11.params.toList = [30, 9, 70, 88] from rfl] at h
  obtain ⟨v0, vs0, m0, r0, e0, hm0, h0, h⟩ := h
  obtain ⟨v1, vs1, m1, r1, e1, hm1, h1, h⟩ := h
  obtain ⟨v2, vs2, m2, r2, e2, hm2, h2, h⟩ := h
  obtain ⟨v3, vs3, m3, r3, e3, hm3, h3, h⟩ := h
  have h : vs3 = [] := h
  subst h
  subst e3
  subst e2
  subst e1
  obtain rfl : args = #[v0, v1, v2, v3] := by cases args; simp_all
  obtain ⟨x0, rfl, w0⟩ := h0.one (.int .u64) (by kernel_rfl) (by kernel_rfl)
  obtain ⟨x1, rfl, w1, u1⟩ := h1.one .str (by kernel_rfl) (by kernel_rfl)
  have k2 := h2.one (.sl 70) (by kernel_rfl) (by kernel_rfl)
  obtain ⟨a2, c2, x2, rfl, hs2, _, hcap2⟩ := rd_slice (E := ES) (e := 9) (size := fun _ => 0) k2 (by kernel_rfl) (by kernel_rfl) (fun cs m h => o_ES h) (by decide +kernel) (by kernel_rfl) (by kernel_rfl)
  have k3 := h3.one (.sl 88) (by kernel_rfl) (by kernel_rfl)
  obtain ⟨a3, c3, x3, rfl, hs3, _, hcap3⟩ := rd_slice (E := EII) (e := 97) (size := fun _ => 0) k3 (by kernel_rfl) (by kernel_rfl) (fun cs m h => o_EII h) (by decide +kernel) (by kernel_rfl) (by kernel_rfl)
  exact ownerCalm_con G x0 (wf_u64 w0) x1 w1 a2 c2 x2 hs2 a3 c3 x3 hs3 (Nat.le_trans (Nat.mul_le_mul_right _ hs2.le) hcap2) (Nat.le_trans (Nat.mul_le_mul_right _ hs3.le) hcap3)
end Go.Proofs.YtmpakffajpnffaaGreatDoor
namespace Go.Proofs.YtmpakffajpnffaaGreatDoor.lawOwnerCalm
open Go.Tx Go.ChangeShapes Go.WideShapes Go.ChangeAt Go.RowKit Go.Proofs.YtmpakffajpnffaaGreatDoor
theorem shape {H : Type} : ∀ ds : List (DataW H), ds.length = Tryz.f11.params.toList.length → Rows.ownerCalmSpec.fn H ds = { results := [.lit (.bool true)], args := ds }
  | [d0, d1, d2, d3], _ => rfl
  | [], h => by simp [Tryz.f11] at h
  | [_], h => by simp [Tryz.f11] at h
  | [_, _], h => by simp [Tryz.f11] at h
  | [_, _, _], h => by simp [Tryz.f11] at h
  | _ :: _ :: _ :: _ :: _ :: _, h => by simp [Tryz.f11] at h
set_option maxRecDepth 100000 in
theorem contract (H : Type) (enc : TypeId × Value → H) (W : World) (base : Nat) (args : Array Value) (ds gs : List (DataW H)) (before : List MemPlace)
    (hval : ∀ (j : Nat) t v, Tryz.f11.params[j]? = some t → args[j]? = some v → Value.okWide Tryz.prog W .any base t v)
    (hW : DataW.Whole enc Tryz.prog Tryz.f11.params.toList Rows.ownerCalmSpec.vars false W args.toList ds gs before)
    (hsz : (DataW.weightsEach Tryz.prog (Tryz.f11.params.toList ++ Rows.ownerCalmSpec.plain.varTypes Tryz.prog) (ds ++ gs)).all (· ≤ reachBytes) = true) :
    Calls Tryz.prog 11 args W fun e W' => ∃ v, e = .returned v ∧ Rows.ownerCalmSpec.post enc Tryz.prog Tryz.f11 false true false false W args v W' :=
  law_contract (t := 4) (Rows.uptoBulkAll (ds ++ gs)) laidOut (by kernel_rfl) rfl shape (by kernel_rfl) (by kernel_rfl) (fun G args n hn h => lawOwnerCalm_con G args n h) W base args ds gs before hval hW (Nat.le_refl _) hsz
set_option maxRecDepth 100000 in
theorem lifted (os : Os) (started : os.Started) (H : Type) (enc : TypeId × Value → H) :
    ReturnsInHanded {} Tryz.checked os 11 .any (fun w args => (Rows.ownerCalmSpec.pre enc Tryz.prog Tryz.f11 Rows.ownerCalmRow.domain false w args ∧ laidMetH Tryz.prog Rows.ownerCalmRow.laid w) ∧ sizedMet enc Tryz.prog Tryz.f11 (OpenSpec.ofChange Rows.ownerCalmSpec) false w args)
      (Rows.ownerCalmSpec.post enc Tryz.prog Tryz.f11 false true false false) := by
  refine returnsInHanded_of_change_and (C := Tryz.checked) (X := fun w _ => laidMetH Tryz.prog Rows.ownerCalmRow.laid w) (fun _ _ _ hh h => h.of_heap hh) own started (by kernel_rfl) Tryz.func11
    (ChangeSpec.witness_shaped (enc := enc) (C := Tryz.checked) (os := os) (X := fun w _ => laidMetH Tryz.prog Rows.ownerCalmRow.laid w) false (World.laidAll Tryz.prog os Rows.ownerCalmRow.laid) #[.int .u64 0, .string ⟨#[]⟩, .slice none 0 0, .slice none 0 0] 8 (World.laidAll_os _ _ _)
      (World.shaped_of_ZipB (by kernel_rfl) (by kernel_rfl)) (by kernel_rfl) (by kernel_rfl) (by kernel_rfl)
      (by rw [MakeChecks.laidMetH_plain _ _ _ (by kernel_rfl)]; exact laidMet_laidAll _ (by kernel_rfl) (by kernel_rfl))) ?_
  intro W base args ds gs before hval hW _ hsz _ _
  exact contract H enc W base args ds gs before hval hW hsz
theorem said : Rows.OwnerCalmSaid :=
  OpenClaim.holds_of_wide 11 Tryz.f11 rfl rfl rfl rfl rfl rfl rfl ⟨rfl, rfl, rfl, rfl, rfl⟩ rfl rfl rfl rfl rfl (by kernel_rfl) Tryz.func11 (by kernel_rfl)
    (of_decide_eq_true (by kernel_rfl)) (by unfold Func.isWrapper; first | (rw [if_pos (by decide +kernel)]; kernel_rfl) | (rw [if_neg (by decide +kernel)]; exact ⟨rfl, rfl⟩))
    (fun os started H enc _ => lifted os started H enc)
theorem proved : Rows.OwnerCalmCardSaid :=
  Claim7.holds_tied_plain_at .later [] [.data, .pinned] true (true, "f0dad2e1b9537bff8f1dd29dab56dbb0bc9e42c8ef2945b2ecfc4b183fa57f01") false said (fun _ h => by cases h) (by kernel_rfl) (fun _ h => by cases h) ownerCalm_row_tie rfl ⟨rfl, rfl⟩ (by kernel_rfl) rfl
    (fun f fn hf hfn => by
      obtain rfl : f = 11 := Option.some.inj ((show Tryz.prog.funcNamed "tallyroll/tallyrollkeep.OwnerCalm" = some 11 by kernel_rfl).symm.trans hf) |>.symm
      obtain rfl : fn = Tryz.f11 := (Option.some.inj (Tryz.func11.symm.trans hfn)).symm
      exact ⟨by kernel_rfl, fun j t ht => by
        rw [show Tryz.f11.params = #[30, 9, 70, 88] from rfl] at ht
        have hm : t ∈ [30, 9, 70, 88] := by simpa using Array.mem_of_getElem? ht
        have hall : ([30, 9, 70, 88].all fun u => !Tryz.prog.wantsStandIn u) = true := by kernel_rfl
        exact (show Tryz.prog.wantsStandIn t = false by simpa using List.all_eq_true.1 hall t hm)⟩)
    (by kernel_rfl)
end Go.Proofs.YtmpakffajpnffaaGreatDoor.lawOwnerCalm
