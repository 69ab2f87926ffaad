/- The law TownCalm is proved: for every input the call returns true and each argument reads afterwards as before. Conditions: those of the given row, among them the two listed tables of package utf8, tied by the given tie (the code that is walked does not read them). -/
import Derived.Test.YtnnlpbjdignhaaaGreatDoorCards
import Derived.Test.YtnnlpbjdignhaaaGreatDoorTie
import Derived.Lay
import Derived.LaidMore
import Derived.SevenTiedAt
import Derived.Handed
import Derived.Stop.Joined
import Derived.Test.YtnnlpbjdignhaaaGreatDoorTcTownL
set_option linter.unusedVariables false
set_option linter.unusedSimpArgs false
namespace Go.Proofs.YtnnlpbjdignhaaaGreatDoor
open Go.Tx
theorem Jdn (G : Jt) (args : Array Value) (n : Nat) (h : RdA Tryz.prog G Tryz.f5.params.toList args.toList n) : QF Tryz.prog 5 args G [] (fun u _ _ => u = Bo true) := by
  rw [show Tryz.f5.params.toList = [25, 26] from rfl] at h
  obtain ⟨v0, vs0, m0, r0, e0, hm0, h0, h⟩ := h
  obtain ⟨v1, vs1, m1, r1, e1, hm1, h1, h⟩ := h
  have h : vs1 = [] := h
  subst h
  subst e1
  obtain rfl : args = #[v0, v1] := by cases args; simp_all
  obtain ⟨cs0, rfl, k0⟩ := h0.agg [.sl 22, .sl 23, .int .i64, .int .i64, .int .i64, .int .i64, .int .i64, .int .i64, .int .i64] (by kernel_rfl) (by kernel_rfl)
  obtain ⟨x0, hx0, _⟩ := JkW k0
  have k1 := h1.one (.sl 26) (by kernel_rfl) (by kernel_rfl)
  obtain ⟨a1, c1, x1, rfl, hs1, _, hcap1⟩ := VD (E := Jae) (e := 74) (size := fun _ => 0) k1 (by kernel_rfl) (by kernel_rfl) (fun cs m h => Jmn h) (by decide +kernel) (by kernel_rfl) (by kernel_rfl)
  exact Jgp G cs0 x0 hx0 a1 c1 x1 hs1 (Nat.le_trans (Nat.mul_le_mul_right _ hs1.le) hcap1)
end Go.Proofs.YtnnlpbjdignhaaaGreatDoor
namespace Go.Proofs.YtnnlpbjdignhaaaGreatDoor.lawTownCalm
open Go.Tx Go.ChangeShapes Go.WideShapes Go.ChangeAt Go.RowKit Go.Proofs.YtnnlpbjdignhaaaGreatDoor
theorem shape {H : Type} : ∀ ds : List (DataW H), ds.length = Tryz.f5.params.toList.length → Rows.townCalmSpec.fn H ds = { results := [.lit (.bool true)], args := ds }
  | [d0, d1], _ => rfl
  | [], h => by simp [Tryz.f5] at h
  | [_], h => by simp [Tryz.f5] at h
  | _ :: _ :: _ :: _, h => by simp [Tryz.f5] at h
set_option maxRecDepth 100000 in
theorem contract (H : Type) (enc : TypeId × Value → H) (W : World) (base : Nat) (args : Array Value) (ds gs : List (DataW H)) (before : List MemPlace)
    (hval : ∀ (j : Nat) t v, Tryz.f5.params[j]? = some t → args[j]? = some v → Value.okWide Tryz.prog W .any base t v)
    (hW : DataW.Whole enc Tryz.prog Tryz.f5.params.toList Rows.townCalmSpec.vars false W args.toList ds gs before)
    (hsz : (DataW.weightsEach Tryz.prog (Tryz.f5.params.toList ++ Rows.townCalmSpec.plain.varTypes Tryz.prog) (ds ++ gs)).all (· ≤ reachBytes) = true) :
    Calls Tryz.prog 5 args W fun e W' => ∃ v, e = .returned v ∧ Rows.townCalmSpec.post enc Tryz.prog Tryz.f5 false true false false W args v W' :=
  JfE (t := 4) (Rows.uptoBulkAll (ds ++ gs)) Jmk (by kernel_rfl) rfl shape (by kernel_rfl) (by kernel_rfl) (fun G args n hn h => Jdn G args n h) W base args ds gs before hval hW (Nat.le_refl _) hsz
set_option maxRecDepth 100000 in
theorem lifted (os : Os) (started : os.Started) (H : Type) (enc : TypeId × Value → H) :
    ReturnsInHanded {} Tryz.checked os 5 .any (fun w args => (Rows.townCalmSpec.pre enc Tryz.prog Tryz.f5 Rows.townCalmRow.domain false w args ∧ laidMetH Tryz.prog Rows.townCalmRow.laid w) ∧ sizedMet enc Tryz.prog Tryz.f5 (OpenSpec.ofChange Rows.townCalmSpec) false w args)
      (Rows.townCalmSpec.post enc Tryz.prog Tryz.f5 false true false false) := by
  refine returnsInHanded_of_change_and (C := Tryz.checked) (X := fun w _ => laidMetH Tryz.prog Rows.townCalmRow.laid w) (fun _ _ _ hh h => h.of_heap hh) own started (by kernel_rfl) Tryz.func5
    (ChangeSpec.witness_shaped (enc := enc) (C := Tryz.checked) (os := os) (X := fun w _ => laidMetH Tryz.prog Rows.townCalmRow.laid w) false (World.laidAll Tryz.prog os Rows.townCalmRow.laid) #[.agg #[.slice none 0 0, .slice none 0 0, .int .i64 0, .int .i64 0, .int .i64 0, .int .i64 0, .int .i64 0, .int .i64 0, .int .i64 0], .slice none 0 0] 8 (World.laidAll_os _ _ _)
      (World.shaped_of_ZipB (by kernel_rfl) (by kernel_rfl)) (by kernel_rfl) (by kernel_rfl) (by kernel_rfl)
      (by rw [MakeChecks.laidMetH_plain _ _ _ (by kernel_rfl)]; exact laidMet_laidAll _ (by kernel_rfl) (by kernel_rfl))) ?_
  intro W base args ds gs before hval hW _ hsz _ _
  exact contract H enc W base args ds gs before hval hW hsz
theorem said : Rows.TownCalmSaid :=
  OpenClaim.holds_of_wide 5 Tryz.f5 rfl rfl rfl rfl rfl rfl rfl ⟨rfl, rfl, rfl, rfl, rfl⟩ rfl rfl rfl rfl rfl (by kernel_rfl) Tryz.func5 (by kernel_rfl)
    (of_decide_eq_true (by kernel_rfl)) (by unfold Func.isWrapper; first | (rw [if_pos (by decide +kernel)]; kernel_rfl) | (rw [if_neg (by decide +kernel)]; exact ⟨rfl, rfl⟩))
    (fun os started H enc _ => lifted os started H enc)
theorem proved : Rows.TownCalmCardSaid :=
  Claim7.holds_tied_plain_at .later [] [.data, .pinned] true (true, "b35f401e56e57606a7f82422449b394f4f5a5e2a7439d50caf6ff5a96b1d7525") false said (fun _ h => by cases h) (by kernel_rfl) (fun _ h => by cases h) townCalm_row_tie rfl ⟨rfl, rfl⟩ (by kernel_rfl) rfl
    (fun f fn hf hfn => by
      obtain rfl : f = 5 := Option.some.inj ((show Tryz.prog.funcNamed "tallyroll/tallyrollkeep.TownCalm" = some 5 by kernel_rfl).symm.trans hf) |>.symm
      obtain rfl : fn = Tryz.f5 := (Option.some.inj (Tryz.func5.symm.trans hfn)).symm
      exact ⟨by kernel_rfl, fun j t ht => by
        rw [show Tryz.f5.params = #[25, 26] from rfl] at ht
        have hm : t ∈ [25, 26] := by simpa using Array.mem_of_getElem? ht
        have hall : ([25, 26].all fun u => !Tryz.prog.wantsStandIn u) = true := by kernel_rfl
        exact (show Tryz.prog.wantsStandIn t = false by simpa using List.all_eq_true.1 hall t hm)⟩)
    (by kernel_rfl)
end Go.Proofs.YtnnlpbjdignhaaaGreatDoor.lawTownCalm
