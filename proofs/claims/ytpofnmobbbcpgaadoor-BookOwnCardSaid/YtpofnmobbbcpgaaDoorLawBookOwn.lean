/- The law BookOwn is proved: for every input the call returns true and each argument reads afterwards as before. Conditions: those of the given row, among them the two listed tables of package utf8, tied by the given tie (the code that is walked does not read them). -/
import Derived.Test.YtpofnmobbbcpgaaDoorCards
import Derived.Test.YtpofnmobbbcpgaaDoorTie
import Derived.Lay
import Derived.LaidMore
import Derived.SevenTiedAt
import Derived.Handed
import Derived.Stop.Joined
import Derived.Test.YtpofnmobbbcpgaaDoorBookOwn
set_option linter.unusedVariables false
set_option linter.unusedSimpArgs false
namespace Go.Proofs.YtpofnmobbbcpgaaDoor
open Go.Tx Go.RowKit
theorem lawBookOwn_con (G : Mem) (args : Array Value) (n : Nat) (h : RdA Tryd.prog G Tryd.f3.params.toList args.toList n) : Con Tryd.prog 3 args G [] (fun u _ _ => u = Bo true) := by
  rw [show Tryd.f3.params.toList = [22, 22, 9, 9] from rfl] at h
  obtain ⟨v0, vs0, m0, r0, e0, hm0, h0, h⟩ := h
  obtain ⟨v1, vs1, m1, r1, e1, hm1, h1, h⟩ := h
  obtain ⟨v2, vs2, m2, r2, e2, hm2, h2, h⟩ := h
  obtain ⟨v3, vs3, m3, r3, e3, hm3, h3, h⟩ := h
  have h : vs3 = [] := h
  subst h
  subst e3
  subst e2
  subst e1
  obtain rfl : args = #[v0, v1, v2, v3] := by cases args; simp_all
  have k0 := h0.one (.sl 22) (by kernel_rfl) (by kernel_rfl)
  obtain ⟨a0, c0, x0, rfl, hs0, _, hcap0⟩ := rd_slice (E := EEnt) (e := 26) (size := fun _ => 0) k0 (by kernel_rfl) (by kernel_rfl) (fun cs m h => o_EEnt h) (by decide +kernel) (by kernel_rfl) (by kernel_rfl)
  have k1 := h1.one (.sl 22) (by kernel_rfl) (by kernel_rfl)
  obtain ⟨a1, c1, x1, rfl, hs1, _, hcap1⟩ := rd_slice (E := EEnt) (e := 26) (size := fun _ => 0) k1 (by kernel_rfl) (by kernel_rfl) (fun cs m h => o_EEnt h) (by decide +kernel) (by kernel_rfl) (by kernel_rfl)
  obtain ⟨x2, rfl, w2, u2⟩ := h2.one .str (by kernel_rfl) (by kernel_rfl)
  obtain ⟨x3, rfl, w3, u3⟩ := h3.one .str (by kernel_rfl) (by kernel_rfl)
  exact bookOwn_con G a0 c0 x0 hs0 a1 c1 x1 hs1 x2 w2 x3 w3 (Nat.le_trans (Nat.mul_le_mul_right _ hs0.le) hcap0) (Nat.le_trans (Nat.mul_le_mul_right _ hs1.le) hcap1)
end Go.Proofs.YtpofnmobbbcpgaaDoor
namespace Go.Proofs.YtpofnmobbbcpgaaDoor.lawBookOwn
open Go.Tx Go.ChangeShapes Go.WideShapes Go.ChangeAt Go.RowKit Go.Proofs.YtpofnmobbbcpgaaDoor

theorem shape {H : Type} : ∀ ds : List (DataW H), ds.length = Tryd.f3.params.toList.length → Rows.bookOwnSpec.fn H ds = { results := [.lit (.bool true)], args := ds }
  | [d0, d1, d2, d3], _ => rfl
  | [], h => by simp [Tryd.f3] at h
  | [_], h => by simp [Tryd.f3] at h
  | [_, _], h => by simp [Tryd.f3] at h
  | [_, _, _], h => by simp [Tryd.f3] at h
  | _ :: _ :: _ :: _ :: _ :: _, h => by simp [Tryd.f3] at h

set_option maxRecDepth 100000 in
theorem contract (H : Type) (enc : TypeId × Value → H) (W : World) (base : Nat) (args : Array Value) (ds gs : List (DataW H)) (before : List MemPlace)
    (hval : ∀ (j : Nat) t v, Tryd.f3.params[j]? = some t → args[j]? = some v → Value.okWide Tryd.prog W .any base t v)
    (hW : DataW.Whole enc Tryd.prog Tryd.f3.params.toList Rows.bookOwnSpec.vars false W args.toList ds gs before)
    (hsz : (DataW.weightsEach Tryd.prog (Tryd.f3.params.toList ++ Rows.bookOwnSpec.plain.varTypes Tryd.prog) (ds ++ gs)).all (· ≤ reachBytes) = true) :
    Calls Tryd.prog 3 args W fun e W' => ∃ v, e = .returned v ∧ Rows.bookOwnSpec.post enc Tryd.prog Tryd.f3 false true false false W args v W' :=
  law_contract (t := 4) (Rows.uptoBulkAll (ds ++ gs)) laidOut (by kernel_rfl) rfl shape (by kernel_rfl) (by kernel_rfl) (fun G args n hn h => lawBookOwn_con G args n h) W base args ds gs before hval hW (Nat.le_refl _) hsz

set_option maxRecDepth 100000 in
theorem lifted (os : Os) (started : os.Started) (H : Type) (enc : TypeId × Value → H) :
    ReturnsInHanded {} Tryd.checked os 3 .any (fun w args => (Rows.bookOwnSpec.pre enc Tryd.prog Tryd.f3 Rows.bookOwnRow.domain false w args ∧ laidMetH Tryd.prog Rows.bookOwnRow.laid w) ∧ sizedMet enc Tryd.prog Tryd.f3 (OpenSpec.ofChange Rows.bookOwnSpec) false w args)
      (Rows.bookOwnSpec.post enc Tryd.prog Tryd.f3 false true false false) := by
  refine returnsInHanded_of_change_and (C := Tryd.checked) (X := fun w _ => laidMetH Tryd.prog Rows.bookOwnRow.laid w) (fun _ _ _ hh h => h.of_heap hh) own started (by kernel_rfl) Tryd.func3
    (ChangeSpec.witness_shaped (enc := enc) (C := Tryd.checked) (os := os) (X := fun w _ => laidMetH Tryd.prog Rows.bookOwnRow.laid w) false (World.laidAll Tryd.prog os Rows.bookOwnRow.laid) #[.slice none 0 0, .slice none 0 0, .string ⟨#[]⟩, .string ⟨#[]⟩] 8 (World.laidAll_os _ _ _)
      (World.shaped_of_ZipB (by kernel_rfl) (by kernel_rfl)) (by kernel_rfl) (by kernel_rfl) (by kernel_rfl)
      (by rw [MakeChecks.laidMetH_plain _ _ _ (by kernel_rfl)]; exact laidMet_laidAll _ (by kernel_rfl) (by kernel_rfl))) ?_
  intro W base args ds gs before hval hW _ hsz _ _
  exact contract H enc W base args ds gs before hval hW hsz

theorem said : Rows.BookOwnSaid :=
  OpenClaim.holds_of_wide 3 Tryd.f3 rfl rfl rfl rfl rfl rfl rfl ⟨rfl, rfl, rfl, rfl, rfl⟩ rfl rfl rfl rfl rfl (by kernel_rfl) Tryd.func3 (by kernel_rfl)
    (of_decide_eq_true (by kernel_rfl)) (by unfold Func.isWrapper; first | (rw [if_pos (by decide +kernel)]; kernel_rfl) | (rw [if_neg (by decide +kernel)]; exact ⟨rfl, rfl⟩))
    (fun os started H enc _ => lifted os started H enc)

theorem proved : Rows.BookOwnCardSaid :=
  Claim7.holds_tied_plain_at .later [] [.data, .pinned] true (true, "8369d66926e484bb135190c7714cf400dadd1eb9264279d6a703c3ffc537a17c") false said (fun _ h => by cases h) (by kernel_rfl) (fun _ h => by cases h) bookOwn_row_tie rfl ⟨rfl, rfl⟩ (by kernel_rfl) rfl
    (fun f fn hf hfn => by
      obtain rfl : f = 3 := Option.some.inj ((show Tryd.prog.funcNamed "tallyroll/tallyrollkeep.BookOwn" = some 3 by kernel_rfl).symm.trans hf) |>.symm
      obtain rfl : fn = Tryd.f3 := (Option.some.inj (Tryd.func3.symm.trans hfn)).symm
      exact ⟨by kernel_rfl, fun j t ht => by
        rw [show Tryd.f3.params = #[22, 22, 9, 9] from rfl] at ht
        have hm : t ∈ [22, 22, 9, 9] := by simpa using Array.mem_of_getElem? ht
        have hall : ([22, 22, 9, 9].all fun u => !Tryd.prog.wantsStandIn u) = true := by kernel_rfl
        exact (show Tryd.prog.wantsStandIn t = false by simpa using List.all_eq_true.1 hall t hm)⟩)
    (by kernel_rfl)
end Go.Proofs.YtpofnmobbbcpgaaDoor.lawBookOwn
