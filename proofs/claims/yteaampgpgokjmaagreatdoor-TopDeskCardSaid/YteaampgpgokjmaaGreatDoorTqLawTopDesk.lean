/- The law TopDesk is proved: for every input the call returns true and each argument reads afterwards as before. Conditions: those of the given row, among them the two listed tables of package utf8, tied by the given tie (the code that is walked does not read them). -/
import Derived.Test.YteaampgpgokjmaaGreatDoorCards
import Derived.Test.YteaampgpgokjmaaGreatDoorTie
import Derived.Lay
import Derived.LaidMore
import Derived.SevenTiedAt
import Derived.Handed
import Derived.Stop.Joined
import Derived.Test.YteaampgpgokjmaaGreatDoorTqF
set_option linter.unusedVariables false
set_option linter.unusedSimpArgs false
namespace Go.Proofs.YteaampgpgokjmaaGreatDoor
open Go.Tx Go.RowKit
theorem JgN (W : World) (hT : TW Tryz.prog W) (args : Array Value) (n : Nat) (hn_ : n ≤ 1048576 ∨ True) (h : RdA Tryz.prog (JbV W) Tryz.f5.params.toList args.toList n) : Calls Tryz.prog 5 args W fun e W' => e = .returned (.bool true) ∧ Below W.heap.size W W' := by
  rw [show Tryz.f5.params.toList = [3, 3, 9] from rfl] at h
  obtain ⟨v0, vs0, m0, r0, e0, hm0, h0, h⟩ := h
  obtain ⟨v1, vs1, m1, r1, e1, hm1, h1, h⟩ := h
  obtain ⟨v2, vs2, m2, r2, e2, hm2, h2, h⟩ := h
  have h : vs2 = [] := h
  subst h
  subst e2
  subst e1
  obtain rfl : args = #[v0, v1, v2] := by cases args; simp_all
  obtain ⟨x0, rfl, w0⟩ := h0.one (.int .i64) (by kernel_rfl) (by kernel_rfl)
  obtain ⟨x1, rfl, w1⟩ := h1.one (.int .i64) (by kernel_rfl) (by kernel_rfl)
  obtain ⟨x2, rfl, w2, u2⟩ := h2.one .str (by kernel_rfl) (by kernel_rfl)
  exact JlF hT ((Jkq (JbV W) x0 (JoG w0) x1 (JoG w1) x2 w2).mono (fun _ _ _ h => h.2.1) (fun _ _ _ h => h))
end Go.Proofs.YteaampgpgokjmaaGreatDoor
namespace Go.Proofs.YteaampgpgokjmaaGreatDoor.lawTopDesk
open Go.Tx Go.ChangeShapes Go.WideShapes Go.ChangeAt Go.RowKit Go.Proofs.YteaampgpgokjmaaGreatDoor
theorem shape {H : Type} : ∀ ds : List (DataW H), ds.length = Tryz.f5.params.toList.length → Rows.topDeskSpec.fn H ds = { results := [.lit (.bool true)], args := ds }
  | [d0, d1, d2], _ => rfl
  | [], h => by simp [Tryz.f5] at h
  | [_], h => by simp [Tryz.f5] at h
  | [_, _], h => by simp [Tryz.f5] at h
  | _ :: _ :: _ :: _ :: _, h => by simp [Tryz.f5] at h
theorem tw {W : World} (h : laidMet Tryz.prog Rows.topDeskRow.laid W) : TW Tryz.prog W :=
  ⟨Lib.tabIs_of_head (rest := Rows.topDeskRow.laid.drop 3) (g := 2) (t := 310) (e := 41) (n := 20) (by kernel_rfl) (by kernel_rfl) (by kernel_rfl) (by kernel_rfl) (by kernel_rfl) (by kernel_rfl) h.tail.tail,
    Jc2 (g := 8) (ti := 168) (ms := #[("Error", 171)]) h.tail.tail.tail.tail.tail (by kernel_rfl) (by kernel_rfl) (by kernel_rfl), Jc2 (g := 9) (ti := 168) (ms := #[("Error", 171)]) h.tail.tail.tail.tail (by kernel_rfl) (by kernel_rfl) (by kernel_rfl)⟩
set_option maxRecDepth 100000 in
theorem contract (H : Type) (enc : TypeId × Value → H) (W : World) (base : Nat) (args : Array Value) (ds gs : List (DataW H)) (before : List MemPlace)
    (hval : ∀ (j : Nat) t v, Tryz.f5.params[j]? = some t → args[j]? = some v → Value.okWide Tryz.prog W .any base t v)
    (hW : DataW.Whole enc Tryz.prog Tryz.f5.params.toList Rows.topDeskSpec.vars false W args.toList ds gs before)
    (hsz : (DataW.weightsEach Tryz.prog (Tryz.f5.params.toList ++ Rows.topDeskSpec.plain.varTypes Tryz.prog) (ds ++ gs)).all (· ≤ reachBytes) = true)
    (hl : laidMetH Tryz.prog Rows.topDeskRow.laid W) :
    Calls Tryz.prog 5 args W fun e W' => ∃ v, e = .returned v ∧ Rows.topDeskSpec.post enc Tryz.prog Tryz.f5 false true false false W args v W' := by
  rw [MakeChecks.laidMetH_plain _ _ _ (by kernel_rfl)] at hl
  exact Jhi (t := 4) (k := 5) (Rows.uptoBulkAll (ds ++ gs)) Jqs (by kernel_rfl) rfl shape (by kernel_rfl) (by kernel_rfl) W base args ds gs before hval hW (fun n hn h => JgN W (tw hl) args n (.inr trivial) h) (Nat.le_refl _) hsz
set_option maxRecDepth 100000 in
theorem lifted (os : Os) (started : os.Started) (H : Type) (enc : TypeId × Value → H) :
    ReturnsInHanded {} Tryz.checked os 5 .any (fun w args => (Rows.topDeskSpec.pre enc Tryz.prog Tryz.f5 Rows.topDeskRow.domain false w args ∧ laidMetH Tryz.prog Rows.topDeskRow.laid w) ∧ sizedMet enc Tryz.prog Tryz.f5 (OpenSpec.ofChange Rows.topDeskSpec) false w args)
      (Rows.topDeskSpec.post enc Tryz.prog Tryz.f5 false true false false) := by
  refine returnsInHanded_of_change_and (C := Tryz.checked) (X := fun w _ => laidMetH Tryz.prog Rows.topDeskRow.laid w) (fun _ _ _ hh h => h.of_heap hh) own started (by kernel_rfl) Tryz.func5
    (ChangeSpec.witness_shaped (enc := enc) (C := Tryz.checked) (os := os) (X := fun w _ => laidMetH Tryz.prog Rows.topDeskRow.laid w) false (World.laidAll Tryz.prog os Rows.topDeskRow.laid) #[.int .i64 0, .int .i64 0, .string ⟨#[]⟩] 8 (World.laidAll_os _ _ _)
      (World.shaped_of_ZipB (by kernel_rfl) (by kernel_rfl)) (by kernel_rfl) (by kernel_rfl) (by kernel_rfl)
      (by rw [MakeChecks.laidMetH_plain _ _ _ (by kernel_rfl)]; exact laidMet_laidAll _ (by kernel_rfl) (by kernel_rfl))) ?_
  intro W base args ds gs before hval hW _ hsz hl _
  exact contract H enc W base args ds gs before hval hW hsz hl
theorem j1 : (Rows.topDeskRow.inPlace == Tryz.pinned.checked.prog.inPlace 5) = true := by kernel_rfl
theorem j2 : (Rows.topDeskRow.unfollowed == Tryz.pinned.checked.prog.unfollowed 5) = true := by kernel_rfl
theorem j3 : (Rows.topDeskRow.recurses == Tryz.pinned.checked.prog.recurses 5) = true := by kernel_rfl
theorem j4 : (Rows.topDeskRow.named == Tryz.pinned.checked.prog.varsNamed 5) = true := by kernel_rfl
theorem said : Rows.TopDeskSaid :=
  OpenClaim.holds_of_wide 5 Tryz.f5 rfl rfl rfl rfl rfl rfl rfl ⟨rfl, rfl, rfl, rfl, rfl⟩ rfl rfl rfl rfl rfl (by kernel_rfl) Tryz.func5 (by unfold joinedFacts; rw [j1, j2, j3, j4]; kernel_rfl)
    (of_decide_eq_true (by kernel_rfl)) (by unfold Func.isWrapper; first | (rw [if_pos (by decide +kernel)]; kernel_rfl) | (rw [if_neg (by decide +kernel)]; exact ⟨rfl, rfl⟩))
    (fun os started H enc _ => lifted os started H enc)
theorem proved : Rows.TopDeskCardSaid :=
  Claim7.holds_tied_plain_at .later [] [.data, .data, .data, .data, .sentinel, .sentinel, .pinned] true (true, "dd33d26b6b3eb79caf48a6432f4c3a990ceda0ae2953cfd55ec02fa530d7fbd7") true said (fun _ h => by cases h) (by kernel_rfl) (fun _ h => by cases h) topDesk_row_tie rfl ⟨rfl, rfl⟩ (by kernel_rfl) rfl
    (fun f fn hf hfn => by
      obtain rfl : f = 5 := Option.some.inj ((show Tryz.prog.funcNamed "tallyroll/tallyrolltop.TopDesk" = some 5 by kernel_rfl).symm.trans hf) |>.symm
      obtain rfl : fn = Tryz.f5 := (Option.some.inj (Tryz.func5.symm.trans hfn)).symm
      exact ⟨by kernel_rfl, fun j t ht => by
        rw [show Tryz.f5.params = #[3, 3, 9] from rfl] at ht
        have hm : t ∈ [3, 3, 9] := by simpa using Array.mem_of_getElem? ht
        have hall : ([3, 3, 9].all fun u => !Tryz.prog.wantsStandIn u) = true := by kernel_rfl
        exact (show Tryz.prog.wantsStandIn t = false by simpa using List.all_eq_true.1 hall t hm)⟩)
    (by kernel_rfl)
end Go.Proofs.YteaampgpgokjmaaGreatDoor.lawTopDesk
