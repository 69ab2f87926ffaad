/- The law TopDue is proved: for every input the call returns true and each argument reads afterwards as before. Conditions: those of the given row, among them the two listed tables of package utf8, tied by the given tie (the code that is walked does not read them). -/
import Derived.Test.YteaampgpgokjmaaGreatDoorCards
import Derived.Test.YteaampgpgokjmaaGreatDoorTie
import Derived.Lay
import Derived.LaidMore
import Derived.SevenTiedAt
import Derived.Handed
import Derived.Stop.Joined
import Derived.Test.YteaampgpgokjmaaGreatDoorTvF
set_option linter.unusedVariables false
set_option linter.unusedSimpArgs false
namespace Go.Proofs.YteaampgpgokjmaaGreatDoor
open Go.Tx Go.RowKit
theorem Jgn (W : World) (hT : TW Tryz.prog W) (args : Array Value) (n : Nat) (hn_ : n ≤ 1048576 ∨ True) (h : RdA Tryz.prog (Jbr W) Tryz.f6.params.toList args.toList n) : Calls Tryz.prog 6 args W fun e W' => e = .returned (.bool true) ∧ Below W.heap.size W W' := by
  rw [show Tryz.f6.params.toList = [72, 38] from rfl] at h
  obtain ⟨v0, vs0, m0, r0, e0, hm0, h0, h⟩ := h
  obtain ⟨v1, vs1, m1, r1, e1, hm1, h1, h⟩ := h
  have h : vs1 = [] := h
  subst h
  subst e1
  obtain rfl : args = #[v0, v1] := by cases args; simp_all
  obtain ⟨cs0, rfl, k0⟩ := h0.agg [.sl 22, .sl 45, .int .i64, .int .i64, .int .i64, .int .i64, .int .i64, .int .i64, .int .i64] (by kernel_rfl) (by kernel_rfl)
  obtain ⟨x0, hx0, _⟩ := Jnf k0
  have k1 := h1.one (.sl 38) (by kernel_rfl) (by kernel_rfl)
  obtain ⟨a1, c1, x1, rfl, hs1, _, hcap1⟩ := Jai (E := WO) (e := 53) (size := fun _ => 0) k1 (by kernel_rfl) (by kernel_rfl) (fun cs m h => JoO h) (by decide +kernel) (by kernel_rfl) (by kernel_rfl)
  exact Jkz hT ((Jky (Jbr W) cs0 x0 hx0 a1 c1 x1 hs1 (Nat.le_trans (Nat.mul_le_mul_right _ hs1.le) hcap1)).mono (fun _ _ _ h => h.2.1) (fun _ _ _ h => h))
end Go.Proofs.YteaampgpgokjmaaGreatDoor
namespace Go.Proofs.YteaampgpgokjmaaGreatDoor.lawTopDue
open Go.Tx Go.ChangeShapes Go.WideShapes Go.ChangeAt Go.RowKit Go.Proofs.YteaampgpgokjmaaGreatDoor
theorem shape {H : Type} : ∀ ds : List (DataW H), ds.length = Tryz.f6.params.toList.length → Rows.topDueSpec.fn H ds = { results := [.lit (.bool true)], args := ds }
  | [d0, d1], _ => rfl
  | [], h => by simp [Tryz.f6] at h
  | [_], h => by simp [Tryz.f6] at h
  | _ :: _ :: _ :: _, h => by simp [Tryz.f6] at h
theorem tw {W : World} (h : laidMet Tryz.prog Rows.topDueRow.laid W) : TW Tryz.prog W :=
  ⟨Lib.tabIs_of_head (rest := Rows.topDueRow.laid.drop 3) (g := 2) (t := 310) (e := 41) (n := 20) (by kernel_rfl) (by kernel_rfl) (by kernel_rfl) (by kernel_rfl) (by kernel_rfl) (by kernel_rfl) h.tail.tail,
    Jco (g := 8) (ti := 168) (ms := #[("Error", 171)]) h.tail.tail.tail.tail.tail (by kernel_rfl) (by kernel_rfl) (by kernel_rfl), Jco (g := 9) (ti := 168) (ms := #[("Error", 171)]) h.tail.tail.tail.tail (by kernel_rfl) (by kernel_rfl) (by kernel_rfl)⟩
set_option maxRecDepth 100000 in
theorem contract (H : Type) (enc : TypeId × Value → H) (W : World) (base : Nat) (args : Array Value) (ds gs : List (DataW H)) (before : List MemPlace)
    (hval : ∀ (j : Nat) t v, Tryz.f6.params[j]? = some t → args[j]? = some v → Value.okWide Tryz.prog W .any base t v)
    (hW : DataW.Whole enc Tryz.prog Tryz.f6.params.toList Rows.topDueSpec.vars false W args.toList ds gs before)
    (hsz : (DataW.weightsEach Tryz.prog (Tryz.f6.params.toList ++ Rows.topDueSpec.plain.varTypes Tryz.prog) (ds ++ gs)).all (· ≤ reachBytes) = true)
    (hl : laidMetH Tryz.prog Rows.topDueRow.laid W) :
    Calls Tryz.prog 6 args W fun e W' => ∃ v, e = .returned v ∧ Rows.topDueSpec.post enc Tryz.prog Tryz.f6 false true false false W args v W' := by
  rw [MakeChecks.laidMetH_plain _ _ _ (by kernel_rfl)] at hl
  exact Jgm (t := 4) (k := 6) (Rows.uptoBulkAll (ds ++ gs)) JoM (by kernel_rfl) rfl shape (by kernel_rfl) (by kernel_rfl) W base args ds gs before hval hW (fun n hn h => Jgn W (tw hl) args n (.inr trivial) h) (Nat.le_refl _) hsz
set_option maxRecDepth 100000 in
theorem lifted (os : Os) (started : os.Started) (H : Type) (enc : TypeId × Value → H) :
    ReturnsInHanded {} Tryz.checked os 6 .any (fun w args => (Rows.topDueSpec.pre enc Tryz.prog Tryz.f6 Rows.topDueRow.domain false w args ∧ laidMetH Tryz.prog Rows.topDueRow.laid w) ∧ sizedMet enc Tryz.prog Tryz.f6 (OpenSpec.ofChange Rows.topDueSpec) false w args)
      (Rows.topDueSpec.post enc Tryz.prog Tryz.f6 false true false false) := by
  refine returnsInHanded_of_change_and (C := Tryz.checked) (X := fun w _ => laidMetH Tryz.prog Rows.topDueRow.laid w) (fun _ _ _ hh h => h.of_heap hh) own started (by kernel_rfl) Tryz.func6
    (ChangeSpec.witness_shaped (enc := enc) (C := Tryz.checked) (os := os) (X := fun w _ => laidMetH Tryz.prog Rows.topDueRow.laid w) false (World.laidAll Tryz.prog os Rows.topDueRow.laid) #[.agg #[.slice none 0 0, .slice none 0 0, .int .i64 0, .int .i64 0, .int .i64 0, .int .i64 0, .int .i64 0, .int .i64 0, .int .i64 0], .slice none 0 0] 8 (World.laidAll_os _ _ _)
      (World.shaped_of_ZipB (by kernel_rfl) (by kernel_rfl)) (by kernel_rfl) (by kernel_rfl) (by kernel_rfl)
      (by rw [MakeChecks.laidMetH_plain _ _ _ (by kernel_rfl)]; exact laidMet_laidAll _ (by kernel_rfl) (by kernel_rfl))) ?_
  intro W base args ds gs before hval hW _ hsz hl _
  exact contract H enc W base args ds gs before hval hW hsz hl
theorem j1 : (Rows.topDueRow.inPlace == Tryz.pinned.checked.prog.inPlace 6) = true := by kernel_rfl
theorem j2 : (Rows.topDueRow.unfollowed == Tryz.pinned.checked.prog.unfollowed 6) = true := by kernel_rfl
theorem j3 : (Rows.topDueRow.recurses == Tryz.pinned.checked.prog.recurses 6) = true := by kernel_rfl
theorem j4 : (Rows.topDueRow.named == Tryz.pinned.checked.prog.varsNamed 6) = true := by kernel_rfl
theorem said : Rows.TopDueSaid :=
  OpenClaim.holds_of_wide 6 Tryz.f6 rfl rfl rfl rfl rfl rfl rfl ⟨rfl, rfl, rfl, rfl, rfl⟩ rfl rfl rfl rfl rfl (by kernel_rfl) Tryz.func6 (by unfold joinedFacts; rw [j1, j2, j3, j4]; kernel_rfl)
    (of_decide_eq_true (by kernel_rfl)) (by unfold Func.isWrapper; first | (rw [if_pos (by decide +kernel)]; kernel_rfl) | (rw [if_neg (by decide +kernel)]; exact ⟨rfl, rfl⟩))
    (fun os started H enc _ => lifted os started H enc)
theorem proved : Rows.TopDueCardSaid :=
  Claim7.holds_tied_plain_at .later [] [.data, .data, .data, .data, .sentinel, .sentinel, .pinned] true (true, "dd33d26b6b3eb79caf48a6432f4c3a990ceda0ae2953cfd55ec02fa530d7fbd7") true said (fun _ h => by cases h) (by kernel_rfl) (fun _ h => by cases h) topDue_row_tie rfl ⟨rfl, rfl⟩ (by kernel_rfl) rfl
    (fun f fn hf hfn => by
      obtain rfl : f = 6 := Option.some.inj ((show Tryz.prog.funcNamed "tallyroll/tallyrolltop.TopDue" = some 6 by kernel_rfl).symm.trans hf) |>.symm
      obtain rfl : fn = Tryz.f6 := (Option.some.inj (Tryz.func6.symm.trans hfn)).symm
      exact ⟨by kernel_rfl, fun j t ht => by
        rw [show Tryz.f6.params = #[72, 38] from rfl] at ht
        have hm : t ∈ [72, 38] := by simpa using Array.mem_of_getElem? ht
        have hall : ([72, 38].all fun u => !Tryz.prog.wantsStandIn u) = true := by kernel_rfl
        exact (show Tryz.prog.wantsStandIn t = false by simpa using List.all_eq_true.1 hall t hm)⟩)
    (by kernel_rfl)
end Go.Proofs.YteaampgpgokjmaaGreatDoor.lawTopDue
