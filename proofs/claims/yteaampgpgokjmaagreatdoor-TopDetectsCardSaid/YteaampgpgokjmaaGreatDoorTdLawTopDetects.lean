/- The law TopDetects is proved: for every input the call returns true and each argument reads afterwards as before. Conditions: those of the given row, among them the two listed tables of package utf8, tied by the given tie (the code that is walked does not read them). -/
import Derived.Test.YteaampgpgokjmaaGreatDoorCards
import Derived.Test.YteaampgpgokjmaaGreatDoorTie
import Derived.Lay
import Derived.LaidMore
import Derived.SevenTiedAt
import Derived.Handed
import Derived.Stop.Joined
import Derived.Test.YteaampgpgokjmaaGreatDoorTdF
set_option linter.unusedVariables false
set_option linter.unusedSimpArgs false
namespace Go.Proofs.YteaampgpgokjmaaGreatDoor
open Go.Tx Go.RowKit
theorem Jdx (W : World) (hT : TW Tryz.prog W) (args : Array Value) (n : Nat) (hn_ : n ≤ 1048576 ∨ True) (h : RdA Tryz.prog (Jbp W) Tryz.f7.params.toList args.toList n) : Calls Tryz.prog 7 args W fun e W' => e = .returned (.bool true) ∧ Below W.heap.size W W' := by
  rw [show Tryz.f7.params.toList = [76, 40, 49, 49] from rfl] at h
  obtain ⟨v0, vs0, m0, r0, e0, hm0, h0, h⟩ := h
  obtain ⟨v1, vs1, m1, r1, e1, hm1, h1, h⟩ := h
  obtain ⟨v2, vs2, m2, r2, e2, hm2, h2, h⟩ := h
  obtain ⟨v3, vs3, m3, r3, e3, hm3, h3, h⟩ := h
  have h : vs3 = [] := h
  subst h
  subst e3
  subst e2
  subst e1
  obtain rfl : args = #[v0, v1, v2, v3] := by cases args; simp_all
  obtain ⟨cs0, rfl, k0⟩ := h0.agg [.str, .int .u64, .int .i64, .int .u64, .int .u64, .int .i64, .sl 22, .int .i64] (by kernel_rfl) (by kernel_rfl)
  obtain ⟨x0, hx0, _⟩ := Jny k0
  have k1 := h1.one (.sl 40) (by kernel_rfl) (by kernel_rfl)
  obtain ⟨a1, c1, x1, rfl, hs1, _, hcap1⟩ := Jc1 (E := KA) (e := 43) (size := fun _ => 0) k1 (by kernel_rfl) (by kernel_rfl) (fun cs m h => Jo7 h) (by decide +kernel) (by kernel_rfl) (by kernel_rfl)
  obtain ⟨cs2, rfl, k2⟩ := h2.agg [.int .i64, .int .u64, .int .u64, .int .i64, .str, .sl 44, .sl 45] (by kernel_rfl) (by kernel_rfl)
  obtain ⟨x2, hx2, _⟩ := Jii k2
  obtain ⟨cs3, rfl, k3⟩ := h3.agg [.int .i64, .int .u64, .int .u64, .int .i64, .str, .sl 44, .sl 45] (by kernel_rfl) (by kernel_rfl)
  obtain ⟨x3, hx3, _⟩ := Jii k3
  exact JkJ hT ((JfZ (Jbp W) cs0 x0 hx0 a1 c1 x1 hs1 cs2 x2 hx2 cs3 x3 hx3 (Nat.le_trans (Nat.mul_le_mul_right _ hs1.le) hcap1)).mono (fun _ _ _ h => h.2.1) (fun _ _ _ h => h))
end Go.Proofs.YteaampgpgokjmaaGreatDoor
namespace Go.Proofs.YteaampgpgokjmaaGreatDoor.lawTopDetects
open Go.Tx Go.ChangeShapes Go.WideShapes Go.ChangeAt Go.RowKit Go.Proofs.YteaampgpgokjmaaGreatDoor
theorem shape {H : Type} : ∀ ds : List (DataW H), ds.length = Tryz.f7.params.toList.length → Rows.topDetectsSpec.fn H ds = { results := [.lit (.bool true)], args := ds }
  | [d0, d1, d2, d3], _ => rfl
  | [], h => by simp [Tryz.f7] at h
  | [_], h => by simp [Tryz.f7] at h
  | [_, _], h => by simp [Tryz.f7] at h
  | [_, _, _], h => by simp [Tryz.f7] at h
  | _ :: _ :: _ :: _ :: _ :: _, h => by simp [Tryz.f7] at h
theorem tw {W : World} (h : laidMet Tryz.prog Rows.topDetectsRow.laid W) : TW Tryz.prog W :=
  ⟨Lib.tabIs_of_head (rest := Rows.topDetectsRow.laid.drop 3) (g := 2) (t := 310) (e := 41) (n := 20) (by kernel_rfl) (by kernel_rfl) (by kernel_rfl) (by kernel_rfl) (by kernel_rfl) (by kernel_rfl) h.tail.tail,
    Jct (g := 8) (ti := 168) (ms := #[("Error", 171)]) h.tail.tail.tail.tail.tail (by kernel_rfl) (by kernel_rfl) (by kernel_rfl), Jct (g := 9) (ti := 168) (ms := #[("Error", 171)]) h.tail.tail.tail.tail (by kernel_rfl) (by kernel_rfl) (by kernel_rfl)⟩
set_option maxRecDepth 100000 in
theorem contract (H : Type) (enc : TypeId × Value → H) (W : World) (base : Nat) (args : Array Value) (ds gs : List (DataW H)) (before : List MemPlace)
    (hval : ∀ (j : Nat) t v, Tryz.f7.params[j]? = some t → args[j]? = some v → Value.okWide Tryz.prog W .any base t v)
    (hW : DataW.Whole enc Tryz.prog Tryz.f7.params.toList Rows.topDetectsSpec.vars false W args.toList ds gs before)
    (hsz : (DataW.weightsEach Tryz.prog (Tryz.f7.params.toList ++ Rows.topDetectsSpec.plain.varTypes Tryz.prog) (ds ++ gs)).all (· ≤ reachBytes) = true)
    (hl : laidMetH Tryz.prog Rows.topDetectsRow.laid W) :
    Calls Tryz.prog 7 args W fun e W' => ∃ v, e = .returned v ∧ Rows.topDetectsSpec.post enc Tryz.prog Tryz.f7 false true false false W args v W' := by
  rw [MakeChecks.laidMetH_plain _ _ _ (by kernel_rfl)] at hl
  exact Jgt (t := 4) (k := 7) (Rows.uptoBulkAll (ds ++ gs)) Jo5 (by kernel_rfl) rfl shape (by kernel_rfl) (by kernel_rfl) W base args ds gs before hval hW (fun n hn h => Jdx W (tw hl) args n (.inr trivial) h) (Nat.le_refl _) hsz
set_option maxRecDepth 100000 in
theorem lifted (os : Os) (started : os.Started) (H : Type) (enc : TypeId × Value → H) :
    ReturnsInHanded {} Tryz.checked os 7 .any (fun w args => (Rows.topDetectsSpec.pre enc Tryz.prog Tryz.f7 Rows.topDetectsRow.domain false w args ∧ laidMetH Tryz.prog Rows.topDetectsRow.laid w) ∧ sizedMet enc Tryz.prog Tryz.f7 (OpenSpec.ofChange Rows.topDetectsSpec) false w args)
      (Rows.topDetectsSpec.post enc Tryz.prog Tryz.f7 false true false false) := by
  refine returnsInHanded_of_change_and (C := Tryz.checked) (X := fun w _ => laidMetH Tryz.prog Rows.topDetectsRow.laid w) (fun _ _ _ hh h => h.of_heap hh) own started (by kernel_rfl) Tryz.func7
    (ChangeSpec.witness_shaped (enc := enc) (C := Tryz.checked) (os := os) (X := fun w _ => laidMetH Tryz.prog Rows.topDetectsRow.laid w) false (World.laidAll Tryz.prog os Rows.topDetectsRow.laid) #[.agg #[.string ⟨#[]⟩, .int .u64 0, .int .i64 0, .int .u64 0, .int .u64 0, .int .i64 0, .slice none 0 0, .int .i64 0], .slice none 0 0, .agg #[.int .i64 0, .int .u64 0, .int .u64 0, .int .i64 0, .string ⟨#[]⟩, .slice none 0 0, .slice none 0 0], .agg #[.int .i64 0, .int .u64 0, .int .u64 0, .int .i64 0, .string ⟨#[]⟩, .slice none 0 0, .slice none 0 0]] 8 (World.laidAll_os _ _ _)
      (World.shaped_of_ZipB (by kernel_rfl) (by kernel_rfl)) (by kernel_rfl) (by kernel_rfl) (by kernel_rfl)
      (by rw [MakeChecks.laidMetH_plain _ _ _ (by kernel_rfl)]; exact laidMet_laidAll _ (by kernel_rfl) (by kernel_rfl))) ?_
  intro W base args ds gs before hval hW _ hsz hl _
  exact contract H enc W base args ds gs before hval hW hsz hl
theorem j1 : (Rows.topDetectsRow.inPlace == Tryz.pinned.checked.prog.inPlace 7) = true := by kernel_rfl
theorem j2 : (Rows.topDetectsRow.unfollowed == Tryz.pinned.checked.prog.unfollowed 7) = true := by kernel_rfl
theorem j3 : (Rows.topDetectsRow.recurses == Tryz.pinned.checked.prog.recurses 7) = true := by kernel_rfl
theorem j4 : (Rows.topDetectsRow.named == Tryz.pinned.checked.prog.varsNamed 7) = true := by kernel_rfl
theorem said : Rows.TopDetectsSaid :=
  OpenClaim.holds_of_wide 7 Tryz.f7 rfl rfl rfl rfl rfl rfl rfl ⟨rfl, rfl, rfl, rfl, rfl⟩ rfl rfl rfl rfl rfl (by kernel_rfl) Tryz.func7 (by unfold joinedFacts; rw [j1, j2, j3, j4]; kernel_rfl)
    (of_decide_eq_true (by kernel_rfl)) (by unfold Func.isWrapper; first | (rw [if_pos (by decide +kernel)]; kernel_rfl) | (rw [if_neg (by decide +kernel)]; exact ⟨rfl, rfl⟩))
    (fun os started H enc _ => lifted os started H enc)
theorem proved : Rows.TopDetectsCardSaid :=
  Claim7.holds_tied_plain_at .later [] [.data, .data, .data, .data, .sentinel, .sentinel, .pinned] true (true, "dd33d26b6b3eb79caf48a6432f4c3a990ceda0ae2953cfd55ec02fa530d7fbd7") true said (fun _ h => by cases h) (by kernel_rfl) (fun _ h => by cases h) topDetects_row_tie rfl ⟨rfl, rfl⟩ (by kernel_rfl) rfl
    (fun f fn hf hfn => by
      obtain rfl : f = 7 := Option.some.inj ((show Tryz.prog.funcNamed "tallyroll/tallyrolltop.TopDetects" = some 7 by kernel_rfl).symm.trans hf) |>.symm
      obtain rfl : fn = Tryz.f7 := (Option.some.inj (Tryz.func7.symm.trans hfn)).symm
      exact ⟨by kernel_rfl, fun j t ht => by
        rw [show Tryz.f7.params = #[76, 40, 49, 49] from rfl] at ht
        have hm : t ∈ [76, 40, 49, 49] := by simpa using Array.mem_of_getElem? ht
        have hall : ([76, 40, 49, 49].all fun u => !Tryz.prog.wantsStandIn u) = true := by kernel_rfl
        exact (show Tryz.prog.wantsStandIn t = false by simpa using List.all_eq_true.1 hall t hm)⟩)
    (by kernel_rfl)
end Go.Proofs.YteaampgpgokjmaaGreatDoor.lawTopDetects
