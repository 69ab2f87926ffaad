/- The law SideSame is proved: for every input the call returns true and each argument reads afterwards as before. Conditions: those of the given row, among them the two listed tables of package utf8, tied by the given tie (the code that is walked does not read them). -/
import Derived.Test.YtngoijkcbmchdaaGreatDoorCards
import Derived.Test.YtngoijkcbmchdaaGreatDoorTie
import Derived.Lay
import Derived.LaidMore
import Derived.SevenTiedAt
import Derived.Handed
import Derived.Stop.Joined
import Derived.Conc.Holds
import Derived.Test.YtngoijkcbmchdaaGreatDoorSides
set_option linter.unusedVariables false
set_option linter.unusedSimpArgs false
namespace Go.Proofs.YtngoijkcbmchdaaGreatDoor
open Go.Tx
theorem lawSideSame_con (B0 : Nat) (G : Mem) (args : Array Value) (n : Nat) (h : RdA Tryz.prog G Tryz.f3.params.toList args.toList n) : TopA Tryz.prog B0 3 args G (fun v G' => v = Bo true) := by
  rw [show Tryz.f3.params.toList = [22, 23, 3, 3] from rfl] at h
  obtain ⟨v0, vs0, m0, r0, e0, hm0, h0, h⟩ := h
  obtain ⟨v1, vs1, m1, r1, e1, hm1, h1, h⟩ := h
  obtain ⟨v2, vs2, m2, r2, e2, hm2, h2, h⟩ := h
  obtain ⟨v3, vs3, m3, r3, e3, hm3, h3, h⟩ := h
  have h : vs3 = [] := h
  subst h
  subst e3
  subst e2
  subst e1
  obtain rfl : args = #[v0, v1, v2, v3] := by cases args; simp_all
  have k0 := h0.one (.sl 22) (by kernel_rfl) (by kernel_rfl)
  obtain ⟨a0, c0, x0, rfl, hs0, _, hcap0⟩ := rd_slice (E := ESlEnt) (e := 41) (size := fun _ => 0) k0 (by kernel_rfl) (by kernel_rfl) (fun cs m h => o_ESlEnt h) (by decide +kernel) (by kernel_rfl) (by kernel_rfl)
  have k1 := h1.one (.sl 23) (by kernel_rfl) (by kernel_rfl)
  obtain ⟨a1, c1, x1, rfl, hs1, _, hcap1⟩ := rd_slice (E := EReply) (e := 54) (size := fun _ => 0) k1 (by kernel_rfl) (by kernel_rfl) (fun cs m h => o_EReply h) (by decide +kernel) (by kernel_rfl) (by kernel_rfl)
  obtain ⟨x2, rfl, w2⟩ := h2.one (.int .i64) (by kernel_rfl) (by kernel_rfl)
  obtain ⟨x3, rfl, w3⟩ := h3.one (.int .i64) (by kernel_rfl) (by kernel_rfl)
  exact sideSame_top G a0 c0 x0 hs0 a1 c1 x1 hs1 x2 x3
end Go.Proofs.YtngoijkcbmchdaaGreatDoor
namespace Go.Proofs.YtngoijkcbmchdaaGreatDoor.lawSideSame
open Go.Tx Go.ChangeShapes Go.WideShapes Go.ChangeAt Go.RowKit Go.Proofs.YtngoijkcbmchdaaGreatDoor

theorem shape {H : Type} : ∀ ds : List (DataW H), ds.length = Tryz.f3.params.toList.length → Rows.sideSameSpec.fn H ds = { results := [.lit (.bool true)], args := ds }
  | [d0, d1, d2, d3], _ => rfl
  | [], h => by simp [Tryz.f3] at h
  | [_], h => by simp [Tryz.f3] at h
  | [_, _], h => by simp [Tryz.f3] at h
  | [_, _, _], h => by simp [Tryz.f3] at h
  | _ :: _ :: _ :: _ :: _ :: _, h => by simp [Tryz.f3] at h

set_option maxRecDepth 100000 in
theorem lifted (os : Os) (started : os.Started) (H : Type) (enc : TypeId × Value → H) :
    ReturnsInLeavingWide {} Tryz.checked os 3 .any (fun w args => (Rows.sideSameSpec.pre enc Tryz.prog Tryz.f3 Rows.sideSameRow.domain false w args ∧ laidMetH Tryz.prog Rows.sideSameRow.laid w) ∧ sizedMet enc Tryz.prog Tryz.f3 (OpenSpec.ofChange Rows.sideSameSpec) false w args)
      (Rows.sideSameSpec.post enc Tryz.prog Tryz.f3 false true false false) := by
  refine returnsInLeavingWide_of_good (C := Tryz.checked) own started
    (ChangeSpec.witness_shaped (enc := enc) (C := Tryz.checked) (os := os) (X := fun w _ => laidMetH Tryz.prog Rows.sideSameRow.laid w) false (World.laidAll Tryz.prog os Rows.sideSameRow.laid) #[.slice none 0 0, .slice none 0 0, .int .i64 0, .int .i64 0] 8 (World.laidAll_os _ _ _)
      (World.shaped_of_ZipB (by kernel_rfl) (by kernel_rfl)) (by kernel_rfl) (by kernel_rfl) (by kernel_rfl)
      (by rw [MakeChecks.laidMetH_plain _ _ _ (by kernel_rfl)]; exact laidMet_laidAll _ (by kernel_rfl) (by kernel_rfl))) ?_
  intro w tape i _ _ _ hok hpre _
  obtain ⟨_, _, _, fn', hfn', _, _, _, _, hval⟩ := hok
  obtain rfl : fn' = Tryz.f3 := Option.some.inj (hfn'.symm.trans Tryz.func3)
  obtain ⟨⟨⟨ds, gs, before, hw, hc⟩, _⟩, hz⟩ := hpre
  have hw' := DataW.Whole.of_heap (w' := w.forCall tape i) (by rfl) hw
  obtain ⟨M, last, o, w', t', h1, h2, h3, h4⟩ := law_company (H := H) (enc := enc) (P := Tryz.prog) (f := Tryz.f3) (k := 3) (s := Rows.sideSameSpec) (t := 4) (fresh := true) (handsOn := false) (again := false) laidOut (by kernel_rfl) rfl shape (by kernel_rfl) (by kernel_rfl)
    (fun B0 G args n h => lawSideSame_con B0 G args n h) (w.forCall tape i) w.heap.size i.args ds gs before hval hw' (hz.weights hw)
  exact ⟨M, last, o, w', t', h1, h2, h3, h4.mono fun v hp => ChangeSpec.post_blind hp⟩

theorem said : Rows.SideSameSaid :=
  OpenClaim.holds_of_wide_leaving 3 Tryz.f3 rfl rfl rfl rfl rfl rfl rfl ⟨rfl, rfl, rfl, rfl, rfl⟩ rfl rfl rfl rfl rfl (by kernel_rfl) Tryz.func3 (by kernel_rfl)
    (of_decide_eq_true (by kernel_rfl)) (by unfold Func.isWrapper; first | (rw [if_pos (by decide +kernel)]; kernel_rfl) | (rw [if_neg (by decide +kernel)]; exact ⟨rfl, rfl⟩))
    (fun os started H enc _ => lifted os started H enc)

theorem proved : Rows.SideSameCardSaid := by
  have hl : ∀ f fn, Tryz.pinned.checked.prog.funcNamed Rows.sideSameRow.func = some f → Tryz.pinned.checked.prog.funcs[f]? = some fn → false = Tryz.pinned.checked.prog.looks [] ∧ ∀ (j : Nat) t, fn.params[j]? = some t → Tryz.pinned.checked.prog.wantsStandIn t = false := fun f fn hf hfn => by
    obtain rfl : f = 3 := Option.some.inj ((show Tryz.prog.funcNamed "tallyroll/tallyrollkeep.SideSame" = some 3 by kernel_rfl).symm.trans hf) |>.symm
    obtain rfl : fn = Tryz.f3 := (Option.some.inj (Tryz.func3.symm.trans hfn)).symm
    exact ⟨by kernel_rfl, fun j t ht => by
      rw [show Tryz.f3.params = #[22, 23, 3, 3] from rfl] at ht
      have hm : t ∈ [22, 23, 3, 3] := by simpa using Array.mem_of_getElem? ht
      have hall : ([22, 23, 3, 3].all fun u => !Tryz.prog.wantsStandIn u) = true := by kernel_rfl
      exact (show Tryz.prog.wantsStandIn t = false by simpa using List.all_eq_true.1 hall t hm)⟩
  have h6 : Claim7.isSixth { stood := { row := Rows.sideSameRow, standIns := [], harness := (true, "0ff428265fdd404c5d806802767dfb0332e455fe860778523055ee45556f6fc8"), looks := false }, kinds := [] } = false := by
    simp [Claim7.isSixth]
  have hnew := Claim7.tied_new_at .later [.data, .pinned] true (Claim7.new_of_sixth said (true, "0ff428265fdd404c5d806802767dfb0332e455fe860778523055ee45556f6fc8") false rfl ⟨rfl, rfl⟩ (by kernel_rfl) h6 hl) (by kernel_rfl)
  exact ⟨hnew, fun D hD => (by cases hD), sideSame_row_tie, (fun h => by cases h), by kernel_rfl⟩
end Go.Proofs.YtngoijkcbmchdaaGreatDoor.lawSideSame
