/- The law DeskAsks is proved: for every input the call returns true and each argument reads afterwards as before. Conditions: those of the given row, among them the two listed tables of package utf8, tied by the given tie (the code that is walked does not read them). -/
import Derived.Test.YteaampgpgokjmaaGreatDoorCards
import Derived.Test.YteaampgpgokjmaaGreatDoorTie
import Derived.Lay
import Derived.LaidMore
import Derived.Deep.DeepHandedRow
import Derived.SevenTiedAt
import Derived.Handed
import Derived.Stop.Joined
import Derived.Test.YteaampgpgokjmaaGreatDoorTmF
set_option linter.unusedVariables false
set_option linter.unusedSimpArgs false
namespace Go.Proofs.YteaampgpgokjmaaGreatDoor
open Go.Tx Go.RowKit
theorem o_ESl {G : J5} {cs : List Value} {m : Nat} (h : RdL Tryz.prog G [.str] cs m) : ∃ x, ES.R G cs x ∧ x.length ≤ m := by
  obtain ⟨_, c0, m1, m2, rfl, hm, k0, h⟩ := h
  obtain ⟨x0, rfl, w0, u0⟩ := k0
  have h : c0 = [] := h
  subst h
  exact ⟨x0, ⟨rfl, w0⟩, by omega⟩
theorem le_sum_of {l : List (List UInt8)} {y : List UInt8} (h : y ∈ l) : y.length ≤ (l.map List.length).sum := by
  induction l with
  | nil => cases h
  | cons x l ih =>
    rcases List.mem_cons.1 h with rfl | h
    · simp
    · have := ih h; simp; omega
theorem Jfd (W : World) (hT : TW Tryz.prog W) (args : Array Value) (n : Nat) (hn_ : n ≤ 1048576) (h : RdA Tryz.prog (JbT W) Tryz.f4.params.toList args.toList n) : Calls Tryz.prog 4 args W fun e W' => e = .returned (.bool true) ∧ Below W.heap.size W W' := by
  rw [show Tryz.f4.params.toList = [22, 9, 3] from rfl] at h
  obtain ⟨v0, vs0, m0, r0, e0, hm0, h0, h⟩ := h
  obtain ⟨v1, vs1, m1, r1, e1, hm1, h1, h⟩ := h
  obtain ⟨v2, vs2, m2, r2, e2, hm2, h2, h⟩ := h
  have h : vs2 = [] := h
  subst h
  subst e2
  subst e1
  obtain rfl : args = #[v0, v1, v2] := by cases args; simp_all
  have k0 := h0.one (.sl 22) (by kernel_rfl) (by kernel_rfl)
  obtain ⟨a0, c0, x0, rfl, hs0, hz0, hcap0⟩ := JnT (E := ES) (e := 9) (size := List.length) k0 (by kernel_rfl) (by kernel_rfl) (fun cs m h => o_ESl h) (by decide +kernel) (by kernel_rfl) (by kernel_rfl)
  obtain ⟨x1, rfl, w1, u1⟩ := h1.one .str (by kernel_rfl) (by kernel_rfl)
  obtain ⟨x2, rfl, w2⟩ := h2.one (.int .i64) (by kernel_rfl) (by kernel_rfl)
  exact Jlc hT ((Jiu (JbT W) a0 c0 x0 hs0 x1 w1 x2 (wf_i64 w2) (fun y hy => by have q_ := le_sum_of hy; omega) (by omega)).mono (fun _ _ _ h => h.2.1) (fun _ _ _ h => h))
end Go.Proofs.YteaampgpgokjmaaGreatDoor
namespace Go.Proofs.YteaampgpgokjmaaGreatDoor.lawDeskAsks
open Go.Tx Go.ChangeShapes Go.WideShapes Go.ChangeAt Go.RowKit Go.Proofs.YteaampgpgokjmaaGreatDoor
theorem shape {H : Type} : ∀ ds : List (DataW H), ds.length = Tryz.f4.params.toList.length → Rows.deskAsksSpec.fn H ds = { results := [.lit (.bool true)], args := ds }
  | [d0, d1, d2], _ => rfl
  | [], h => by simp [Tryz.f4] at h
  | [_], h => by simp [Tryz.f4] at h
  | [_, _], h => by simp [Tryz.f4] at h
  | _ :: _ :: _ :: _ :: _, h => by simp [Tryz.f4] at h
theorem tw {W : World} (h : laidMet Tryz.prog Rows.deskAsksUptoRow.laid W) : TW Tryz.prog W :=
  ⟨Lib.tabIs_of_head (rest := Rows.deskAsksUptoRow.laid.drop 3) (g := 2) (t := 310) (e := 41) (n := 20) (by kernel_rfl) (by kernel_rfl) (by kernel_rfl) (by kernel_rfl) (by kernel_rfl) (by kernel_rfl) h.tail.tail,
    JcU (g := 8) (ti := 168) (ms := #[("Error", 171)]) h.tail.tail.tail.tail.tail (by kernel_rfl) (by kernel_rfl) (by kernel_rfl), JcU (g := 9) (ti := 168) (ms := #[("Error", 171)]) h.tail.tail.tail.tail (by kernel_rfl) (by kernel_rfl) (by kernel_rfl)⟩
set_option maxRecDepth 100000 in
theorem contract (H : Type) (enc : TypeId × Value → H) (W : World) (base : Nat) (args : Array Value) (ds gs : List (DataW H)) (before : List MemPlace)
    (hval : ∀ (j : Nat) t v, Tryz.f4.params[j]? = some t → args[j]? = some v → Value.okWide Tryz.prog W .any base t v)
    (hW : DataW.Whole enc Tryz.prog Tryz.f4.params.toList Rows.deskAsksSpec.vars false W args.toList ds gs before)
    (hsz : (DataW.weightsEach Tryz.prog (Tryz.f4.params.toList ++ Rows.deskAsksSpec.plain.varTypes Tryz.prog) (ds ++ gs)).all (· ≤ reachBytes) = true)
    (hk : Rows.uptoBulkAll (ds ++ gs) ≤ 1048576) (hl : laidMetH Tryz.prog Rows.deskAsksUptoRow.laid W) :
    Calls Tryz.prog 4 args W fun e W' => ∃ v, e = .returned v ∧ Rows.deskAsksSpec.post enc Tryz.prog Tryz.f4 false true false false W args v W' := by
  rw [MakeChecks.laidMetH_plain _ _ _ (by kernel_rfl)] at hl
  exact Jg3 (t := 4) (k := 4) 1048576 JpH (by kernel_rfl) rfl shape (by kernel_rfl) (by kernel_rfl) W base args ds gs before hval hW (fun n hn h => Jfd W (tw hl) args n hn h) hk hsz
set_option maxRecDepth 100000 in
theorem lifted (os : Os) (started : os.Started) (H : Type) (enc : TypeId × Value → H) (F : Stop.Interp) :
    ReturnsInHanded {} Tryz.checked os 4 .any ((Rows.OpenSpec.upto Rows.deskAsksSpec).preRow enc Tryz.prog Tryz.f4 Rows.deskAsksUptoRow.domain false Rows.deskAsksUptoRow.laid) (((Rows.OpenSpec.upto Rows.deskAsksSpec).at F).post enc Tryz.prog Tryz.f4 false true false false) := by
  refine returnsInHanded_of_row (C := Tryz.checked) (s := Rows.OpenSpec.upto Rows.deskAsksSpec) own started (by kernel_rfl) Tryz.func4
    (witness_row_at (enc := enc) (C := Tryz.checked) false (World.laidAll Tryz.prog os Rows.deskAsksUptoRow.laid) #[.slice none 0 0, .string ⟨#[]⟩, .int .i64 0] (World.laidAll_os _ _ _) (by kernel_rfl) (by kernel_rfl) (by kernel_rfl)
      (OpenSpec.preRow_of_cond (x := ([.nil, .lit (.string []), .lit (.int .i64 0)], [], [])) 8 (by kernel_rfl) (by kernel_rfl) (fun k hk => by cases hk; kernel_rfl) (by kernel_rfl)
        (by rw [MakeChecks.laidMetH_plain _ _ _ (by kernel_rfl)]; exact laidMet_laidAll _ (by kernel_rfl) (by kernel_rfl)))) ?_
  intro W base args ds gs before hval hW _ hk hsz hl _ _
  exact contract H enc W base args ds gs before hval hW hsz (of_decide_eq_true (hk _ rfl)) hl
theorem j1 : (Rows.deskAsksUptoRow.inPlace == Tryz.pinned.checked.prog.inPlace 4) = true := by kernel_rfl
theorem j2 : (Rows.deskAsksUptoRow.unfollowed == Tryz.pinned.checked.prog.unfollowed 4) = true := by kernel_rfl
theorem j3 : (Rows.deskAsksUptoRow.recurses == Tryz.pinned.checked.prog.recurses 4) = true := by kernel_rfl
theorem j4 : (Rows.deskAsksUptoRow.named == Tryz.pinned.checked.prog.varsNamed 4) = true := by kernel_rfl
theorem said : Rows.DeskAsksUptoSaid :=
  OpenClaim.holds_of_cond 4 Tryz.f4 rfl rfl rfl rfl rfl rfl rfl ⟨rfl, rfl, rfl, rfl, rfl⟩ rfl rfl rfl rfl rfl (by kernel_rfl) Tryz.func4 (by unfold joinedFacts; rw [j1, j2, j3, j4]; kernel_rfl)
    (of_decide_eq_true (by kernel_rfl)) (by unfold Func.isWrapper; first | (rw [if_pos (by decide +kernel)]; kernel_rfl) | (rw [if_neg (by decide +kernel)]; exact ⟨rfl, rfl⟩))
    (fun os started H enc _ F => by rw [OpenClaim.pre_eq_preRow]; exact lifted os started H enc F)
theorem proved : Rows.DeskAsksUptoCardSaid :=
  Claim7.holds_tied_plain_at .later [] [.data, .data, .data, .data, .sentinel, .sentinel, .pinned] true (true, "dd33d26b6b3eb79caf48a6432f4c3a990ceda0ae2953cfd55ec02fa530d7fbd7") true said (fun _ h => by cases h) (by kernel_rfl) (fun _ h => by cases h) deskAsksUpto_row_tie rfl ⟨rfl, rfl⟩ (by kernel_rfl) rfl
    (fun f fn hf hfn => by
      obtain rfl : f = 4 := Option.some.inj ((show Tryz.prog.funcNamed "tallyroll/tallyrollkeep.DeskAsks" = some 4 by kernel_rfl).symm.trans hf) |>.symm
      obtain rfl : fn = Tryz.f4 := (Option.some.inj (Tryz.func4.symm.trans hfn)).symm
      exact ⟨by kernel_rfl, fun j t ht => by
        rw [show Tryz.f4.params = #[22, 9, 3] from rfl] at ht
        have hm : t ∈ [22, 9, 3] := by simpa using Array.mem_of_getElem? ht
        have hall : ([22, 9, 3].all fun u => !Tryz.prog.wantsStandIn u) = true := by kernel_rfl
        exact (show Tryz.prog.wantsStandIn t = false by simpa using List.all_eq_true.1 hall t hm)⟩)
    (by kernel_rfl)
end Go.Proofs.YteaampgpgokjmaaGreatDoor.lawDeskAsks
