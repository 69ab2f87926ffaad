/- The law ChainBinds is proved: for every input the call returns true and each argument reads afterwards as before. Conditions: those of the given row alone. -/
import Derived.Test.YtmpakffajpnffaaKbBinds
set_option linter.unusedVariables false
set_option linter.unusedSimpArgs false
namespace Go.Proofs.Ytmpakffajpnffaa
open Go.Tx
theorem lawChainBinds_con (G : Mem) (args : Array Value) (n : Nat) (h : RdA Try.prog G Try.f3.params.toList args.toList n) : Con Try.prog 3 args G [] (fun u _ _ => u = Bo true) := by
  rw [show Try.f3.params.toList = [22, 22] from rfl] at h
  obtain ⟨v0, vs0, m0, r0, e0, hm0, h0, h⟩ := h
  obtain ⟨v1, vs1, m1, r1, e1, hm1, h1, h⟩ := h
  have h : vs1 = [] := h
  subst h
  subst e1
  obtain rfl : args = #[v0, v1] := by cases args; simp_all
  have k0 := h0.one (.sl 22) (by kernel_rfl) (by kernel_rfl)
  obtain ⟨a0, c0, x0, rfl, hs0, _, hcap0⟩ := rd_slice (E := EHead) (e := 31) (size := fun _ => 0) k0 (by kernel_rfl) (by kernel_rfl) (fun cs m h => o_EHead h) (by decide +kernel) (by kernel_rfl) (by kernel_rfl)
  have k1 := h1.one (.sl 22) (by kernel_rfl) (by kernel_rfl)
  obtain ⟨a1, c1, x1, rfl, hs1, _, hcap1⟩ := rd_slice (E := EHead) (e := 31) (size := fun _ => 0) k1 (by kernel_rfl) (by kernel_rfl) (fun cs m h => o_EHead h) (by decide +kernel) (by kernel_rfl) (by kernel_rfl)
  exact chainBinds_con G a0 c0 x0 hs0 a1 c1 x1 hs1 (Nat.le_trans (Nat.mul_le_mul_right _ hs0.le) hcap0) (Nat.le_trans (Nat.mul_le_mul_right _ hs1.le) hcap1)
end Go.Proofs.Ytmpakffajpnffaa
namespace Go.Proofs.Ytmpakffajpnffaa.lawChainBinds
open Go.Tx Go.ChangeShapes Go.WideShapes Go.ChangeAt Go.RowKit Go.Proofs.Ytmpakffajpnffaa
theorem shape {H : Type} : ∀ ds : List (DataW H), ds.length = Try.f3.params.toList.length → Rows.chainBindsSpec.fn H ds = { results := [.lit (.bool true)], args := ds }
  | [d0, d1], _ => rfl
  | [], h => by simp [Try.f3] at h
  | [_], h => by simp [Try.f3] at h
  | _ :: _ :: _ :: _, h => by simp [Try.f3] at h
set_option maxRecDepth 100000 in
theorem contract (H : Type) (enc : TypeId × Value → H) (W : World) (base : Nat) (args : Array Value) (ds gs : List (DataW H)) (before : List MemPlace)
    (hval : ∀ (j : Nat) t v, Try.f3.params[j]? = some t → args[j]? = some v → Value.okWide Try.prog W .any base t v)
    (hW : DataW.Whole enc Try.prog Try.f3.params.toList Rows.chainBindsSpec.vars false W args.toList ds gs before)
    (hsz : (DataW.weightsEach Try.prog (Try.f3.params.toList ++ Rows.chainBindsSpec.plain.varTypes Try.prog) (ds ++ gs)).all (· ≤ reachBytes) = true) :
    Calls Try.prog 3 args W fun e W' => ∃ v, e = .returned v ∧ Rows.chainBindsSpec.post enc Try.prog Try.f3 false true false false W args v W' :=
  law_contract (t := 4) (Rows.uptoBulkAll (ds ++ gs)) laidOut (by kernel_rfl) rfl shape (by kernel_rfl) (by kernel_rfl) (fun G args n hn h => lawChainBinds_con G args n h) W base args ds gs before hval hW (Nat.le_refl _) hsz
set_option maxRecDepth 100000 in
theorem lifted (os : Os) (started : os.Started) (H : Type) (enc : TypeId × Value → H) :
    ReturnsInHanded {} Try.checked os 3 .any (Rows.chainBindsSpec.pre6 enc Try.prog Try.f3 Rows.chainBindsRow.domain false) (Rows.chainBindsSpec.post enc Try.prog Try.f3 false true false false) := by
  refine returnsInHanded_of_change_sized (C := Try.checked) own started (by kernel_rfl) Try.func3
    (ChangeSpec.witness6 (enc := enc) (C := Try.checked) false ⟨#[], #[.slice none 0 0, .slice none 0 0], []⟩ 8 (by kernel_rfl) (by kernel_rfl) (by kernel_rfl) (by kernel_rfl)) ?_
  intro W base args ds gs before hval hW _ hsz _
  exact contract H enc W base args ds gs before hval hW hsz
theorem proved : Rows.ChainBindsSaid :=
  OpenClaim.holds_of_wide 3 Try.f3 rfl rfl rfl rfl rfl rfl rfl ⟨rfl, rfl, rfl, rfl, rfl⟩ rfl rfl rfl rfl rfl (by kernel_rfl) Try.func3 (by kernel_rfl)
    (of_decide_eq_true (by kernel_rfl)) (by unfold Func.isWrapper; first | (rw [if_pos (by decide +kernel)]; kernel_rfl) | (rw [if_neg (by decide +kernel)]; exact ⟨rfl, rfl⟩))
    (fun os started H enc _ => lifted os started H enc)
end Go.Proofs.Ytmpakffajpnffaa.lawChainBinds
