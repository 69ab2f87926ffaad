/- The law PathSorts is proved: for every input the call returns true and each argument reads afterwards as before. Conditions: those of the given row alone. -/
import Derived.Test.YtmpakffajpnffaaPSort
set_option linter.unusedVariables false
set_option linter.unusedSimpArgs false
namespace Go.Proofs.Ytmpakffajpnffaa
open Go.Tx
theorem lawPathSorts_con (G : Mem) (args : Array Value) (n : Nat) (h : RdA Try.prog G Try.f5.params.toList args.toList n) : Con Try.prog 5 args G [] (fun u _ _ => u = Bo true) := by
  rw [show Try.f5.params.toList = [52] from rfl] at h
  obtain ⟨v0, vs0, m0, r0, e0, hm0, h0, h⟩ := h
  have h : vs0 = [] := h
  subst h
  obtain rfl : args = #[v0] := by cases args; simp_all
  have k0 := h0.one (.sl 52) (by kernel_rfl) (by kernel_rfl)
  obtain ⟨a0, c0, x0, rfl, hs0, _, hcap0⟩ := rd_slice (E := ES) (e := 9) (size := fun _ => 0) k0 (by kernel_rfl) (by kernel_rfl) (fun cs m h => o_ES h) (by decide +kernel) (by kernel_rfl) (by kernel_rfl)
  exact pathSorts_con G a0 c0 x0 hs0 (Nat.le_trans (Nat.mul_le_mul_right _ hs0.le) hcap0)
end Go.Proofs.Ytmpakffajpnffaa
namespace Go.Proofs.Ytmpakffajpnffaa.lawPathSorts
open Go.Tx Go.ChangeShapes Go.WideShapes Go.ChangeAt Go.RowKit Go.Proofs.Ytmpakffajpnffaa

theorem shape {H : Type} : ∀ ds : List (DataW H), ds.length = Try.f5.params.toList.length → Rows.pathSortsSpec.fn H ds = { results := [.lit (.bool true)], args := ds }
  | [d0], _ => rfl
  | [], h => by simp [Try.f5] at h
  | _ :: _ :: _, h => by simp [Try.f5] at h

set_option maxRecDepth 100000 in
theorem contract (H : Type) (enc : TypeId × Value → H) (W : World) (base : Nat) (args : Array Value) (ds gs : List (DataW H)) (before : List MemPlace)
    (hval : ∀ (j : Nat) t v, Try.f5.params[j]? = some t → args[j]? = some v → Value.okWide Try.prog W .any base t v)
    (hW : DataW.Whole enc Try.prog Try.f5.params.toList Rows.pathSortsSpec.vars false W args.toList ds gs before)
    (hsz : (DataW.weightsEach Try.prog (Try.f5.params.toList ++ Rows.pathSortsSpec.plain.varTypes Try.prog) (ds ++ gs)).all (· ≤ reachBytes) = true) :
    Calls Try.prog 5 args W fun e W' => ∃ v, e = .returned v ∧ Rows.pathSortsSpec.post enc Try.prog Try.f5 false true false false W args v W' :=
  law_contract (t := 4) (Rows.uptoBulkAll (ds ++ gs)) laidOut (by kernel_rfl) rfl shape (by kernel_rfl) (by kernel_rfl) (fun G args n hn h => lawPathSorts_con G args n h) W base args ds gs before hval hW (Nat.le_refl _) hsz

set_option maxRecDepth 100000 in
theorem lifted (os : Os) (started : os.Started) (H : Type) (enc : TypeId × Value → H) :
    ReturnsInHanded {} Try.checked os 5 .any (Rows.pathSortsSpec.pre6 enc Try.prog Try.f5 Rows.pathSortsRow.domain false) (Rows.pathSortsSpec.post enc Try.prog Try.f5 false true false false) := by
  refine returnsInHanded_of_change_sized (C := Try.checked) own started (by kernel_rfl) Try.func5
    (ChangeSpec.witness6 (enc := enc) (C := Try.checked) false ⟨#[], #[.slice none 0 0], []⟩ 8 (by kernel_rfl) (by kernel_rfl) (by kernel_rfl) (by kernel_rfl)) ?_
  intro W base args ds gs before hval hW _ hsz _
  exact contract H enc W base args ds gs before hval hW hsz

theorem proved : Rows.PathSortsSaid :=
  OpenClaim.holds_of_wide 5 Try.f5 rfl rfl rfl rfl rfl rfl rfl ⟨rfl, rfl, rfl, rfl, rfl⟩ rfl rfl rfl rfl rfl (by kernel_rfl) Try.func5 (by kernel_rfl)
    (of_decide_eq_true (by kernel_rfl)) (by unfold Func.isWrapper; first | (rw [if_pos (by decide +kernel)]; kernel_rfl) | (rw [if_neg (by decide +kernel)]; exact ⟨rfl, rfl⟩))
    (fun os started H enc _ => lifted os started H enc)
end Go.Proofs.Ytmpakffajpnffaa.lawPathSorts
