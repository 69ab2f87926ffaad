import Derived.Test.YtgcnkcajfjpbcaaMarkJoins
set_option linter.unusedVariables false
set_option linter.unusedSimpArgs false
namespace Go.Proofs.Ytgcnkcajfjpbcaa
open Go.Tx
theorem lawMarkJoins_con (G : Mem) (args : Array Value) (n : Nat) (h : RdA Try.prog G Try.f12.params.toList args.toList n) : Con Try.prog 12 args G [] (fun u _ _ => u = Bo true) := by
  rw [show Try.f12.params.toList = [9, 9] from rfl] at h
  obtain ⟨v0, vs0, m0, r0, e0, hm0, h0, h⟩ := h
  obtain ⟨v1, vs1, m1, r1, e1, hm1, h1, h⟩ := h
  have h : vs1 = [] := h
  subst h
  subst e1
  obtain rfl : args = #[v0, v1] := by cases args; simp_all
  obtain ⟨x0, rfl, w0, u0⟩ := h0.one .str (by kernel_rfl) (by kernel_rfl)
  obtain ⟨x1, rfl, w1, u1⟩ := h1.one .str (by kernel_rfl) (by kernel_rfl)
  exact markJoinsLaw_con x0 x1 (by omega) (by omega) G
end Go.Proofs.Ytgcnkcajfjpbcaa
namespace Go.Proofs.Ytgcnkcajfjpbcaa.lawMarkJoins
open Go.Tx Go.ChangeShapes Go.WideShapes Go.ChangeAt Go.RowKit Go.Proofs.Ytgcnkcajfjpbcaa

theorem shape {H : Type} : ∀ ds : List (DataW H), ds.length = Try.f12.params.toList.length → Rows.markJoinsSpec.fn H ds = { results := [.lit (.bool true)], args := ds }
  | [d0, d1], _ => rfl
  | [], h => by simp [Try.f12] at h
  | [_], h => by simp [Try.f12] at h
  | _ :: _ :: _ :: _, h => by simp [Try.f12] at h

set_option maxRecDepth 100000 in
theorem contract (H : Type) (enc : TypeId × Value → H) (W : World) (base : Nat) (args : Array Value) (ds gs : List (DataW H)) (before : List MemPlace)
    (hval : ∀ (j : Nat) t v, Try.f12.params[j]? = some t → args[j]? = some v → Value.okWide Try.prog W .any base t v)
    (hW : DataW.Whole enc Try.prog Try.f12.params.toList Rows.markJoinsSpec.vars false W args.toList ds gs before)
    (hsz : (DataW.weightsEach Try.prog (Try.f12.params.toList ++ Rows.markJoinsSpec.plain.varTypes Try.prog) (ds ++ gs)).all (· ≤ reachBytes) = true) :
    Calls Try.prog 12 args W fun e W' => ∃ v, e = .returned v ∧ Rows.markJoinsSpec.post enc Try.prog Try.f12 false true false false W args v W' :=
  law_contract (t := 4) (Rows.uptoBulkAll (ds ++ gs)) laidOut (by kernel_rfl) rfl shape (by kernel_rfl) (by kernel_rfl) (fun G args n hn h => lawMarkJoins_con G args n h) W base args ds gs before hval hW (Nat.le_refl _) hsz

set_option maxRecDepth 100000 in
theorem lifted (os : Os) (started : os.Started) (H : Type) (enc : TypeId × Value → H) :
    ReturnsInHanded {} Try.checked os 12 .any (Rows.markJoinsSpec.pre6 enc Try.prog Try.f12 Rows.markJoinsRow.domain false) (Rows.markJoinsSpec.post enc Try.prog Try.f12 false true false false) := by
  refine returnsInHanded_of_change_sized (C := Try.checked) own started (by kernel_rfl) Try.func12
    (ChangeSpec.witness6 (enc := enc) (C := Try.checked) false ⟨#[], #[.string ⟨#[]⟩, .string ⟨#[]⟩], []⟩ 8 (by kernel_rfl) (by kernel_rfl) (by kernel_rfl) (by kernel_rfl)) ?_
  intro W base args ds gs before hval hW _ hsz _
  exact contract H enc W base args ds gs before hval hW hsz

theorem proved : Rows.MarkJoinsSaid :=
  OpenClaim.holds_of_wide 12 Try.f12 rfl rfl rfl rfl rfl rfl rfl ⟨rfl, rfl, rfl, rfl, rfl⟩ rfl rfl rfl rfl rfl (by kernel_rfl) Try.func12 (by kernel_rfl)
    (of_decide_eq_true (by kernel_rfl)) (by unfold Func.isWrapper; first | (rw [if_pos (by decide +kernel)]; kernel_rfl) | (rw [if_neg (by decide +kernel)]; exact ⟨rfl, rfl⟩))
    (fun os started H enc _ => lifted os started H enc)
end Go.Proofs.Ytgcnkcajfjpbcaa.lawMarkJoins
