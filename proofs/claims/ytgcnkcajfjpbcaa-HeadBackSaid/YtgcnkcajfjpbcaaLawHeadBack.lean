import Derived.Test.YtgcnkcajfjpbcaaHead
set_option linter.unusedVariables false
set_option linter.unusedSimpArgs false
namespace Go.Proofs.Ytgcnkcajfjpbcaa
open Go.Tx
theorem lawHeadBack_con (G : Mem) (args : Array Value) (n : Nat) (h : RdA Try.prog G Try.f4.params.toList args.toList n) : Con Try.prog 4 args G [] (fun u _ _ => u = Bo true) := by
  rw [show Try.f4.params.toList = [32, 9] from rfl] at h
  obtain ⟨v0, vs0, m0, r0, e0, hm0, h0, h⟩ := h
  obtain ⟨v1, vs1, m1, r1, e1, hm1, h1, h⟩ := h
  have h : vs1 = [] := h
  subst h
  subst e1
  obtain rfl : args = #[v0, v1] := by cases args; simp_all
  obtain ⟨cs0, rfl, k0⟩ := h0.agg [.int .i64, .int .u64, .int .u64, .int .i64] (by kernel_rfl) (by kernel_rfl)
  obtain ⟨_, c0_0, a0_0, b0_0, rfl, s0_0, ⟨x0_0, rfl, w0_0⟩, k0⟩ := k0
  obtain ⟨_, c0_1, a0_1, b0_1, rfl, s0_1, ⟨x0_1, rfl, w0_1⟩, k0⟩ := k0
  obtain ⟨_, c0_2, a0_2, b0_2, rfl, s0_2, ⟨x0_2, rfl, w0_2⟩, k0⟩ := k0
  obtain ⟨_, c0_3, a0_3, b0_3, rfl, s0_3, ⟨x0_3, rfl, w0_3⟩, k0⟩ := k0
  have k0 : c0_3 = [] := k0
  subst k0
  obtain ⟨x1, rfl, w1, u1⟩ := h1.one .str (by kernel_rfl) (by kernel_rfl)
  exact headBack_con ⟨x0_0, x0_1, x0_2, x0_3⟩ x1 (headW_of w0_0 w0_1 w0_2 w0_3) G
end Go.Proofs.Ytgcnkcajfjpbcaa
namespace Go.Proofs.Ytgcnkcajfjpbcaa.lawHeadBack
open Go.Tx Go.ChangeShapes Go.WideShapes Go.ChangeAt Go.RowKit Go.Proofs.Ytgcnkcajfjpbcaa

theorem shape {H : Type} : ∀ ds : List (DataW H), ds.length = Try.f4.params.toList.length → Rows.headBackSpec.fn H ds = { results := [.lit (.bool true)], args := ds }
  | [d0, d1], _ => rfl
  | [], h => by simp [Try.f4] at h
  | [_], h => by simp [Try.f4] at h
  | _ :: _ :: _ :: _, h => by simp [Try.f4] at h

set_option maxRecDepth 100000 in
theorem contract (H : Type) (enc : TypeId × Value → H) (W : World) (base : Nat) (args : Array Value) (ds gs : List (DataW H)) (before : List MemPlace)
    (hval : ∀ (j : Nat) t v, Try.f4.params[j]? = some t → args[j]? = some v → Value.okWide Try.prog W .any base t v)
    (hW : DataW.Whole enc Try.prog Try.f4.params.toList Rows.headBackSpec.vars false W args.toList ds gs before)
    (hsz : (DataW.weightsEach Try.prog (Try.f4.params.toList ++ Rows.headBackSpec.plain.varTypes Try.prog) (ds ++ gs)).all (· ≤ reachBytes) = true) :
    Calls Try.prog 4 args W fun e W' => ∃ v, e = .returned v ∧ Rows.headBackSpec.post enc Try.prog Try.f4 false true false false W args v W' :=
  law_contract (t := 4) (Rows.uptoBulkAll (ds ++ gs)) laidOut (by kernel_rfl) rfl shape (by kernel_rfl) (by kernel_rfl) (fun G args n hn h => lawHeadBack_con G args n h) W base args ds gs before hval hW (Nat.le_refl _) hsz

set_option maxRecDepth 100000 in
theorem lifted (os : Os) (started : os.Started) (H : Type) (enc : TypeId × Value → H) :
    ReturnsInHanded {} Try.checked os 4 .any (Rows.headBackSpec.pre6 enc Try.prog Try.f4 Rows.headBackRow.domain false) (Rows.headBackSpec.post enc Try.prog Try.f4 false true false false) := by
  refine returnsInHanded_of_change_sized (C := Try.checked) own started (by kernel_rfl) Try.func4
    (ChangeSpec.witness6 (enc := enc) (C := Try.checked) false ⟨#[], #[.agg #[.int .i64 0, .int .u64 0, .int .u64 0, .int .i64 0], .string ⟨#[]⟩], []⟩ 8 (by kernel_rfl) (by kernel_rfl) (by kernel_rfl) (by kernel_rfl)) ?_
  intro W base args ds gs before hval hW _ hsz _
  exact contract H enc W base args ds gs before hval hW hsz

theorem proved : Rows.HeadBackSaid :=
  OpenClaim.holds_of_wide 4 Try.f4 rfl rfl rfl rfl rfl rfl rfl ⟨rfl, rfl, rfl, rfl, rfl⟩ rfl rfl rfl rfl rfl (by kernel_rfl) Try.func4 (by kernel_rfl)
    (of_decide_eq_true (by kernel_rfl)) (by unfold Func.isWrapper; first | (rw [if_pos (by decide +kernel)]; kernel_rfl) | (rw [if_neg (by decide +kernel)]; exact ⟨rfl, rfl⟩))
    (fun os started H enc _ => lifted os started H enc)
end Go.Proofs.Ytgcnkcajfjpbcaa.lawHeadBack
