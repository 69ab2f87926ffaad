import Derived.Test.YtggljibhfbgmpaaAudit
set_option linter.unusedVariables false
set_option linter.unusedSimpArgs false
namespace Go.Proofs.Ytggljibhfbgmpaa
open Go.Tx
theorem lawAuditFinds_con (G : Mem) (args : Array Value) (n : Nat) (h : RdA Try.prog G Try.f12.params.toList args.toList n) : Con Try.prog 12 args G [] (fun u _ _ => u = Bo true) := by
  rw [show Try.f12.params.toList = [85, 25, 86] from rfl] at h
  obtain ⟨v0, vs0, m0, r0, e0, hm0, h0, h⟩ := h
  obtain ⟨v1, vs1, m1, r1, e1, hm1, h1, h⟩ := h
  obtain ⟨v2, vs2, m2, r2, e2, hm2, h2, h⟩ := h
  have h : vs2 = [] := h
  subst h
  subst e2
  subst e1
  obtain rfl : args = #[v0, v1, v2] := by cases args; simp_all
  have k0 := h0.one (.sl 85) (by kernel_rfl) (by kernel_rfl)
  obtain ⟨a0, c0, x0, rfl, hs0, _, hcap0⟩ := rd_slice (E := ESlHead) (e := 25) (size := fun _ => 0) k0 (by kernel_rfl) (by kernel_rfl) (fun cs m h => o_ESlHead h) (by decide +kernel) (by kernel_rfl) (by kernel_rfl)
  have k1 := h1.one (.sl 25) (by kernel_rfl) (by kernel_rfl)
  obtain ⟨a1, c1, x1, rfl, hs1, _, hcap1⟩ := rd_slice (E := EHead) (e := 28) (size := fun _ => 0) k1 (by kernel_rfl) (by kernel_rfl) (fun cs m h => o_EHead h) (by decide +kernel) (by kernel_rfl) (by kernel_rfl)
  have k2 := h2.one (.sl 86) (by kernel_rfl) (by kernel_rfl)
  obtain ⟨a2, c2, x2, rfl, hs2, _, hcap2⟩ := rd_slice (E := EII) (e := 91) (size := fun _ => 0) k2 (by kernel_rfl) (by kernel_rfl) (fun cs m h => o_EII h) (by decide +kernel) (by kernel_rfl) (by kernel_rfl)
  exact auditFinds_con G a0 c0 x0 hs0 a1 c1 x1 hs1 a2 c2 x2 hs2 (Nat.le_trans (Nat.mul_le_mul_right _ hs0.le) hcap0) (Nat.le_trans (Nat.mul_le_mul_right _ hs1.le) hcap1) (Nat.le_trans (Nat.mul_le_mul_right _ hs2.le) hcap2)
end Go.Proofs.Ytggljibhfbgmpaa
namespace Go.Proofs.Ytggljibhfbgmpaa.lawAuditFinds
open Go.Tx Go.ChangeShapes Go.WideShapes Go.ChangeAt Go.RowKit Go.Proofs.Ytggljibhfbgmpaa

theorem shape {H : Type} : ∀ ds : List (DataW H), ds.length = Try.f12.params.toList.length → Rows.auditFindsSpec.fn H ds = { results := [.lit (.bool true)], args := ds }
  | [d0, d1, d2], _ => rfl
  | [], h => by simp [Try.f12] at h
  | [_], h => by simp [Try.f12] at h
  | [_, _], h => by simp [Try.f12] at h
  | _ :: _ :: _ :: _ :: _, h => by simp [Try.f12] at h

set_option maxRecDepth 100000 in
theorem contract (H : Type) (enc : TypeId × Value → H) (W : World) (base : Nat) (args : Array Value) (ds gs : List (DataW H)) (before : List MemPlace)
    (hval : ∀ (j : Nat) t v, Try.f12.params[j]? = some t → args[j]? = some v → Value.okWide Try.prog W .any base t v)
    (hW : DataW.Whole enc Try.prog Try.f12.params.toList Rows.auditFindsSpec.vars false W args.toList ds gs before)
    (hsz : (DataW.weightsEach Try.prog (Try.f12.params.toList ++ Rows.auditFindsSpec.plain.varTypes Try.prog) (ds ++ gs)).all (· ≤ reachBytes) = true) :
    Calls Try.prog 12 args W fun e W' => ∃ v, e = .returned v ∧ Rows.auditFindsSpec.post enc Try.prog Try.f12 false true false false W args v W' :=
  law_contract (t := 4) (Rows.uptoBulkAll (ds ++ gs)) laidOut (by kernel_rfl) rfl shape (by kernel_rfl) (by kernel_rfl) (fun G args n hn h => lawAuditFinds_con G args n h) W base args ds gs before hval hW (Nat.le_refl _) hsz

set_option maxRecDepth 100000 in
theorem lifted (os : Os) (started : os.Started) (H : Type) (enc : TypeId × Value → H) :
    ReturnsInHanded {} Try.checked os 12 .any (Rows.auditFindsSpec.pre6 enc Try.prog Try.f12 Rows.auditFindsRow.domain false) (Rows.auditFindsSpec.post enc Try.prog Try.f12 false true false false) := by
  refine returnsInHanded_of_change_sized (C := Try.checked) own started (by kernel_rfl) Try.func12
    (ChangeSpec.witness6 (enc := enc) (C := Try.checked) false ⟨#[], #[.slice none 0 0, .slice none 0 0, .slice none 0 0], []⟩ 8 (by kernel_rfl) (by kernel_rfl) (by kernel_rfl) (by kernel_rfl)) ?_
  intro W base args ds gs before hval hW _ hsz _
  exact contract H enc W base args ds gs before hval hW hsz

theorem proved : Rows.AuditFindsSaid :=
  OpenClaim.holds_of_wide 12 Try.f12 rfl rfl rfl rfl rfl rfl rfl ⟨rfl, rfl, rfl, rfl, rfl⟩ rfl rfl rfl rfl rfl (by kernel_rfl) Try.func12 (by kernel_rfl)
    (of_decide_eq_true (by kernel_rfl)) (by unfold Func.isWrapper; first | (rw [if_pos (by decide +kernel)]; kernel_rfl) | (rw [if_neg (by decide +kernel)]; exact ⟨rfl, rfl⟩))
    (fun os started H enc _ => lifted os started H enc)
end Go.Proofs.Ytggljibhfbgmpaa.lawAuditFinds
