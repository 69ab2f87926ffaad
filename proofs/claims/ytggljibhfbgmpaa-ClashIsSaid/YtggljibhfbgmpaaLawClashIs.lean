import Derived.Test.YtggljibhfbgmpaaClash
set_option linter.unusedVariables false
set_option linter.unusedSimpArgs false
namespace Go.Proofs.Ytggljibhfbgmpaa
open Go.Tx
theorem lawClashIs_con (G : Mem) (args : Array Value) (n : Nat) (h : RdA Try.prog G Try.f15.params.toList args.toList n) : Con Try.prog 15 args G [] (fun u _ _ => u = Bo true) := by
  rw [show Try.f15.params.toList = [54, 54, 32, 32] from rfl] at h
  obtain ⟨v0, vs0, m0, r0, e0, hm0, h0, h⟩ := h
  obtain ⟨v1, vs1, m1, r1, e1, hm1, h1, h⟩ := h
  obtain ⟨v2, vs2, m2, r2, e2, hm2, h2, h⟩ := h
  obtain ⟨v3, vs3, m3, r3, e3, hm3, h3, h⟩ := h
  have h : vs3 = [] := h
  subst h
  subst e3
  subst e2
  subst e1
  obtain rfl : args = #[v0, v1, v2, v3] := by cases args; simp_all
  have k0 := h0.one (.sl 54) (by kernel_rfl) (by kernel_rfl)
  obtain ⟨a0, c0, x0, rfl, hs0, _, hcap0⟩ := rd_slice (E := ES) (e := 9) (size := fun _ => 0) k0 (by kernel_rfl) (by kernel_rfl) (fun cs m h => o_ES h) (by decide +kernel) (by kernel_rfl) (by kernel_rfl)
  have k1 := h1.one (.sl 54) (by kernel_rfl) (by kernel_rfl)
  obtain ⟨a1, c1, x1, rfl, hs1, _, hcap1⟩ := rd_slice (E := ES) (e := 9) (size := fun _ => 0) k1 (by kernel_rfl) (by kernel_rfl) (fun cs m h => o_ES h) (by decide +kernel) (by kernel_rfl) (by kernel_rfl)
  obtain ⟨cs2, rfl, k2⟩ := h2.agg [.str, .sl 29, .sl 30] (by kernel_rfl) (by kernel_rfl)
  obtain ⟨x2, hx2, _⟩ := o_EProof k2
  obtain ⟨cs3, rfl, k3⟩ := h3.agg [.str, .sl 29, .sl 30] (by kernel_rfl) (by kernel_rfl)
  obtain ⟨x3, hx3, _⟩ := o_EProof k3
  exact clashIs_con G a0 c0 x0 hs0 a1 c1 x1 hs1 cs2 x2 hx2 cs3 x3 hx3 (Nat.le_trans (Nat.mul_le_mul_right _ hs0.le) hcap0) (Nat.le_trans (Nat.mul_le_mul_right _ hs1.le) hcap1)
end Go.Proofs.Ytggljibhfbgmpaa
namespace Go.Proofs.Ytggljibhfbgmpaa.lawClashIs
open Go.Tx Go.ChangeShapes Go.WideShapes Go.ChangeAt Go.RowKit Go.Proofs.Ytggljibhfbgmpaa

theorem shape {H : Type} : ∀ ds : List (DataW H), ds.length = Try.f15.params.toList.length → Rows.clashIsSpec.fn H ds = { results := [.lit (.bool true)], args := ds }
  | [d0, d1, d2, d3], _ => rfl
  | [], h => by simp [Try.f15] at h
  | [_], h => by simp [Try.f15] at h
  | [_, _], h => by simp [Try.f15] at h
  | [_, _, _], h => by simp [Try.f15] at h
  | _ :: _ :: _ :: _ :: _ :: _, h => by simp [Try.f15] at h

set_option maxRecDepth 100000 in
theorem contract (H : Type) (enc : TypeId × Value → H) (W : World) (base : Nat) (args : Array Value) (ds gs : List (DataW H)) (before : List MemPlace)
    (hval : ∀ (j : Nat) t v, Try.f15.params[j]? = some t → args[j]? = some v → Value.okWide Try.prog W .any base t v)
    (hW : DataW.Whole enc Try.prog Try.f15.params.toList Rows.clashIsSpec.vars false W args.toList ds gs before)
    (hsz : (DataW.weightsEach Try.prog (Try.f15.params.toList ++ Rows.clashIsSpec.plain.varTypes Try.prog) (ds ++ gs)).all (· ≤ reachBytes) = true) :
    Calls Try.prog 15 args W fun e W' => ∃ v, e = .returned v ∧ Rows.clashIsSpec.post enc Try.prog Try.f15 false true false false W args v W' :=
  law_contract (t := 4) (Rows.uptoBulkAll (ds ++ gs)) laidOut (by kernel_rfl) rfl shape (by kernel_rfl) (by kernel_rfl) (fun G args n hn h => lawClashIs_con G args n h) W base args ds gs before hval hW (Nat.le_refl _) hsz

set_option maxRecDepth 100000 in
theorem lifted (os : Os) (started : os.Started) (H : Type) (enc : TypeId × Value → H) :
    ReturnsInHanded {} Try.checked os 15 .any (Rows.clashIsSpec.pre6 enc Try.prog Try.f15 Rows.clashIsRow.domain false) (Rows.clashIsSpec.post enc Try.prog Try.f15 false true false false) := by
  refine returnsInHanded_of_change_sized (C := Try.checked) own started (by kernel_rfl) Try.func15
    (ChangeSpec.witness6 (enc := enc) (C := Try.checked) false ⟨#[], #[.slice none 0 0, .slice none 0 0, .agg #[.string ⟨#[]⟩, .slice none 0 0, .slice none 0 0], .agg #[.string ⟨#[]⟩, .slice none 0 0, .slice none 0 0]], []⟩ 8 (by kernel_rfl) (by kernel_rfl) (by kernel_rfl) (by kernel_rfl)) ?_
  intro W base args ds gs before hval hW _ hsz _
  exact contract H enc W base args ds gs before hval hW hsz

theorem proved : Rows.ClashIsSaid :=
  OpenClaim.holds_of_wide 15 Try.f15 rfl rfl rfl rfl rfl rfl rfl ⟨rfl, rfl, rfl, rfl, rfl⟩ rfl rfl rfl rfl rfl (by kernel_rfl) Try.func15 (by kernel_rfl)
    (of_decide_eq_true (by kernel_rfl)) (by unfold Func.isWrapper; first | (rw [if_pos (by decide +kernel)]; kernel_rfl) | (rw [if_neg (by decide +kernel)]; exact ⟨rfl, rfl⟩))
    (fun os started H enc _ => lifted os started H enc)
end Go.Proofs.Ytggljibhfbgmpaa.lawClashIs
