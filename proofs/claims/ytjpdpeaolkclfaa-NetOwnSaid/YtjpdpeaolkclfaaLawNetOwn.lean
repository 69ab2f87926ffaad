/- The law NetOwn is proved: for every input the call returns true and each argument reads afterwards as before. Conditions: those of the given row alone. -/
import Derived.Test.YtjpdpeaolkclfaaNetO
set_option linter.unusedVariables false
set_option linter.unusedSimpArgs false
namespace Go.Proofs.Ytjpdpeaolkclfaa
open Go.Tx
theorem lawNetOwn_con (G : Mem) (args : Array Value) (n : Nat) (h : RdA Try.prog G Try.f3.params.toList args.toList n) : Con Try.prog 3 args G [] (fun u _ _ => u = Bo true) := by
  rw [show Try.f3.params.toList = [24, 36, 37] from rfl] at h
  obtain ⟨v0, vs0, m0, r0, e0, hm0, h0, h⟩ := h
  obtain ⟨v1, vs1, m1, r1, e1, hm1, h1, h⟩ := h
  obtain ⟨v2, vs2, m2, r2, e2, hm2, h2, h⟩ := h
  have h : vs2 = [] := h
  subst h
  subst e2
  subst e1
  obtain rfl : args = #[v0, v1, v2] := by cases args; simp_all
  obtain ⟨cs0, rfl, k0⟩ := h0.agg [.int .i64, .sl 22] (by kernel_rfl) (by kernel_rfl)
  obtain ⟨x0, hx0, _⟩ := o_ENet k0
  obtain ⟨cs1, rfl, k1⟩ := h1.agg [.int .i64, .int .i64, .int .i64, .int .i64, .sl 25, .int .i64, .int .u64, .int .u64, .int .i64, .str, .sl 29, .sl 30] (by kernel_rfl) (by kernel_rfl)
  obtain ⟨x1, hx1, _⟩ := o_ELetter k1
  have k2 := h2.one (.sl 37) (by kernel_rfl) (by kernel_rfl)
  obtain ⟨a2, c2, x2, rfl, hs2, _, hcap2⟩ := rd_slice (E := EI) (e := 3) (size := fun _ => 0) k2 (by kernel_rfl) (by kernel_rfl) (fun cs m h => o_EI h) (by decide +kernel) (by kernel_rfl) (by kernel_rfl)
  exact netOwn_con G cs0 x0 hx0 cs1 x1 hx1 a2 c2 x2 hs2 (Nat.le_trans (Nat.mul_le_mul_right _ hs2.le) hcap2)
end Go.Proofs.Ytjpdpeaolkclfaa
namespace Go.Proofs.Ytjpdpeaolkclfaa.lawNetOwn
open Go.Tx Go.ChangeShapes Go.WideShapes Go.ChangeAt Go.RowKit Go.Proofs.Ytjpdpeaolkclfaa

theorem shape {H : Type} : ∀ ds : List (DataW H), ds.length = Try.f3.params.toList.length → Rows.netOwnSpec.fn H ds = { results := [.lit (.bool true)], args := ds }
  | [d0, d1, d2], _ => rfl
  | [], h => by simp [Try.f3] at h
  | [_], h => by simp [Try.f3] at h
  | [_, _], h => by simp [Try.f3] at h
  | _ :: _ :: _ :: _ :: _, h => by simp [Try.f3] at h

set_option maxRecDepth 100000 in
theorem contract (H : Type) (enc : TypeId × Value → H) (W : World) (base : Nat) (args : Array Value) (ds gs : List (DataW H)) (before : List MemPlace)
    (hval : ∀ (j : Nat) t v, Try.f3.params[j]? = some t → args[j]? = some v → Value.okWide Try.prog W .any base t v)
    (hW : DataW.Whole enc Try.prog Try.f3.params.toList Rows.netOwnSpec.vars false W args.toList ds gs before)
    (hsz : (DataW.weightsEach Try.prog (Try.f3.params.toList ++ Rows.netOwnSpec.plain.varTypes Try.prog) (ds ++ gs)).all (· ≤ reachBytes) = true) :
    Calls Try.prog 3 args W fun e W' => ∃ v, e = .returned v ∧ Rows.netOwnSpec.post enc Try.prog Try.f3 false true false false W args v W' :=
  law_contract (t := 4) (Rows.uptoBulkAll (ds ++ gs)) laidOut (by kernel_rfl) rfl shape (by kernel_rfl) (by kernel_rfl) (fun G args n hn h => lawNetOwn_con G args n h) W base args ds gs before hval hW (Nat.le_refl _) hsz

set_option maxRecDepth 100000 in
theorem lifted (os : Os) (started : os.Started) (H : Type) (enc : TypeId × Value → H) :
    ReturnsInHanded {} Try.checked os 3 .any (Rows.netOwnSpec.pre6 enc Try.prog Try.f3 Rows.netOwnRow.domain false) (Rows.netOwnSpec.post enc Try.prog Try.f3 false true false false) := by
  refine returnsInHanded_of_change_sized (C := Try.checked) own started (by kernel_rfl) Try.func3
    (ChangeSpec.witness6 (enc := enc) (C := Try.checked) false ⟨#[], #[.agg #[.int .i64 0, .slice none 0 0], .agg #[.int .i64 0, .int .i64 0, .int .i64 0, .int .i64 0, .slice none 0 0, .int .i64 0, .int .u64 0, .int .u64 0, .int .i64 0, .string ⟨#[]⟩, .slice none 0 0, .slice none 0 0], .slice none 0 0], []⟩ 8 (by kernel_rfl) (by kernel_rfl) (by kernel_rfl) (by kernel_rfl)) ?_
  intro W base args ds gs before hval hW _ hsz _
  exact contract H enc W base args ds gs before hval hW hsz

theorem proved : Rows.NetOwnSaid :=
  OpenClaim.holds_of_wide 3 Try.f3 rfl rfl rfl rfl rfl rfl rfl ⟨rfl, rfl, rfl, rfl, rfl⟩ rfl rfl rfl rfl rfl (by kernel_rfl) Try.func3 (by kernel_rfl)
    (of_decide_eq_true (by kernel_rfl)) (by unfold Func.isWrapper; first | (rw [if_pos (by decide +kernel)]; kernel_rfl) | (rw [if_neg (by decide +kernel)]; exact ⟨rfl, rfl⟩))
    (fun os started H enc _ => lifted os started H enc)
end Go.Proofs.Ytjpdpeaolkclfaa.lawNetOwn
