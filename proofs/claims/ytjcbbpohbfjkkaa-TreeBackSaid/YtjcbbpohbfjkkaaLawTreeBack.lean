import Derived.Test.YtjcbbpohbfjkkaaBack
set_option linter.unusedVariables false
set_option linter.unusedSimpArgs false
namespace Go.Proofs.Ytjcbbpohbfjkkaa
open Go.Tx
theorem lawTreeBack_con (G : Mem) (args : Array Value) (n : Nat) (h : RdA Try.prog G Try.f3.params.toList args.toList n) : Con Try.prog 3 args G [] (fun u _ _ => u = Bo true) := by
  rw [show Try.f3.params.toList = [22, 9, 9] from rfl] at h
  obtain ⟨v0, vs0, m0, r0, e0, hm0, h0, h⟩ := h
  obtain ⟨v1, vs1, m1, r1, e1, hm1, h1, h⟩ := h
  obtain ⟨v2, vs2, m2, r2, e2, hm2, h2, h⟩ := h
  have h : vs2 = [] := h
  subst h
  subst e2
  subst e1
  obtain rfl : args = #[v0, v1, v2] := by cases args; simp_all
  have k0 := h0.one (.sl 22) (by kernel_rfl) (by kernel_rfl)
  obtain ⟨a0, c0, x0, rfl, hs0, _, hcap0⟩ := rd_slice (E := EEnt) (e := 31) (size := fun _ => 0) k0 (by kernel_rfl) (by kernel_rfl) (fun cs m h => o_EEnt h) (by decide +kernel) (by kernel_rfl) (by kernel_rfl)
  obtain ⟨x1, rfl, w1, u1⟩ := h1.one .str (by kernel_rfl) (by kernel_rfl)
  obtain ⟨x2, rfl, w2, u2⟩ := h2.one .str (by kernel_rfl) (by kernel_rfl)
  exact treeBack_con G a0 c0 x0 hs0 x1 w1 x2 w2 (Nat.le_trans (Nat.mul_le_mul_right _ hs0.le) hcap0)
end Go.Proofs.Ytjcbbpohbfjkkaa
namespace Go.Proofs.Ytjcbbpohbfjkkaa.lawTreeBack
open Go.Tx Go.ChangeShapes Go.WideShapes Go.ChangeAt Go.RowKit Go.Proofs.Ytjcbbpohbfjkkaa

theorem shape {H : Type} : ∀ ds : List (DataW H), ds.length = Try.f3.params.toList.length → Rows.treeBackSpec.fn H ds = { results := [.lit (.bool true)], args := ds }
  | [d0, d1, d2], _ => rfl
  | [], h => by simp [Try.f3] at h
  | [_], h => by simp [Try.f3] at h
  | [_, _], h => by simp [Try.f3] at h
  | _ :: _ :: _ :: _ :: _, h => by simp [Try.f3] at h

set_option maxRecDepth 100000 in
theorem contract (H : Type) (enc : TypeId × Value → H) (W : World) (base : Nat) (args : Array Value) (ds gs : List (DataW H)) (before : List MemPlace)
    (hval : ∀ (j : Nat) t v, Try.f3.params[j]? = some t → args[j]? = some v → Value.okWide Try.prog W .any base t v)
    (hW : DataW.Whole enc Try.prog Try.f3.params.toList Rows.treeBackSpec.vars false W args.toList ds gs before)
    (hsz : (DataW.weightsEach Try.prog (Try.f3.params.toList ++ Rows.treeBackSpec.plain.varTypes Try.prog) (ds ++ gs)).all (· ≤ reachBytes) = true) :
    Calls Try.prog 3 args W fun e W' => ∃ v, e = .returned v ∧ Rows.treeBackSpec.post enc Try.prog Try.f3 false true false false W args v W' :=
  law_contract (t := 4) (Rows.uptoBulkAll (ds ++ gs)) laidOut (by kernel_rfl) rfl shape (by kernel_rfl) (by kernel_rfl) (fun G args n hn h => lawTreeBack_con G args n h) W base args ds gs before hval hW (Nat.le_refl _) hsz

set_option maxRecDepth 100000 in
theorem lifted (os : Os) (started : os.Started) (H : Type) (enc : TypeId × Value → H) :
    ReturnsInHanded {} Try.checked os 3 .any (Rows.treeBackSpec.pre6 enc Try.prog Try.f3 Rows.treeBackRow.domain false) (Rows.treeBackSpec.post enc Try.prog Try.f3 false true false false) := by
  refine returnsInHanded_of_change_sized (C := Try.checked) own started (by kernel_rfl) Try.func3
    (ChangeSpec.witness6 (enc := enc) (C := Try.checked) false ⟨#[], #[.slice none 0 0, .string ⟨#[]⟩, .string ⟨#[]⟩], []⟩ 8 (by kernel_rfl) (by kernel_rfl) (by kernel_rfl) (by kernel_rfl)) ?_
  intro W base args ds gs before hval hW _ hsz _
  exact contract H enc W base args ds gs before hval hW hsz

theorem proved : Rows.TreeBackSaid :=
  OpenClaim.holds_of_wide 3 Try.f3 rfl rfl rfl rfl rfl rfl rfl ⟨rfl, rfl, rfl, rfl, rfl⟩ rfl rfl rfl rfl rfl (by kernel_rfl) Try.func3 (by kernel_rfl)
    (of_decide_eq_true (by kernel_rfl)) (by unfold Func.isWrapper; first | (rw [if_pos (by decide +kernel)]; kernel_rfl) | (rw [if_neg (by decide +kernel)]; exact ⟨rfl, rfl⟩))
    (fun os started H enc _ => lifted os started H enc)
end Go.Proofs.Ytjcbbpohbfjkkaa.lawTreeBack
