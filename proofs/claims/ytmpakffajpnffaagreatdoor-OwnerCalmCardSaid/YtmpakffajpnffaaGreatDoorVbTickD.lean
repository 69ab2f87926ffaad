import Derived.Test.YtmpakffajpnffaaGreatDoorVbTick
namespace Go.Proofs.YtmpakffajpnffaaGreatDoor
open Go.Tx
set_option linter.unusedVariables false
set_option linter.unusedSimpArgs false
open Go.Tx Go.Proofs
theorem set_step {a : AskD} {l : List AskD} {b : List EntD} (h : TreeOk b) (hr : ∀ x ∈ a :: l, queueRight x = 0) (hn : nn (entNames b ++ askNames (a :: l)) ≤ 24) :
    (treeSet b a.name a.value).2 = 0 ∧ TreeOk (treeSet b a.name a.value).1 ∧ (∀ x ∈ l, queueRight x = 0) ∧ nn (entNames (treeSet b a.name a.value).1 ++ askNames l) ≤ 24 := by
  have ha := askR_tree (hr a (by simp))
  have hf : a.name ∈ entNames b ∨ b.length < 24 := by
    by_cases e : a.name ∈ entNames b
    · exact .inl e
    · right
      have h1 : (a.name :: entNames b).Nodup := List.nodup_cons.2 ⟨e, names_nodup h⟩
      have h2 := nn_nodup h1
      have h3 : nn (a.name :: entNames b) ≤ nn (entNames b ++ askNames (a :: l)) := nn_mono fun x hx => by
        rcases List.mem_cons.1 hx with rfl | hx
        · exact List.mem_append.2 (.inr (mem_askNames.2 ⟨a, by simp, rfl⟩))
        · exact List.mem_append.2 (.inl hx)
      simp only [List.length_cons] at h2
      have : (entNames b).length = b.length := by simp [entNames]
      omega
  have hs := treeSet_can h ha hf
  refine ⟨hs, (treeSet_ok hs).2.2.1, fun x hx => hr x (by simp [hx]), Nat.le_trans (nn_mono fun s hs' => ?_) hn⟩
  rcases List.mem_append.1 hs' with q | q
  · rcases (set_names hs).1 q with rfl | q
    · exact List.mem_append.2 (.inr (mem_askNames.2 ⟨a, by simp, rfl⟩))
    · exact List.mem_append.2 (.inl q)
  · exact List.mem_append.2 (.inr (by simp only [askNames, List.map_cons, List.mem_cons]; exact .inr q))
end Go.Proofs.YtmpakffajpnffaaGreatDoor
