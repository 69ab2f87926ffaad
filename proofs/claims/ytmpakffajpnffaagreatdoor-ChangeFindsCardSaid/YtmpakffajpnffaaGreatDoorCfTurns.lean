import Derived.Test.YtmpakffajpnffaaGreatDoorCfUnder
import Derived.Test.YtmpakffajpnffaaGreatDoorCfBack
namespace Go.Proofs.YtmpakffajpnffaaGreatDoor
open Go.Tx
set_option linter.unusedVariables false
set_option linter.unusedSimpArgs false
theorem under_under {l : List EntD} {p q : List UInt8} (h : p <+: q) : treeUnder (treeUnder l p) q = treeUnder l q := by
  unfold treeUnder
  rw [List.filter_filter]
  apply List.filter_congr
  intro x _
  unfold under1
  rw [Bool.eq_iff_iff]
  simp only [Bool.not_not, Bool.and_eq_true, decide_eq_true_eq]
  exact ⟨fun h1 => h1.1, fun h1 => ⟨h1, h.trans h1⟩⟩
theorem treeAt_nil {q : List UInt8} : treeAt [] q = noneM := treeAt_leaf (.inl rfl)
theorem treeAtE_of {l : List EntD} {q : List UInt8} (h1 : TreeOk l) (h2 : q.length ≤ 16) (h3 : ∀ b ∈ q, isB b = true) : treeAtE l q = (treeAt (treeUnder l q) q, 0) := by
  unfold treeAtE
  rw [if_neg (fun hc => hc (treeCheck_iff.2 h1)), if_neg]
  rintro (hc | hc)
  · omega
  · exact hc (trimS_nil.2 h3)
theorem treeAt_parts {l : List EntD} {q : List UInt8} (h : q.length < 16) : treeAt (treeUnder l q) q = if treeAt (treeUnder l (q ++ [48])) (q ++ [48]) = noneM ∧ treeAt (treeUnder l (q ++ [49])) (q ++ [49]) = noneM then noneM else markOf (markSaid 2 (treeAt (treeUnder l (q ++ [48])) (q ++ [48])) (treeAt (treeUnder l (q ++ [49])) (q ++ [49]))) := by
  have e0 := under_under (l := l) (p := q) (q := q ++ [48]) (List.prefix_append _ _)
  have e1 := under_under (l := l) (p := q) (q := q ++ [49]) (List.prefix_append _ _)
  by_cases hn : treeUnder l q = []
  · have f0 : treeUnder l (q ++ [48]) = [] := by rw [← e0, hn]; rfl
    have f1 : treeUnder l (q ++ [49]) = [] := by rw [← e1, hn]; rfl
    rw [hn, f0, f1, treeAt_nil, treeAt_nil, treeAt_nil, if_pos ⟨rfl, rfl⟩]
  · rw [treeAt_fork (by intro hc; exact hn (List.eq_nil_of_length_eq_zero (by omega))) h, e0, e1]
end Go.Proofs.YtmpakffajpnffaaGreatDoor
