import Derived.Test.YtpofnmobbbcpgaaGreatDoorUnder
import Derived.Test.YtpofnmobbbcpgaaGreatDoorBack
namespace Go.Proofs.YtpofnmobbbcpgaaGreatDoor
open Go.Tx
set_option linter.unusedVariables false
set_option linter.unusedSimpArgs false

theorem under_mem {l : List EntD} {q : List UInt8} {x : EntD} : x ∈ treeUnder l q ↔ x ∈ l ∧ q <+: way x.name := by
  unfold treeUnder under1; rw [List.mem_filter]; simp
theorem under_under {l : List EntD} {p q : List UInt8} (h : p <+: q) : treeUnder (treeUnder l p) q = treeUnder l q := by
  unfold treeUnder
  rw [List.filter_filter]
  apply List.filter_congr
  intro x _
  unfold under1
  rw [Bool.eq_iff_iff]
  simp only [Bool.not_not, Bool.and_eq_true, decide_eq_true_eq]
  exact ⟨fun h1 => h1.1, fun h1 => ⟨h1, h.trans h1⟩⟩
theorem under_nil {q : List UInt8} : treeUnder [] q = [] := rfl
theorem treeAt_nil {q : List UInt8} : treeAt [] q = noneM := treeAt_leaf (.inl rfl)
theorem treeAtE_ok {l : List EntD} {q : List UInt8} (h : (treeAtE l q).2 = 0) : TreeOk l ∧ q.length ≤ 16 ∧ (∀ b ∈ q, isB b = true) ∧ (treeAtE l q).1 = treeAt (treeUnder l q) q := by
  unfold treeAtE at h ⊢
  split at h
  · contradiction
  rename_i h1
  split at h
  · cases h
  rename_i h2
  rw [if_neg h1, if_neg h2]
  have h3 : trimS q = [] := Decidable.not_not.1 fun hc => h2 (.inr hc)
  have h4 : ¬ (q.length : Int) > 16 := fun hc => h2 (.inl hc)
  exact ⟨treeCheck_iff.1 (Decidable.not_not.1 h1), by omega, trimS_nil.1 h3, rfl⟩
theorem treeAtE_of {l : List EntD} {q : List UInt8} (h1 : TreeOk l) (h2 : q.length ≤ 16) (h3 : ∀ b ∈ q, isB b = true) : treeAtE l q = (treeAt (treeUnder l q) q, 0) := by
  unfold treeAtE
  rw [if_neg (fun hc => hc (treeCheck_iff.2 h1)), if_neg]
  rintro (hc | hc)
  · omega
  · exact hc (trimS_nil.2 h3)
theorem treeAtE_err {l : List EntD} {q : List UInt8} (h : ¬ (treeAtE l q).2 = 0) : (treeAtE l q).1 = 0 := by
  revert h; unfold treeAtE; split
  · simp
  split <;> simp
theorem atE_or (l : List EntD) (q : List UInt8) : (decide ((treeAtE l q).2 = 0) || decide ((treeAtE l q).1 = 0)) = true := by
  by_cases h : (treeAtE l q).2 = 0
  · simp [h]
  · simp [treeAtE_err h]
theorem treeAt_parts {l : List EntD} {q : List UInt8} (h : q.length < 16) : treeAt (treeUnder l q) q = if treeAt (treeUnder l (q ++ [48])) (q ++ [48]) = noneM ∧ treeAt (treeUnder l (q ++ [49])) (q ++ [49]) = noneM then noneM else markOf (markSaid 2 (treeAt (treeUnder l (q ++ [48])) (q ++ [48])) (treeAt (treeUnder l (q ++ [49])) (q ++ [49]))) := by
  have e0 := under_under (l := l) (p := q) (q := q ++ [48]) (List.prefix_append _ _)
  have e1 := under_under (l := l) (p := q) (q := q ++ [49]) (List.prefix_append _ _)
  by_cases hn : treeUnder l q = []
  · have f0 : treeUnder l (q ++ [48]) = [] := by rw [← e0, hn]; rfl
    have f1 : treeUnder l (q ++ [49]) = [] := by rw [← e1, hn]; rfl
    rw [hn, f0, f1, treeAt_nil, treeAt_nil, treeAt_nil, if_pos ⟨rfl, rfl⟩]
  · rw [treeAt_fork (by intro hc; exact hn (List.eq_nil_of_length_eq_zero (by omega))) h, e0, e1]
theorem parts_law {l : List EntD} {q : List UInt8} (h : (treeAtE l q).2 = 0) (hq : q.length < 16) : (treeAtE l (q ++ [48])).2 = 0 ∧ (treeAtE l (q ++ [49])).2 = 0 ∧ (treeLeaf []).2 = 0 ∧
    (((treeAtE l (q ++ [48])).1 = markOf (treeLeaf []).1 ∧ (treeAtE l (q ++ [49])).1 = markOf (treeLeaf []).1) → (treeAtE l q).1 = markOf (treeLeaf []).1) ∧
    (¬ ((treeAtE l (q ++ [48])).1 = markOf (treeLeaf []).1 ∧ (treeAtE l (q ++ [49])).1 = markOf (treeLeaf []).1) → (treeAtE l q).1 = markOf (markSaid 2 (treeAtE l (q ++ [48])).1 (treeAtE l (q ++ [49])).1)) := by
  obtain ⟨h1, _, h3, h4⟩ := treeAtE_ok h
  have g : ∀ c : UInt8, isB c = true → ∀ b ∈ q ++ [c], isB b = true := by
    intro c hc b hb
    rcases List.mem_append.1 hb with hb | hb
    · exact h3 b hb
    · rw [List.mem_singleton] at hb; rw [hb]; exact hc
  have e0 := treeAtE_of h1 (q := q ++ [48]) (by simp; omega) (g 48 rfl)
  have e1 := treeAtE_of h1 (q := q ++ [49]) (by simp; omega) (g 49 rfl)
  have en : markOf (treeLeaf []).1 = noneM := by rw [treeLeaf_nil]; rfl
  rw [h4, e0, e1, en, treeAt_parts hq]
  refine ⟨rfl, rfl, by rw [treeLeaf_nil], fun hc => if_pos hc, fun hc => if_neg hc⟩
theorem turns_eq {l : List EntD} {a b : EntD} (hn : ¬ a.name = b.name) (h1 : (treeSet l a.name a.value).2 = 0) (h2 : (treeSet (treeSet l a.name a.value).1 b.name b.value).2 = 0) (h3 : (treeSet l b.name b.value).2 = 0) (h4 : (treeSet (treeSet l b.name b.value).1 a.name a.value).2 = 0) :
    (treeSet (treeSet l a.name a.value).1 b.name b.value).1 = (treeSet (treeSet l b.name b.value).1 a.name a.value).1 ∧ (treeAtE (treeSet (treeSet l a.name a.value).1 b.name b.value).1 []).2 = 0 := by
  obtain ⟨_, _, _, m1⟩ := treeSet_ok h1
  obtain ⟨_, _, o2, m2⟩ := treeSet_ok h2
  obtain ⟨_, _, _, m3⟩ := treeSet_ok h3
  obtain ⟨_, _, o4, m4⟩ := treeSet_ok h4
  refine ⟨o2.ext o4 fun y => ?_, by rw [treeAtE_of o2 (by simp) (by simp)]⟩
  rw [m2, m4, m1, m3]
  constructor
  · rintro (rfl | ⟨rfl | ⟨h, hy⟩, hy2⟩)
    · exact .inr ⟨.inl rfl, fun e => hn e.symm⟩
    · exact .inl rfl
    · exact .inr ⟨.inr ⟨h, hy2⟩, hy⟩
  · rintro (rfl | ⟨rfl | ⟨h, hy⟩, hy2⟩)
    · exact .inr ⟨.inl rfl, hn⟩
    · exact .inl rfl
    · exact .inr ⟨.inr ⟨h, hy2⟩, hy⟩
theorem good3 {x y z : Int} (h : ([x, y, z].any fun x0 => !decide (x0 = 0)) = false) : x = 0 ∧ y = 0 ∧ z = 0 := by simpa using h
theorem good4 {x y z w : Int} (h : ([x, y, z, w].any fun x0 => !decide (x0 = 0)) = false) : x = 0 ∧ y = 0 ∧ z = 0 ∧ w = 0 := by simpa using h


end Go.Proofs.YtpofnmobbbcpgaaGreatDoor
