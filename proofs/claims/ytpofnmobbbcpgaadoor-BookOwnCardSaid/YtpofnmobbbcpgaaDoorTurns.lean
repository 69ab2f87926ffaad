import Derived.Test.YtpofnmobbbcpgaaDoorUnder
import Derived.Test.YtpofnmobbbcpgaaDoorBack
namespace Go.Proofs.YtpofnmobbbcpgaaDoor
open Go.Tx
set_option linter.unusedVariables false
set_option linter.unusedSimpArgs false

theorem under_mem {l : List EntD} {q : List UInt8} {x : EntD} : x ∈ treeUnder l q ↔ x ∈ l ∧ q <+: way x.name := by
  unfold treeUnder under1; rw [List.mem_filter]; simp
theorem under_under {l : List EntD} {p q : List UInt8} (h : p <+: q) : treeUnder (treeUnder l p) q = treeUnder l q := by
  unfold treeUnder
  rw [List.filter_filter]
  apply List.filter_congr
  intro x _
  unfold under1
  rw [Bool.eq_iff_iff]
  simp only [Bool.not_not, Bool.and_eq_true, decide_eq_true_eq]
  exact ⟨fun h1 => h1.1, fun h1 => ⟨h1, h.trans h1⟩⟩
theorem under_nil {q : List UInt8} : treeUnder [] q = [] := rfl
theorem treeAt_nil {q : List UInt8} : treeAt [] q = noneM := treeAt_leaf (.inl rfl)
theorem treeAtE_ok {l : List EntD} {q : List UInt8} (h : (treeAtE l q).2 = 0) : TreeOk l ∧ q.length ≤ 16 ∧ (∀ b ∈ q, isB b = true) ∧ (treeAtE l q).1 = treeAt (treeUnder l q) q := by
  unfold treeAtE at h ⊢
  split at h
  · contradiction
  rename_i h1
  split at h
  · cases h
  rename_i h2
  rw [if_neg h1, if_neg h2]
  have h3 : trimS q = [] := Decidable.not_not.1 fun hc => h2 (.inr hc)
  have h4 : ¬ (q.length : Int) > 16 := fun hc => h2 (.inl hc)
  exact ⟨treeCheck_iff.1 (Decidable.not_not.1 h1), by omega, trimS_nil.1 h3, rfl⟩
theorem treeAtE_of {l : List EntD} {q : List UInt8} (h1 : TreeOk l) (h2 : q.length ≤ 16) (h3 : ∀ b ∈ q, isB b = true) : treeAtE l q = (treeAt (treeUnder l q) q, 0) := by
  unfold treeAtE
  rw [if_neg (fun hc => hc (treeCheck_iff.2 h1)), if_neg]
  rintro (hc | hc)
  · omega
  · exact hc (trimS_nil.2 h3)
theorem treeAtE_err {l : List EntD} {q : List UInt8} (h : ¬ (treeAtE l q).2 = 0) : (treeAtE l q).1 = 0 := by
  revert h; unfold treeAtE; split
  · simp
  split <;> simp
theorem atE_or (l : List EntD) (q : List UInt8) : (decide ((treeAtE l q).2 = 0) || decide ((treeAtE l q).1 = 0)) = true := by
  by_cases h : (treeAtE l q).2 = 0
  · simp [h]
  · simp [treeAtE_err h]
theorem treeAt_parts {l : List EntD} {q : List UInt8} (h : q.length < 16) : treeAt (treeUnder l q) q = if treeAt (treeUnder l (q ++ [48])) (q ++ [48]) = noneM ∧ treeAt (treeUnder l (q ++ [49])) (q ++ [49]) = noneM then noneM else markOf (markSaid 2 (treeAt (treeUnder l (q ++ [48])) (q ++ [48])) (treeAt (treeUnder l (q ++ [49])) (q ++ [49]))) := by
  have e0 := under_under (l := l) (p := q) (q := q ++ [48]) (List.prefix_append _ _)
  have e1 := under_under (l := l) (p := q) (q := q ++ [49]) (List.prefix_append _ _)
  by_cases hn : treeUnder l q = []
  · have f0 : treeUnder l (q ++ [48]) = [] := by rw [← e0, hn]; rfl
    have f1 : treeUnder l (q ++ [49]) = [] := by rw [← e1, hn]; rfl
    rw [hn, f0, f1, treeAt_nil, treeAt_nil, treeAt_nil, if_pos ⟨rfl, rfl⟩]
  · rw [treeAt_fork (by intro hc; exact hn (List.eq_nil_of_length_eq_zero (by omega))) h, e0, e1]
theorem parts_law {l : List EntD} {q : List UInt8} (h : (treeAtE l q).2 = 0) (hq : q.length < 16) : (treeAtE l (q ++ [48])).2 = 0 ∧ (treeAtE l (q ++ [49])).2 = 0 ∧ (treeLeaf []).2 = 0 ∧
    (((treeAtE l (q ++ [48])).1 = markOf (treeLeaf []).1 ∧ (treeAtE l (q ++ [49])).1 = markOf (treeLeaf []).1) → (treeAtE l q).1 = markOf (treeLeaf []).1) ∧
    (¬ ((treeAtE l (q ++ [48])).1 = markOf (treeLeaf []).1 ∧ (treeAtE l (q ++ [49])).1 = markOf (treeLeaf []).1) → (treeAtE l q).1 = markOf (markSaid 2 (treeAtE l (q ++ [48])).1 (treeAtE l (q ++ [49])).1)) := by
  obtain ⟨h1, _, h3, h4⟩ := treeAtE_ok h
  have g : ∀ c : UInt8, isB c = true → ∀ b ∈ q ++ [c], isB b = true := by
    intro c hc b hb
    rcases List.mem_append.1 hb with hb | hb
    · exact h3 b hb
    · rw [List.mem_singleton] at hb; rw [hb]; exact hc
  have e0 := treeAtE_of h1 (q := q ++ [48]) (by simp; omega) (g 48 rfl)
  have e1 := treeAtE_of h1 (q := q ++ [49]) (by simp; omega) (g 49 rfl)
  have en : markOf (treeLeaf []).1 = noneM := by rw [treeLeaf_nil]; rfl
  rw [h4, e0, e1, en, treeAt_parts hq]
  refine ⟨rfl, rfl, by rw [treeLeaf_nil], fun hc => if_pos hc, fun hc => if_neg hc⟩
theorem turns_eq {l : List EntD} {a b : EntD} (hn : ¬ a.name = b.name) (h1 : (treeSet l a.name a.value).2 = 0) (h2 : (treeSet (treeSet l a.name a.value).1 b.name b.value).2 = 0) (h3 : (treeSet l b.name b.value).2 = 0) (h4 : (treeSet (treeSet l b.name b.value).1 a.name a.value).2 = 0) :
    (treeSet (treeSet l a.name a.value).1 b.name b.value).1 = (treeSet (treeSet l b.name b.value).1 a.name a.value).1 ∧ (treeAtE (treeSet (treeSet l a.name a.value).1 b.name b.value).1 []).2 = 0 := by
  obtain ⟨_, _, _, m1⟩ := treeSet_ok h1
  obtain ⟨_, _, o2, m2⟩ := treeSet_ok h2
  obtain ⟨_, _, _, m3⟩ := treeSet_ok h3
  obtain ⟨_, _, o4, m4⟩ := treeSet_ok h4
  refine ⟨o2.ext o4 fun y => ?_, by rw [treeAtE_of o2 (by simp) (by simp)]⟩
  rw [m2, m4, m1, m3]
  constructor
  · rintro (rfl | ⟨rfl | ⟨h, hy⟩, hy2⟩)
    · exact .inr ⟨.inl rfl, fun e => hn e.symm⟩
    · exact .inl rfl
    · exact .inr ⟨.inr ⟨h, hy2⟩, hy⟩
  · rintro (rfl | ⟨rfl | ⟨h, hy⟩, hy2⟩)
    · exact .inr ⟨.inl rfl, hn⟩
    · exact .inl rfl
    · exact .inr ⟨.inr ⟨h, hy2⟩, hy⟩
theorem good3 {x y z : Int} (h : ([x, y, z].any fun x0 => !decide (x0 = 0)) = false) : x = 0 ∧ y = 0 ∧ z = 0 := by simpa using h
theorem good4 {x y z w : Int} (h : ([x, y, z, w].any fun x0 => !decide (x0 = 0)) = false) : x = 0 ∧ y = 0 ∧ z = 0 ∧ w = 0 := by simpa using h

theorem trees_con2 (G : Mem)   : ConV 4 #[] G (Bo true) := by
  refine con_of Tryd.func4 21 [] rfl (fun w0 G0 => ?_)
  refine tc_rbn [0] [] ?_
  refine tc_seq ?_
  refine tc_region ?_
  refine runL_callR 4 (treeSet_con G none 0 ([]) (RS.nil' EEnt G) ([97]) (Nat.le_of_ble_eq_true rfl) ([98]) (Nat.le_of_ble_eq_true rfl)) (fun v G1 L1 hl1 hp => ?_)
  obtain ⟨a1, c1, r1, rfl, hr1, rfl⟩ := hp
  refine runL_bn [0,0,0,0,0] [(1, Sl a1 (((treeSet ([]) ([97]) ([98])).1).length) c1), (2, I ((treeSet ([]) ([97]) ([98])).2))] ?_
  refine runL_nil ?_
  refine tq_then ?_
  refine tc_seq ?_
  refine tc_region ?_
  refine runL_bn [0,0,0] [(9, Bo (decide ((treeSet ([]) ([97]) ([98])).2 = 0)))] ?_
  refine runL_b2n (decide ((treeSet ([]) ([97]) ([98])).2 = 0)) [9] [0,0,0,0] [1,1,1,0] (fun bb => [(13, Bo (bb && (decide (((((treeSet ([]) ([97]) ([98])).1).length : Nat) : Int) = 1))))]) ?_
  refine runL_bn [0] [(14, Bo ((decide ((treeSet ([]) ([97]) ([98])).2 = 0)) && (decide (((((treeSet ([]) ([97]) ([98])).1).length : Nat) : Int) = 1))))] ?_
  refine runL_casesT [14] ((decide ((treeSet ([]) ([97]) ([98])).2 = 0)) && (decide (((((treeSet ([]) ([97]) ([98])).1).length : Nat) : Int) = 1))) (fun h1 => ?_) (fun h1 => ?_)
  ·
    refine runL_bn [0] [(15, Sl a1 (((treeSet ([]) ([97]) ([98])).1).length) c1)] ?_
    refine runL_frzR (E := EEnt) 0 hr1 (by have q_ := treeSet_len ([]) ([97]) ([98]); simp only [EEnt]; omega) (fun G2 hl2 hs1 => ?_)
    obtain ⟨b1, o1, rfl⟩ := RS.addr hs1 (k := 0) (by first | omega | (rw [trees_ok.2]; decide))
    obtain ⟨x1, hx1⟩ := getX (l := (treeSet ([]) ([97]) ([98])).1) (k := 0) (by first | omega | (rw [trees_ok.2]; decide))
    obtain ⟨_, ⟨rfl, w1, w2⟩, hc1⟩ := RS.get hs1 hx1
    refine runL_idx (b := b1) (off := o1) (len := ((treeSet ([]) ([97]) ([98])).1).length) (cap := c1) (ik := .i64) 16 26 2 0 (by first | omega | (rw [trees_ok.2]; decide)) ?_
    refine runL_bn [0] [(17, Pt b1 (o1 + 0 * 2 + 1))] ?_
    refine runL_ldG 18 9 (cs := [Sr x1.name, Sr x1.value]) 1 (Sr x1.value) hc1 ?_
    refine runL_bn [0,0,0] [(0, Bo (((B x1.value).toList == (B ([98])).toList)))] ?_
    refine runL_put 0 (Bo ((x1.value == [98]))) ((show (Bo (((B x1.value).toList == (B ([98])).toList)) : Value) = Bo ((x1.value == [98])) by simp only [B_toList])) ?_
    refine runL_nil ?_
    refine tq_then ?_
    refine tc_ret ?_
    refine tq_ret [0] [Bo ((x1.value == [98]))] (bp_ret (Mem.le_trans hl1 hl2) ?_)
    have hf_ : ((x1.value == [98])) = true := by
      first | (simp [trees_ok]; done) | (rw [trees_ok.2] at hx1; rw [← Option.some.inj hx1]; rfl) | (have q_ := trees_ok; simp_all; done)
    exact congrArg Bo hf_
  ·
    refine runL_bn [1,1,1,1,1,0,0] [(0, Bo false)] ?_
    refine runL_nil ?_
    refine tq_then ?_
    refine tc_ret ?_
    refine tq_ret [0] [Bo false] (bp_ret hl1 ?_)
    exfalso
    first | (simp [trees_ok]; done) | (rw [trees_ok.2] at hx1; rw [← Option.some.inj hx1]; rfl) | (have q_ := trees_ok; simp_all; done)
end Go.Proofs.YtpofnmobbbcpgaaDoor
