import Derived.Test.YtpofnmobbbcpgaaGreatDoorWire
import Derived.Test.YtpofnmobbbcpgaaGreatDoorStr
import Derived.Test.YtpofnmobbbcpgaaGreatDoorSl
namespace Go.Proofs.YtpofnmobbbcpgaaGreatDoor
open Go.Tx
set_option linter.unusedVariables false
set_option linter.unusedSimpArgs false

theorem putC_first (p r : List UInt8) (h : p.length ≤ 600) : wFirst0 (putC p ++ r) = (p, r, true) := by
  have e1 : (byteI (IntKind.u8.wrap ((p.length : Int).fdiv (2 ^ 8)))).toNat * 256 + (byteI (IntKind.u8.wrap (p.length : Int))).toNat = p.length := by
    have a := byteI_eq (u8w ((p.length : Int).fdiv (2 ^ 8)))
    have b := byteI_eq (u8w (p.length : Int))
    rw [wrap_u8] at a b
    rw [Int.fdiv_eq_ediv_of_nonneg _ (by decide)] at a
    rw [Int.fdiv_eq_ediv_of_nonneg _ (by decide), wrap_u8, wrap_u8]
    omega
  show wFirst0 (byteI _ :: byteI _ :: (p ++ r)) = _
  unfold wFirst0
  simp only
  rw [e1, if_pos (by simp)]
  simp
theorem putOk_bd : ∀ (l : List (List UInt8)) (n : Nat), n ≤ 600 → putOk n l = true → n + (putT l).length ≤ 600 ∧ ∀ p ∈ l, p.length ≤ 600
  | [], n, h, _ => by simp [putT]; exact h
  | p :: l, n, _, h => by
    unfold putOk at h
    simp only [Bool.and_eq_true, decide_eq_true_eq] at h
    have := putOk_bd l _ h.1 h.2
    refine ⟨?_, fun q hq => ?_⟩
    · have e : (putT (p :: l)).length = 2 + p.length + (putT l).length := by simp [putT, putC]; omega
      omega
    · rcases List.mem_cons.1 hq with rfl | hq
      · omega
      · exact this.2 q hq
theorem putOk_iff : ∀ (l : List (List UInt8)) (n : Nat), n ≤ 600 → n + (putT l).length ≤ 600 → putOk n l = true
  | [], _, _, _ => rfl
  | p :: l, n, _, h => by
    have e : (putT (p :: l)).length = 2 + p.length + (putT l).length := by simp [putT, putC]; omega
    unfold putOk
    simp only [Bool.and_eq_true, decide_eq_true_eq]
    exact ⟨by omega, putOk_iff l _ (by omega) (by omega)⟩
theorem putT_append (a b : List (List UInt8)) : putT (a ++ b) = putT a ++ putT b := by simp [putT]
theorem wPut_ok {l : List (List UInt8)} (h : (wPut l).2 = 0) : l.length ≤ 60 ∧ (putT l).length ≤ 600 ∧ (∀ p ∈ l, p.length ≤ 600) ∧ wPut l = (putT l, 0) := by
  unfold wPut at h ⊢
  split at h
  · cases h
  split at h
  · rename_i h1 h2
    have := putOk_bd l 0 (by omega) h2
    rw [if_neg h1, if_pos h2]
    exact ⟨by omega, by omega, this.2, rfl⟩
  · cases h
theorem wPut_of {l : List (List UInt8)} (h : l.length ≤ 60) (h2 : (putT l).length ≤ 600) : wPut l = (putT l, 0) := by
  unfold wPut
  rw [if_neg (by omega), if_pos (putOk_iff l 0 (by omega) (by omega))]
theorem wPut_len (l : List (List UInt8)) : (wPut l).1.length ≤ 600 := by
  by_cases h : (wPut l).2 = 0
  · obtain ⟨_, h2, _, h4⟩ := wPut_ok h
    rw [h4]; exact h2
  · have : (wPut l).1 = [] := by
      revert h; unfold wPut; (repeat' split) <;> simp
    rw [this]; simp
theorem wPut_err {l : List (List UInt8)} (h : ¬ (wPut l).2 = 0) : (wPut l).1 = [] := by
  revert h; unfold wPut; (repeat' split) <;> simp
theorem getN_put : ∀ (l : List (List UInt8)) (n : Nat) (o : List (List UInt8)), (∀ p ∈ l, p.length ≤ 600) → (putT l).length < n → o.length + l.length ≤ 60 → getN n (putT l) o = (o ++ l, 0)
  | [], n + 1, o, _, _, _ => by
    have : putT [] = [] := rfl
    unfold getN; rw [if_pos this, List.append_nil]
  | p :: l, n + 1, o, h, hn, ho => by
    have e : putT (p :: l) = putC p ++ putT l := by simp [putT]
    have e2 : (putC p).length = 2 + p.length := by simp [putC]; omega
    have hf := putC_first p (putT l) (h p (by simp))
    rw [e] at hn ⊢
    unfold getN
    rw [if_neg (by simp [putC]), hf, if_neg (by simp at ho ⊢; omega)]
    simp only
    rw [getN_put l n _ (fun q hq => h q (by simp [hq])) (by rw [List.length_append] at hn; omega) (by simp at ho ⊢; omega)]
    simp
theorem wGet_put {l : List (List UInt8)} (h : (wPut l).2 = 0) : wGet (wPut l).1 = (l, 0) := by
  obtain ⟨h1, h2, h3, h4⟩ := wPut_ok h
  rw [h4]
  unfold wGet
  rw [if_neg (by simp only; omega)]
  simpa using getN_put l _ [] h3 (by simp) (by simpa using h1)
theorem first_put {q : List UInt8} (h : (wFirst0 q).2.2 = true) : putC (wFirst0 q).1 ++ (wFirst0 q).2.1 = q := by
  revert h
  unfold wFirst0
  split
  · rename_i a b r
    split
    · rename_i hl
      intro _
      have ha := a.toNat_lt; have hb := b.toNat_lt
      have hlen : (r.take (a.toNat * 256 + b.toNat)).length = a.toNat * 256 + b.toNat := by simp; omega
      unfold putC
      simp only [hlen]
      rw [Int.fdiv_eq_ediv_of_nonneg _ (by decide), wrap_u8, wrap_u8]
      have e1 : byteI ((((a.toNat * 256 + b.toNat : Nat) : Int) / 2 ^ 8) % 256) = a := by
        unfold byteI; apply UInt8.toNat.inj; rw [UInt8.toNat_ofNat']; omega
      have e2 : byteI (((a.toNat * 256 + b.toNat : Nat) : Int) % 256) = b := by
        unfold byteI; apply UInt8.toNat.inj; rw [UInt8.toNat_ofNat']; omega
      rw [e1, e2]; simp
    · intro h; cases h
  · intro h; cases h
theorem getN_back : ∀ (n : Nat) (q : List UInt8) (o : List (List UInt8)), o.length ≤ 60 → (getN n q o).2 = 0 → ∃ m, (getN n q o).1 = o ++ m ∧ putT m = q ∧ o.length + m.length ≤ 60
  | 0, _, _, _, h => by simp [getN] at h
  | n + 1, q, o, ho, h => by
    unfold getN at h ⊢
    split at h
    · rename_i hq; rw [if_pos hq]; exact ⟨[], by simp, by simp [putT, hq], by simpa using ho⟩
    · rename_i hq
      split at h
      · cases h
      · rename_i h1
        rw [if_neg hq, if_neg h1]
        have hb : (wFirst0 q).2.2 = true := by
          cases hh : (wFirst0 q).2.2 with
          | true => rfl
          | false => exact absurd (.inl hh) h1
        have hn : ¬ o.length = 60 := fun hh => h1 (.inr hh)
        obtain ⟨m, e1, e2, e3⟩ := getN_back n _ _ (by simp; omega) h
        refine ⟨(wFirst0 q).1 :: m, by rw [e1]; simp, ?_, by simp at e3 ⊢; omega⟩
        have e4 : putT ((wFirst0 q).1 :: m) = putC (wFirst0 q).1 ++ putT m := by simp [putT]
        rw [e4, e2]
        exact first_put hb
theorem getN_err : ∀ (n : Nat) (q : List UInt8) (o : List (List UInt8)), ¬ (getN n q o).2 = 0 → (getN n q o).1 = []
  | 0, _, _, _ => by simp [getN]
  | n + 1, q, o, h => by
    unfold getN at h ⊢
    split at h
    · exact absurd rfl h
    · rename_i hq
      split at h
      · rename_i h1; rw [if_neg hq, if_pos h1]
      · rename_i h1; rw [if_neg hq, if_neg h1]; exact getN_err n _ _ h
theorem wGet_back {s : List UInt8} (h : (wGet s).2 = 0) : wPut (wGet s).1 = (s, 0) := by
  unfold wGet at h ⊢
  split at h
  · cases h
  · rename_i hs
    rw [if_neg hs]
    obtain ⟨m, e1, e2, e3⟩ := getN_back _ s [] (by simp) h
    rw [e1, List.nil_append]
    rw [wPut_of (by simpa using e3) (by rw [e2]; omega), e2]
theorem wGet_err {s : List UInt8} (h : ¬ (wGet s).2 = 0) : (wGet s).1 = [] := by
  unfold wGet at h ⊢
  split at h
  · rename_i hs; rw [if_pos hs]
  · rename_i hs; rw [if_neg hs]; exact getN_err _ _ _ h
theorem readNum_num {n : Int} (h : 0 ≤ n ∧ n < 18446744073709551616) : readNum (numB n) = (n, 0) := by
  unfold readNum; rw [if_pos (by simp), readN_numB h.1 h.2]
theorem wJoin_ok {a b : List (List UInt8)} (h : (wPut (a ++ b)).2 = 0) : (wPut a).2 = 0 ∧ (wPut b).2 = 0 ∧ (wPut (a ++ b)).1 = (wPut a).1 ++ (wPut b).1 := by
  obtain ⟨h1, h2, h3, h4⟩ := wPut_ok h
  rw [putT_append] at h2 h4
  simp only [List.length_append] at h1 h2
  have ha := wPut_of (l := a) (by omega) (by omega)
  have hb := wPut_of (l := b) (by omega) (by omega)
  rw [h4, ha, hb]
  exact ⟨rfl, rfl, rfl⟩
theorem wJoin_first {p : List UInt8} {l : List (List UInt8)} (h : (wPut (p :: l)).2 = 0) : wFirst (wPut (p :: l)).1 = (p, putT l, 0) ∧ wPut l = (putT l, 0) := by
  obtain ⟨h1, h2, h3, h4⟩ := wPut_ok h
  have e : putT (p :: l) = putC p ++ putT l := by simp [putT]
  have e2 : (putC p).length = 2 + p.length := by simp [putC]; omega
  rw [h4]
  rw [e] at h2 ⊢
  rw [List.length_append] at h2
  have hf := putC_first p (putT l) (h3 p (by simp))
  refine ⟨?_, wPut_of (by simp at h1; omega) (by omega)⟩
  unfold wFirst
  simp only
  rw [if_neg (by rw [List.length_append]; omega), hf, if_pos rfl]
theorem wJoin_hd {l : List (List UInt8)} {x : List UInt8} (hx : l[0]? = some x) (h : (wPut l).2 = 0) : wFirst (wPut l).1 = (x, putT (l.drop 1), 0) ∧ wPut (l.drop 1) = (putT (l.drop 1), 0) := by
  match l, hx with
  | y :: r, hx => simp at hx; subst hx; exact wJoin_first h
theorem wJoin_case {l : List (List UInt8)} {P : Prop} (h1 : l = [] → P) (h2 : ∀ x, l[0]? = some x → ((wPut l).2 = 0 → wFirst (wPut l).1 = (x, putT (l.drop 1), 0) ∧ wPut (l.drop 1) = (putT (l.drop 1), 0)) → P) : P := by
  match l, h1, h2 with
  | [], h1, _ => exact h1 rfl
  | y :: r, _, h2 => exact h2 y rfl (fun h => wJoin_hd rfl h)
theorem lconcat2 {α : Type} (a b : List α) : lconcat [a, b] = a ++ b := by simp [lconcat]


end Go.Proofs.YtpofnmobbbcpgaaGreatDoor
