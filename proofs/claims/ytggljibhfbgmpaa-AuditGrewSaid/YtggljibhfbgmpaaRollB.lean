import Derived.Test.YtggljibhfbgmpaaRoll
namespace Go.Proofs.Ytggljibhfbgmpaa
open Go.Tx
set_option linter.unusedVariables false
set_option linter.unusedSimpArgs false

theorem snoc_lastI {p : List Int} (h : ¬ p.length = 0) : p.take (p.length - 1) ++ [lastI p] = p := by
  have h1 : p[p.length - 1]? = some (p[p.length - 1]'(by omega)) := List.getElem?_eq_getElem (by omega)
  have h2 : lastI p = p[p.length - 1]'(by omega) := by unfold lastI; rw [h1]; rfl
  have h3 := List.take_append_drop (p.length - 1) p
  rw [List.drop_eq_getElem_cons (by omega), List.drop_eq_nil_of_le (by omega)] at h3
  rw [h2]; exact h3
def dirs (n i : Int) : List Bool := if h : n ≤ 1 then [] else if i < (half n.toNat : Nat) then true :: dirs (half n.toNat : Nat) i else false :: dirs (n - (half n.toNat : Nat)) (i - (half n.toNat : Nat))
  termination_by n.toNat
  decreasing_by
    all_goals have := half_bd (n := n.toNat) (by omega); omega
theorem dirs_end {n i : Int} (h : n ≤ 1) : dirs n i = [] := by rw [dirs, dif_pos h]
theorem dirs_len : ∀ (N : Nat) (n i : Int), n.toNat ≤ N → (dirs n i).length ≤ n.toNat
  | 0, n, i, h => by rw [dirs_end (by omega)]; simp
  | N + 1, n, i, h => by
    by_cases h1 : n ≤ 1
    · rw [dirs_end h1]; simp
    · have hb := half_bd (n := n.toNat) (by omega)
      rw [dirs, dif_neg h1]
      split
      · have := dirs_len N (half n.toNat : Nat) i (by omega)
        simp only [List.length_cons]; omega
      · have := dirs_len N (n - (half n.toNat : Nat)) (i - (half n.toNat : Nat)) (by omega)
        simp only [List.length_cons]; omega
theorem dirs_len40 {n i : Int} (h : 1 ≤ n ∧ n ≤ 40) : (dirs n i).length ≤ 40 := by have := dirs_len n.toNat n i (Nat.le_refl _); omega
theorem dirs_left {n i : Int} (h : ¬ n ≤ 1) (hi : i < (half n.toNat : Nat)) : dirs n i = true :: dirs (half n.toNat : Nat) i := by rw [dirs, dif_neg h, if_pos hi]
theorem dirs_right {n i : Int} (h : ¬ n ≤ 1) (hi : ¬ i < (half n.toNat : Nat)) : dirs n i = false :: dirs (n - (half n.toNat : Nat)) (i - (half n.toNat : Nat)) := by rw [dirs, dif_neg h, if_neg hi]
def foldU : List Bool → List Int → Int → Int
  | d :: ds, q :: ps, m => foldU ds ps (if d then two5 m q else two5 q m)
  | _, _, m => m
theorem foldU_snoc : ∀ (ds : List Bool) (ps : List Int) (m : Int) (d : Bool) (q : Int), ps.length = ds.length → foldU (ds ++ [d]) (ps ++ [q]) m = if d then two5 (foldU ds ps m) q else two5 q (foldU ds ps m)
  | [], [], _, _, _, _ => rfl
  | d' :: ds, q' :: ps, m, d, q, h => by
    show foldU (ds ++ [d]) (ps ++ [q]) _ = _
    exact foldU_snoc ds ps _ d q (by simpa using h)
theorem made_fold : ∀ (N : Nat) (n i m : Int) (p : List Int), n.toNat ≤ N → (p.length = (dirs n i).length → rMade n i m p = (foldU (dirs n i).reverse p m, true)) ∧ (¬ p.length = (dirs n i).length → (rMade n i m p).2 = false)
  | 0, n, i, m, p, h => by
    have h1 : n ≤ 1 := by omega
    rw [dirs_end h1, rMade, dif_pos h1]
    refine ⟨fun e => ?_, fun e => by simpa using e⟩
    have : p = [] := List.eq_nil_of_length_eq_zero (by simpa using e)
    subst this; rfl
  | N + 1, n, i, m, p, h => by
    by_cases h1 : n ≤ 1
    · rw [dirs_end h1, rMade, dif_pos h1]
      refine ⟨fun e => ?_, fun e => by simpa using e⟩
      have : p = [] := List.eq_nil_of_length_eq_zero (by simpa using e)
      subst this; rfl
    · have hb := half_bd (n := n.toNat) (by omega)
      by_cases h2 : i < (half n.toNat : Nat)
      · have ih := made_fold N (half n.toNat : Nat) i m (p.take (p.length - 1)) (by omega)
        rw [dirs_left h1 h2, rMade, dif_neg h1]
        by_cases h3 : p.length = 0
        · rw [if_pos h3]; exact ⟨fun e => by simp at e; omega, fun _ => rfl⟩
        · rw [if_neg h3, if_pos h2]
          refine ⟨fun e => ?_, fun e => ih.2 (by rw [List.length_take]; simp at e; omega)⟩
          have hl : (p.take (p.length - 1)).length = (dirs (half n.toNat : Nat) i).length := by rw [List.length_take]; simp at e; omega
          rw [ih.1 hl, List.reverse_cons]
          conv => rhs; rw [← snoc_lastI h3]
          rw [foldU_snoc _ _ _ _ _ (by rw [List.length_reverse]; exact hl)]; rfl
      · have ih := made_fold N (n - (half n.toNat : Nat)) (i - (half n.toNat : Nat)) m (p.take (p.length - 1)) (by omega)
        rw [dirs_right h1 h2, rMade, dif_neg h1]
        by_cases h3 : p.length = 0
        · rw [if_pos h3]; exact ⟨fun e => by simp at e; omega, fun _ => rfl⟩
        · rw [if_neg h3, if_neg h2]
          refine ⟨fun e => ?_, fun e => ih.2 (by rw [List.length_take]; simp at e; omega)⟩
          have hl : (p.take (p.length - 1)).length = (dirs (n - (half n.toNat : Nat)) (i - (half n.toNat : Nat))).length := by rw [List.length_take]; simp at e; omega
          rw [ih.1 hl, List.reverse_cons]
          conv => rhs; rw [← snoc_lastI h3]
          rw [foldU_snoc _ _ _ _ _ (by rw [List.length_reverse]; exact hl)]; rfl
theorem made_in : ∀ (N : Nat) (l : List (List UInt8)) (k : Nat) (x : List UInt8), l.length ≤ N → l[k]? = some x → rMade l.length k (rOne x) (rIn l k) = (rRoot l, true)
  | 0, l, k, x, h, hx => by have := (List.getElem?_eq_some_iff.1 hx).1; omega
  | N + 1, l, k, x, h, hx => by
    have hk := (List.getElem?_eq_some_iff.1 hx).1
    by_cases h1 : l.length ≤ 1
    · rw [rIn_one h1, rMade, dif_pos (by omega)]
      have : k = 0 := by omega
      subst this
      rw [rRoot_one h1 hx]; rfl
    · have hb := half_bd (n := l.length) (by omega)
      rw [rMade, dif_neg (by omega), Int.toNat_natCast]
      by_cases h2 : (k : Int) < (half l.length : Nat)
      · rw [rIn_left h1 h2, if_neg (by simp), if_pos h2, (lastI_snoc _ _).1, (lastI_snoc _ _).2]
        have ih := made_in N (l.take (half l.length)) k x (by rw [List.length_take]; omega) (by rw [List.getElem?_take]; rw [if_pos (by omega)]; exact hx)
        rw [List.length_take, Nat.min_eq_left (by omega)] at ih
        rw [ih, ← rRoot_two h1]
      · rw [rIn_right h1 h2, if_neg (by simp), if_neg h2, (lastI_snoc _ _).1, (lastI_snoc _ _).2]
        have ih := made_in N (l.drop (half l.length)) (k - half l.length) x (by rw [List.length_drop]; omega) (by rw [List.getElem?_drop, show half l.length + (k - half l.length) = k by omega]; exact hx)
        rw [List.length_drop] at ih
        rw [show ((l.length : Nat) : Int) - ((half l.length : Nat) : Int) = ((l.length - half l.length : Nat) : Int) by omega, show (k : Int) - ((half l.length : Nat) : Int) = ((k - half l.length : Nat) : Int) by omega]
        rw [ih, ← rRoot_two h1]
theorem rIn_dirs : ∀ (N : Nat) (l : List (List UInt8)) (i : Int), l.length ≤ N → (rIn l i).length = (dirs l.length i).length
  | 0, l, i, h => by rw [rIn_one (by omega), dirs_end (by omega)]; rfl
  | N + 1, l, i, h => by
    by_cases h1 : l.length ≤ 1
    · rw [rIn_one h1, dirs_end (by omega)]; rfl
    · have hb := half_bd (n := l.length) (by omega)
      by_cases h2 : i < (half l.length : Nat)
      · rw [rIn_left h1 h2, dirs_left (by omega) (by rw [Int.toNat_natCast]; exact h2), Int.toNat_natCast]
        have ih := rIn_dirs N (l.take (half l.length)) i (by rw [List.length_take]; omega)
        rw [List.length_take, Nat.min_eq_left (by omega)] at ih
        simp [ih]
      · rw [rIn_right h1 h2, dirs_right (by omega) (by rw [Int.toNat_natCast]; exact h2), Int.toNat_natCast]
        have ih := rIn_dirs N (l.drop (half l.length)) (i - (half l.length : Nat)) (by rw [List.length_drop]; omega)
        rw [List.length_drop, show ((l.length - half l.length : Nat) : Int) = ((l.length : Nat) : Int) - ((half l.length : Nat) : Int) by omega] at ih
        simp [ih]
theorem rolls_ok : (rollIn [[97], [98]] 0).2 = 0 ∧ (rollIn [[97], [98]] 0).1.length = 1 := by
  have e : rollIn [[97], [98]] 0 = (rIn [[97], [98]] 0, 0) := by
    unfold rollIn; rw [if_neg (by decide), if_neg (by decide)]
  rw [e]
  refine ⟨rfl, ?_⟩
  show (rIn [[97], [98]] 0).length = 1
  rw [rIn_left (by decide) (by decide), rIn_one (by decide)]; rfl
theorem rollIn_ok {l : List (List UInt8)} {i : Int} (h : (rollIn l i).2 = 0) : rollCheck l = 0 ∧ 0 ≤ i ∧ i < l.length ∧ rollIn l i = (rIn l i, 0) ∧ rollRoot l = (rRoot l, 0) := by
  unfold rollIn at h ⊢
  split at h
  · contradiction
  · rename_i h1
    have h1 : rollCheck l = 0 := Decidable.not_not.1 h1
    split at h
    · cases h
    · rename_i h2
      rw [if_neg (by omega), if_neg h2]
      refine ⟨h1, by omega, by omega, rfl, ?_⟩
      unfold rollRoot; rw [if_neg (by omega)]
theorem rollIn_err {l : List (List UInt8)} {i : Int} (h : ¬ (rollIn l i).2 = 0) : (rollIn l i).1 = [] := by
  revert h; unfold rollIn; (repeat' split) <;> simp
theorem rollIns_law {l : List (List UInt8)} {k : Nat} {x : List UInt8} (h : (rollIn l k).2 = 0) (hx : l[k]? = some x) :
    rollIsIn (rollRoot l).1 l.length k x (rollIn l k).1 = (true, 0) ∧ rollIsIn ((rollRoot l).1 + 1) l.length k x (rollIn l k).1 = (false, 0) ∧ rollIsIn (rollRoot l).1 l.length k x ((rollIn l k).1 ++ [0]) = (false, 0) ∧ (rollRoot l).2 = 0 := by
  obtain ⟨h1, h2, h3, h4, h5⟩ := rollIn_ok h
  have hc := rollCheck_ok h1
  have hl := hc.2.2 x (List.mem_of_getElem? hx)
  rw [h4, h5]
  simp only
  have hm := made_in l.length l k x (Nat.le_refl _) hx
  have hd := rIn_dirs l.length l k (Nat.le_refl _)
  have hf := (made_fold l.length l.length k (rOne x) (rIn l k ++ [0]) (by omega)).2 (by simp [hd])
  unfold rollIsIn
  rw [if_neg (by omega), if_neg (by omega), if_neg (by omega), if_neg (by omega), if_neg (by omega), if_neg (by omega), hm, hf]
  simp; omega
theorem rollRoot_bd (l : List (List UInt8)) : 0 ≤ (rollRoot l).1 ∧ (rollRoot l).1 < 2305843009213693951 := by
  unfold rollRoot; split
  · simp
  · exact rRoot_bd _
theorem both_grew : ∀ (N : Nat) (l : List (List UInt8)) (k : Nat) (w : Bool) (a : Int), l.length ≤ N → 1 ≤ k → k ≤ l.length → (w = true → a = rRoot (l.take k)) → rBoth a k l.length w (rGrew l k w) = (rRoot (l.take k), rRoot l, true)
  | 0, l, k, w, a, h, h1, h2, _ => by omega
  | N + 1, l, k, w, a, h, h1, h2, ha => by
    rw [rGrew, rBoth]
    by_cases e : (k : Int) = l.length
    · rw [if_pos e, if_pos e]
      have e : k = l.length := by omega
      rw [e, List.take_length] at ha ⊢
      cases w with
      | true => simp [ha rfl]
      | false => simp [lastI]
    · rw [if_neg e, if_neg e]
      have hb := half_bd (n := l.length) (by omega)
      rw [dif_neg (show ¬ l.length ≤ 1 by omega), dif_neg (show ¬ ((l.length : Nat) : Int) ≤ 1 by omega), Int.toNat_natCast]
      by_cases h3 : (k : Int) ≤ (half l.length : Nat)
      · rw [if_pos h3, if_neg (by simp), if_pos h3, (lastI_snoc _ _).1, (lastI_snoc _ _).2]
        have et : (l.take (half l.length)).take k = l.take k := by rw [List.take_take, Nat.min_eq_left (by omega)]
        have ih := both_grew N (l.take (half l.length)) k w a (by rw [List.length_take]; omega) h1 (by rw [List.length_take]; omega) (by rw [et]; exact ha)
        rw [List.length_take, Nat.min_eq_left (by omega), et] at ih
        rw [ih, ← rRoot_two (by omega)]
      · rw [if_neg h3, if_neg (by simp), if_neg h3, (lastI_snoc _ _).1, (lastI_snoc _ _).2]
        have ih := both_grew N (l.drop (half l.length)) (k - half l.length) false a (by rw [List.length_drop]; omega) (by omega) (by rw [List.length_drop]; omega) (fun hc => by cases hc)
        rw [List.length_drop] at ih
        rw [show ((l.length : Nat) : Int) - ((half l.length : Nat) : Int) = ((l.length - half l.length : Nat) : Int) by omega, show (k : Int) - ((half l.length : Nat) : Int) = ((k - half l.length : Nat) : Int) by omega]
        rw [ih, ← rRoot_two (show ¬ l.length ≤ 1 by omega)]
        have hm : half (l.take k).length = half l.length := by rw [List.length_take, Nat.min_eq_left h2]; exact half_mid (by omega) h2
        have e2 : rRoot (l.take k) = two5 (rRoot (l.take (half l.length))) (rRoot ((l.drop (half l.length)).take (k - half l.length))) := by
          rw [rRoot_two (show ¬ (l.take k).length ≤ 1 by rw [List.length_take]; omega), hm, List.take_take, Nat.min_eq_left (by omega), List.drop_take]
        rw [e2]
theorem rollIn_len {l : List (List UInt8)} {i : Int} (h : (rollIn l i).2 = 0) : (rollIn l i).1.length ≤ 40 := by
  obtain ⟨h1, h2, h3, h4, h5⟩ := rollIn_ok h
  rw [h4]
  have := rIn_len l.length l i (Nat.le_refl _)
  have := rollCheck_ok h1
  simp only; omega
theorem rollGrew_ok {l : List (List UInt8)} {m : Int} (h : (rollGrew l m).2 = 0) : rollCheck l = 0 ∧ 1 ≤ m ∧ m ≤ l.length ∧ rollGrew l m = (rGrew l m true, 0) ∧ rollRoot l = (rRoot l, 0) := by
  unfold rollGrew at h ⊢
  split at h
  · contradiction
  · rename_i h1
    have h1 : rollCheck l = 0 := Decidable.not_not.1 h1
    split at h
    · cases h
    · rename_i h2
      rw [if_neg (by omega), if_neg h2]
      refine ⟨h1, by omega, by omega, rfl, ?_⟩
      unfold rollRoot; rw [if_neg (by omega)]
theorem rollGrew_err {l : List (List UInt8)} {i : Int} (h : ¬ (rollGrew l i).2 = 0) : (rollGrew l i).1 = [] := by
  revert h; unfold rollGrew; (repeat' split) <;> simp
theorem rollGrew_law {l : List (List UInt8)} {k : Nat} (h : (rollGrew l k).2 = 0) :
    rollIsGrown (rollRoot (l.take k)).1 k (rollRoot l).1 l.length (rollGrew l k).1 = (true, 0) ∧ rollIsGrown (rollRoot (l.take k)).1 k ((rollRoot l).1 + 1) l.length (rollGrew l k).1 = (false, 0) ∧ (rollRoot l).2 = 0 ∧ (rollRoot (l.take k)).2 = 0 := by
  obtain ⟨h1, h2, h3, h4, h5⟩ := rollGrew_ok h
  have hc := rollCheck_ok h1
  have hk : rollCheck (l.take k) = 0 := rollCheck_of ⟨by rw [List.length_take]; omega, by rw [List.length_take]; omega, fun s hs => hc.2.2 s (List.mem_of_mem_take hs)⟩
  have h6 : rollRoot (l.take k) = (rRoot (l.take k), 0) := by unfold rollRoot; rw [if_neg (by omega)]
  rw [h4, h5, h6]
  simp only
  have hb := both_grew l.length l k true (rRoot (l.take k)) (Nat.le_refl _) (by omega) (by omega) (fun _ => rfl)
  unfold rollIsGrown
  rw [if_neg (by omega), if_neg (by omega), hb]
  simp; omega
def stp (d : Bool) (x q : Int) : List UInt8 := if d then markSaid 5 x q else markSaid 5 q x
def saidU : List Bool → List Int → List UInt8 → List (List UInt8)
  | d :: ds, q :: ps, cur => cur :: saidU ds ps (stp d (markOf cur) q)
  | _, _, cur => [cur]
theorem stp_inj {d : Bool} {x y p q : Int} (hx : 0 ≤ x ∧ x < 2305843009213693951) (hy : 0 ≤ y ∧ y < 2305843009213693951) (h : stp d x p = stp d y q) : x = y := by
  unfold stp markSaid at h
  cases d with
  | true =>
    obtain ⟨h1, _⟩ := List.append_inj h (by simp)
    obtain ⟨_, h4⟩ := List.append_inj h1 (by simp)
    exact numB_inj (by omega) (by omega) h4
  | false =>
    obtain ⟨_, h1⟩ := List.append_inj h (by simp)
    exact numB_inj (by omega) (by omega) h1
theorem saidU_clash : ∀ (ds : List Bool) (ps qs : List Int) (c c' : List UInt8), ps.length = ds.length → qs.length = ds.length → ¬ c = c' → foldU ds ps (markOf c) = foldU ds qs (markOf c') →
    ∃ (k : Nat) (a b : List UInt8), (saidU ds ps c)[k]? = some a ∧ (saidU ds qs c')[k]? = some b ∧ ¬ a = b ∧ markOf a = markOf b
  | [], [], [], c, c', _, _, hc, h => ⟨0, c, c', rfl, rfl, hc, h⟩
  | d :: ds, p :: ps, q :: qs, c, c', h1, h2, hc, h => by
    by_cases e : markOf c = markOf c'
    · exact ⟨0, c, c', rfl, rfl, hc, e⟩
    · have hs : ∀ (m r : Int), (if d = true then two5 m r else two5 r m) = markOf (stp d m r) := by intro m r; cases d <;> rfl
      have h' : foldU ds ps (if d = true then two5 (markOf c) p else two5 p (markOf c)) = foldU ds qs (if d = true then two5 (markOf c') q else two5 q (markOf c')) := h
      rw [hs, hs] at h'
      obtain ⟨k, a, b, e1, e2, e3, e4⟩ := saidU_clash ds ps qs (stp d (markOf c) p) (stp d (markOf c') q) (by simpa using h1) (by simpa using h2) (fun hh => e (stp_inj (markOf_bd _) (markOf_bd _) hh)) h'
      exact ⟨k + 1, a, b, e1, e2, e3, e4⟩
theorem saidU_len : ∀ (ds : List Bool) (ps : List Int) (c : List UInt8), ps.length = ds.length → (saidU ds ps c).length = ps.length + 1
  | [], [], _, _ => rfl
  | d :: ds, p :: ps, c, h => by show (saidU ds ps _).length + 1 = _; rw [saidU_len ds ps _ (by simpa using h)]; rfl
theorem saidU_0 (ds : List Bool) (ps : List Int) (c : List UInt8) : (saidU ds ps c)[0]? = some c := by
  cases ds with
  | nil => rfl
  | cons d ds => cases ps <;> rfl
theorem saidU_take1 (ds : List Bool) (ps : List Int) (c : List UInt8) : [c] = (saidU ds ps c).take 1 := by
  cases ds with
  | nil => rfl
  | cons d ds => cases ps <;> rfl
theorem saidU_step : ∀ (ds : List Bool) (ps : List Int) (c : List UInt8) (i : Nat) (a : List UInt8) (d : Bool) (q : Int), (saidU ds ps c)[i]? = some a → ds[i]? = some d → ps[i]? = some q → (saidU ds ps c)[i + 1]? = some (stp d (markOf a) q)
  | [], _, _, _, _, _, _, _, h, _ => by simp at h
  | _ :: _, [], _, _, _, _, _, _, _, h => by simp at h
  | d :: ds, p :: ps, c, 0, a, d', q, h1, h2, h3 => by
    simp at h2 h3; subst h2 h3
    have : a = c := by
      have h1 : some c = some a := h1
      exact (Option.some.inj h1).symm
    subst this
    exact saidU_0 ds ps _
  | d :: ds, p :: ps, c, i + 1, a, d', q, h1, h2, h3 => saidU_step ds ps (stp d (markOf c) p) i a d' q h1 h2 h3
theorem said_step {ds : List Bool} {ps : List Int} {c a : List UInt8} {xo : List (List UInt8)} {xl : List Bool} {i k : Nat} {d : Bool} {q : Int} (ho : xo = (saidU ds.reverse ps c).take (i + 1)) (hl : xl = ds) (hk : ((xl.length : Nat) : Int) - 1 - (i : Int) = (k : Int))
    (h1 : xo[i]? = some a) (h2 : xl[k]? = some d) (h3 : ps[i]? = some q) : xo ++ [stp d (markOf a) q] = (saidU ds.reverse ps c).take (i + 1 + 1) := by
  subst hl
  have e1 : (saidU xl.reverse ps c)[i]? = some a := by rw [ho, List.getElem?_take, if_pos (by omega)] at h1; exact h1
  have hlt := (List.getElem?_eq_some_iff.1 h2).1
  have e2 : xl.reverse[i]? = some d := by rw [List.getElem?_reverse (by omega), show xl.length - 1 - i = k by omega]; exact h2
  have e3 := saidU_step _ _ _ _ _ _ _ e1 e2 h3
  rw [ho]
  conv => rhs; rw [List.take_add_one, e3]
  rfl
theorem rollBinds_law {l : List (List UInt8)} {k : Nat} {x text : List UInt8} {p : List Int} (h : (rollIn l k).2 = 0) (hx : l[k]? = some x) (ht : ¬ text = x) (hi : (rollIsIn (rollRoot l).1 l.length k text p).2 = 0) (hi2 : (rollIsIn (rollRoot l).1 l.length k text p).1 = true) :
    p.length = (dirs l.length k).length ∧ ∃ (j : Nat) (a b : List UInt8), (saidU (dirs l.length k).reverse (rollIn l k).1 ([4] ++ x))[j]? = some a ∧ (saidU (dirs l.length k).reverse p ([4] ++ text))[j]? = some b ∧ ¬ a = b ∧ markOf a = markOf b := by
  obtain ⟨h1, h2, h3, h4, h5⟩ := rollIn_ok h
  rw [h5] at hi hi2
  rw [h4]
  have hd := rIn_dirs l.length l k (Nat.le_refl _)
  have hm := made_in l.length l k x (Nat.le_refl _) hx
  have hf := made_fold l.length l.length k (rOne text) p (by omega)
  have hg := (made_fold l.length l.length k (rOne x) (rIn l k) (by omega)).1 hd
  unfold rollIsIn at hi hi2
  have hc := rollCheck_ok h1
  rw [if_neg (by omega)] at hi hi2
  split at hi
  · cases hi
  · rename_i h6
    rw [if_neg h6] at hi2
    simp only [Bool.and_eq_true, decide_eq_true_eq] at hi2
    have hp : p.length = (dirs l.length k).length := by
      apply Classical.byContradiction; intro hc2
      rw [hf.2 hc2] at hi2; exact absurd hi2.1 (by simp)
    refine ⟨hp, ?_⟩
    rw [hf.1 hp] at hi2
    rw [hm] at hg
    have e := (Prod.mk.inj hg).1
    refine saidU_clash _ _ _ _ _ (by rw [List.length_reverse]; exact hd) (by rw [List.length_reverse]; exact hp) (fun hc => ht ?_) ?_
    · simpa using hc.symm
    · exact (e.symm.trans hi2.2.symm)
theorem rIsIn_err {l : List (List UInt8)} {k : Nat} {r : Int} {text : List UInt8} {p : List Int} (h : (rollIn l k).2 = 0) : (rollIsIn r l.length k text p).2 = 0 ∨ (rollIsIn r l.length k text p).2 = 2 := by
  obtain ⟨h1, h2, h3, h4, h5⟩ := rollIn_ok h
  have hc := rollCheck_ok h1
  unfold rollIsIn
  rw [if_neg (by omega)]
  split
  · exact .inr rfl
  · exact .inl rfl
theorem good2 {a b : Int} (h : (([a, b]).any fun x0 => !decide (x0 = 0)) = false) : a = 0 ∧ b = 0 := by simpa using h
theorem rollBinds_all {l : List (List UInt8)} {i : Int} {k : Nat} {x text : List UInt8} {p : List Int} (hi : i = (k : Int)) (h1 : (([(rollRoot l).2, (rollIn l i).2]).any fun x0 => !decide (x0 = 0)) = false) (hx : l[k]? = some x) (h2 : ¬ text = x)
    (h3 : (rollIsIn (rollRoot l).1 l.length k text p).2 = 0 ∧ (rollIsIn (rollRoot l).1 l.length k text p).1 = true) :
    (1 ≤ (l.length : Int) ∧ (l.length : Int) ≤ 40) ∧ k < l.length ∧ x.length ≤ 40 ∧ text.length ≤ 40 ∧ (rollIn l i).1.length = (dirs l.length k).length ∧ p.length = (dirs l.length k).length ∧
    (saidU (dirs l.length k).reverse (rollIn l i).1 ([4] ++ x)).length = p.length + 1 ∧ (saidU (dirs l.length k).reverse p ([4] ++ text)).length = p.length + 1 ∧
    ∃ (j : Nat) (a b : List UInt8), (saidU (dirs l.length k).reverse (rollIn l i).1 ([4] ++ x))[j]? = some a ∧ (saidU (dirs l.length k).reverse p ([4] ++ text))[j]? = some b ∧ ¬ a = b ∧ markOf a = markOf b := by
  subst hi
  have g := (good2 h1).2
  obtain ⟨a1, a2, a3, a4, a5⟩ := rollIn_ok g
  have hc := rollCheck_ok a1
  obtain ⟨b1, b2⟩ := rollBinds_law g hx h2 h3.1 h3.2
  have hd : (rollIn l k).1.length = (dirs l.length k).length := by rw [a4]; exact rIn_dirs l.length l k (Nat.le_refl _)
  have ht : text.length ≤ 40 := by
    have e := h3.1
    unfold rollIsIn at e
    rw [if_neg (by omega)] at e
    split at e
    · cases e
    · omega
  exact ⟨by omega, by omega, hc.2.2 x (List.mem_of_getElem? hx), ht, hd, b1, by rw [saidU_len _ _ _ (by rw [List.length_reverse]; exact hd)]; omega, by rw [saidU_len _ _ _ (by rw [List.length_reverse]; exact b1)], b2⟩
theorem ncl_step {A B : List (List UInt8)} {j : Nat} {x y : List UInt8} (hn : ∀ (q : Nat) (u v : List UInt8), q < j → A[q]? = some u → B[q]? = some v → ¬ (¬ u = v ∧ markOf u = markOf v)) (hx : A[j]? = some x) (hy : B[j]? = some y) (h : ¬ (¬ x = y ∧ markOf x = markOf y)) :
    ∀ (q : Nat) (u v : List UInt8), q < j + 1 → A[q]? = some u → B[q]? = some v → ¬ (¬ u = v ∧ markOf u = markOf v) := by
  intro q u v hq hu hv
  by_cases e : q = j
  · subst e
    rw [hx] at hu; rw [hy] at hv
    obtain rfl := Option.some.inj hu
    obtain rfl := Option.some.inj hv
    exact h
  · exact hn q u v (by omega) hu hv

theorem rolls_con (G : Mem)   : Con Try.prog 29 #[] G [] (fun u G' L' => u = Bo true) := by
  refine con_of Try.func29 15 [] rfl (fun w0 G0 => ?_)
  refine tc_rb [0] [(0, Bo false)] ?_
  refine tc_seq ?_
  refine tc_region ?_
  refine runL_bsl 4 2 #[Sr ([97]), Sr ([98])] 9 (fun b1 => ?_)
  refine runL_frz1 (b := b1) (o := 0) (cs := [Sr ([97]), Sr ([98])]) 0 (fun G1 hl1 hz1 => ?_)
  have hs1 : RS ES G1 (At b1 0) 2 [[97], [98]] := RS.lit [[Sr ([97])], [Sr ([98])]] [[97], [98]] ⟨⟨rfl, (Nat.le_of_ble_eq_true rfl)⟩, ⟨⟨rfl, (Nat.le_of_ble_eq_true rfl)⟩, trivial⟩⟩ hz1 (Nat.le_of_ble_eq_true rfl) (Nat.le_of_ble_eq_true rfl)
  refine runL_callR 5 (rollIn_con G1 (At b1 0) 2 ([[97], [98]]) hs1 0) (fun v G2 L1 hl2 hp => ?_)
  obtain ⟨a1, c1, rfl, hs2, rfl⟩ := hp
  refine runL_b [0,0,0,0,0] [(0, Bo false), (1, Sl a1 (((rollIn ([[97], [98]]) 0).1).length) c1), (2, I ((rollIn ([[97], [98]]) 0).2))] ?_
  refine runL_nil ?_
  refine tq_then ?_
  refine tc_seq ?_
  refine tc_region ?_
  refine runL_b [0,0,0] [(0, Bo false), (1, Sl a1 (((rollIn ([[97], [98]]) 0).1).length) c1), (10, Bo (decide ((rollIn ([[97], [98]]) 0).2 = 0)))] ?_
  refine runL_b2 (decide ((rollIn ([[97], [98]]) 0).2 = 0)) (fun bb => [(0, Bo false), (1, Sl a1 (((rollIn ([[97], [98]]) 0).1).length) c1), (10, Bo bb)]) [0,0,0,0] [1,1,1,0] (fun bb => [(0, Bo false), (14, Bo (bb && (decide (((((rollIn ([[97], [98]]) 0).1).length : Nat) : Int) = 1))))]) ?_
  refine runL_b [0] [(0, Bo ((decide ((rollIn ([[97], [98]]) 0).2 = 0)) && (decide (((((rollIn ([[97], [98]]) 0).1).length : Nat) : Int) = 1))))] ?_
  refine runL_nil ?_
  refine tq_then ?_
  refine tc_ret ?_
  refine tq_ret [0] [Bo ((decide ((rollIn ([[97], [98]]) 0).2 = 0)) && (decide (((((rollIn ([[97], [98]]) 0).1).length : Nat) : Int) = 1)))] (bp_ret (Mem.le_trans hl1 hl2) ?_)
  have hf_ : ((decide ((rollIn ([[97], [98]]) 0).2 = 0)) && (decide (((((rollIn ([[97], [98]]) 0).1).length : Nat) : Int) = 1))) = true := by
    first | (simp [rolls_ok]; done) | (exact absurd rolls_ok.1 (by assumption))
  exact congrArg Bo hf_

theorem rollIns_con (G : Mem) (a_l : Option Addr) (c_l : Nat) (l : List ((List UInt8))) (h_l : RS ES G a_l c_l l) (i : Int) (hw_i : -9223372036854775808 ≤ i ∧ i < 9223372036854775808) (hf_l : l.length * 16 ≤ 140737488351232) : Con Try.prog 7 #[Sl a_l l.length c_l, I i] G [] (fun u G' L' => u = Bo true) := by
  refine con_of Try.func7 93 [(0, Sl a_l l.length c_l), (1, I i)] rfl (fun w0 G0 => ?_)
  refine tc_rb [0] [(0, Sl a_l l.length c_l), (1, I i), (4, Bo false)] ?_
  refine tc_seq ?_
  refine tc_seq ?_
  refine tc_region ?_
  refine runL_callV 15 (Bo true) (rolls_con G) ?_
  refine runL_b [0] [(0, Sl a_l l.length c_l), (1, I i), (4, Bo false), (16, Bo false)] ?_
  refine runL_nil ?_
  refine tq_then ?_
  refine tc_cond_false ?_
  refine tc_skip ?_
  refine tq_then ?_
  refine tc_seq ?_
  refine tc_region ?_
  refine runL_b [0,0] [(0, Sl a_l l.length c_l), (1, I i), (4, Bo false), (16, Bo false), (18, Sl a_l l.length c_l), (19, I i)] ?_
  refine runL_callR 20 (rollIn_con G a_l c_l l h_l i) (fun v G1 L1 hl1 hp => ?_)
  obtain ⟨a1, c1, rfl, hs1, rfl⟩ := hp
  refine runL_b [0,0,0,0,0] [(0, Sl a_l l.length c_l), (1, I i), (4, Bo false), (5, Sl a1 (((rollIn l i).1).length) c1), (6, I ((rollIn l i).2)), (16, Bo false)] ?_
  refine runL_nil ?_
  refine tq_then ?_
  refine tc_seq ?_
  refine tc_rb [0,0] [(0, Sl a_l l.length c_l), (1, I i), (4, Bo false), (5, Sl a1 (((rollIn l i).1).length) c1), (16, Bo false), (24, Bo (!decide ((rollIn l i).2 = 0)))] ?_
  refine tc_cond (!decide ((rollIn l i).2 = 0)) (fun h1 => ?_) (fun h1 => ?_)
  ·
    try simp only [decide_eq_true_eq, decide_eq_false_iff_not, Bool.and_eq_true, Bool.or_eq_true, Bool.and_eq_false_imp, Bool.or_eq_false_iff, Bool.not_eq_true', Bool.not_eq_false', Bool.not_eq_true, Bool.not_eq_false, beq_iff_eq, beq_eq_false_iff_ne, bne_iff_ne, ne_eq, Decidable.not_not, Int.not_lt, Int.not_le] at h1
    refine tc_rb [0,0,0,0] [(0, Sl a_l l.length c_l), (1, I i), (4, Bo (decide (((((rollIn l i).1).length : Nat) : Int) = 0))), (5, Sl a1 (((rollIn l i).1).length) c1), (16, Bo false), (24, Bo (!decide ((rollIn l i).2 = 0)))] ?_
    refine tc_ret ?_
    refine tq_then_ret ?_
    refine tq_ret [0] [Bo (decide (((((rollIn l i).1).length : Nat) : Int) = 0))] (bp_ret hl1 ?_)
    have hf_ : (decide (((((rollIn l i).1).length : Nat) : Int) = 0)) = true := by
      first | (simp [rollIn_err (by assumption)]; done) | (subst hkn1; have q_ := rollIns_law (by assumption) (by assumption); simp [q_])
    exact congrArg Bo hf_
  ·
    try simp only [decide_eq_true_eq, decide_eq_false_iff_not, Bool.and_eq_true, Bool.or_eq_true, Bool.and_eq_false_imp, Bool.or_eq_false_iff, Bool.not_eq_true', Bool.not_eq_false', Bool.not_eq_true, Bool.not_eq_false, beq_iff_eq, beq_eq_false_iff_ne, bne_iff_ne, ne_eq, Decidable.not_not, Int.not_lt, Int.not_le] at h1
    refine tc_skip ?_
    refine tq_then ?_
    refine tc_seq ?_
    refine tc_region ?_
    refine runL_b [0] [(0, Sl a_l l.length c_l), (1, I i), (4, Bo false), (5, Sl a1 (((rollIn l i).1).length) c1), (16, Bo false), (24, Bo (!decide ((rollIn l i).2 = 0))), (29, Sl a_l l.length c_l)] ?_
    refine runL_callV 30 (.tuple #[U ((rollRoot l).1), I ((rollRoot l).2)]) (rollRoot_con G1 a_l c_l l (h_l.mono hl1)) ?_
    refine runL_b [0,0,0,0,0] [(0, Sl a_l l.length c_l), (1, I i), (4, Bo false), (5, Sl a1 (((rollIn l i).1).length) c1), (7, U ((rollRoot l).1)), (8, I ((rollRoot l).2)), (16, Bo false), (24, Bo (!decide ((rollIn l i).2 = 0)))] ?_
    refine runL_nil ?_
    refine tq_then ?_
    refine tc_seq ?_
    refine tc_region ?_
    refine runL_b [0,0,0,0,0,0] [(0, Sl a_l l.length c_l), (1, I i), (4, Bo false), (5, Sl a1 (((rollIn l i).1).length) c1), (7, U ((rollRoot l).1)), (8, I ((rollRoot l).2)), (16, Bo false), (24, Bo (!decide ((rollIn l i).2 = 0))), (34, U ((rollRoot l).1)), (36, I (((l.length : Nat) : Int))), (37, I i), (38, Sl a_l l.length c_l), (39, I i)] ?_
    obtain ⟨kn1, hkn1⟩ : ∃ k_ : Nat, i = (k_ : Int) := ⟨(i).toNat, by first | omega | (have q_ := rollIn_ok (by assumption); omega) | (have q_ := rollGrew_ok (by assumption); omega) | (have q_ := rollRoot_bd l; omega)⟩
    have e1 : i = (kn1 : Int) := hkn1
    refine runL_eq (fr' := [(0, Sl a_l l.length c_l), (1, I ((kn1 : Int))), (4, Bo false), (5, Sl a1 (((rollIn l i).1).length) c1), (7, U ((rollRoot l).1)), (8, I ((rollRoot l).2)), (16, Bo false), (24, Bo (!decide ((rollIn l i).2 = 0))), (34, U ((rollRoot l).1)), (36, I (((l.length : Nat) : Int))), (37, I ((kn1 : Int))), (38, Sl a_l l.length c_l), (39, I ((kn1 : Int)))]) (L' := []) (by first | rfl | simp only [e1]) (by first | rfl | simp only [e1]) ?_
    obtain ⟨b1, o1, rfl⟩ := RS.addr (h_l.mono hl1) (k := kn1) (by first | omega | (have q_ := rollIn_ok (by assumption); omega) | (have q_ := rollGrew_ok (by assumption); omega) | (have q_ := rollRoot_bd l; omega))
    obtain ⟨x1, hx1⟩ := getX (l := l) (k := kn1) (by first | omega | (have q_ := rollIn_ok (by assumption); omega) | (have q_ := rollGrew_ok (by assumption); omega) | (have q_ := rollRoot_bd l; omega))
    obtain ⟨_, ⟨rfl, w1⟩, hc1⟩ := RS.get (h_l.mono hl1) hx1
    refine runL_idx (b := b1) (off := o1) (len := l.length) (cap := c_l) (ik := .i64) 40 9 1 kn1 (by first | omega | (have q_ := rollIn_ok (by assumption); omega) | (have q_ := rollGrew_ok (by assumption); omega) | (have q_ := rollRoot_bd l; omega)) ?_
    refine runL_ldG 41 9 (cs := [Sr x1]) 0 (Sr x1) hc1 ?_
    refine runL_b [0] [(0, Sl (At b1 o1) l.length c_l), (1, I ((kn1 : Int))), (4, Bo false), (5, Sl a1 (((rollIn l i).1).length) c1), (7, U ((rollRoot l).1)), (8, I ((rollRoot l).2)), (16, Bo false), (24, Bo (!decide ((rollIn l i).2 = 0))), (34, U ((rollRoot l).1)), (36, I (((l.length : Nat) : Int))), (37, I ((kn1 : Int))), (41, Sr x1), (42, Sl a1 (((rollIn l i).1).length) c1)] ?_
    refine runL_callV 43 (.tuple #[Bo ((rollIsIn ((rollRoot l).1) (((l.length : Nat) : Int)) ((kn1 : Int)) x1 ((rollIn l i).1)).1), I ((rollIsIn ((rollRoot l).1) (((l.length : Nat) : Int)) ((kn1 : Int)) x1 ((rollIn l i).1)).2)]) (rollIsIn_con G1 ((rollRoot l).1) (((l.length : Nat) : Int)) ((kn1 : Int)) x1 w1 a1 c1 ((rollIn l i).1) hs1) ?_
    refine runL_b [0,0,0,0,0] [(0, Sl (At b1 o1) l.length c_l), (1, I ((kn1 : Int))), (4, Bo false), (5, Sl a1 (((rollIn l i).1).length) c1), (7, U ((rollRoot l).1)), (8, I ((rollRoot l).2)), (9, Bo ((rollIsIn ((rollRoot l).1) (((l.length : Nat) : Int)) ((kn1 : Int)) x1 ((rollIn l i).1)).1)), (10, I ((rollIsIn ((rollRoot l).1) (((l.length : Nat) : Int)) ((kn1 : Int)) x1 ((rollIn l i).1)).2)), (16, Bo false), (24, Bo (!decide ((rollIn l i).2 = 0)))] ?_
    refine runL_nil ?_
    refine tq_then ?_
    refine tc_seq ?_
    refine tc_region ?_
    refine runL_b [0,0,0,0,0,0,0] [(0, Sl (At b1 o1) l.length c_l), (1, I ((kn1 : Int))), (4, Bo false), (5, Sl a1 (((rollIn l i).1).length) c1), (7, U ((rollRoot l).1)), (8, I ((rollRoot l).2)), (9, Bo ((rollIsIn ((rollRoot l).1) (((l.length : Nat) : Int)) ((kn1 : Int)) x1 ((rollIn l i).1)).1)), (10, I ((rollIsIn ((rollRoot l).1) (((l.length : Nat) : Int)) ((kn1 : Int)) x1 ((rollIn l i).1)).2)), (16, Bo false), (24, Bo (!decide ((rollIn l i).2 = 0))), (48, U (IntKind.u64.wrap (((rollRoot l).1) + 1))), (50, I (((l.length : Nat) : Int))), (51, I ((kn1 : Int))), (52, Sl (At b1 o1) l.length c_l), (53, I ((kn1 : Int)))] ?_
    have e2 : IntKind.u64.wrap (((rollRoot l).1) + 1) = ((rollRoot l).1) + 1 := IntWalk.u64_in _ (by first | omega | (have q_ := rollIn_ok (by assumption); omega) | (have q_ := rollGrew_ok (by assumption); omega) | (have q_ := rollRoot_bd l; omega))
    refine runL_eq (fr' := [(0, Sl (At b1 o1) l.length c_l), (1, I ((kn1 : Int))), (4, Bo false), (5, Sl a1 (((rollIn l i).1).length) c1), (7, U ((rollRoot l).1)), (8, I ((rollRoot l).2)), (9, Bo ((rollIsIn ((rollRoot l).1) (((l.length : Nat) : Int)) ((kn1 : Int)) x1 ((rollIn l i).1)).1)), (10, I ((rollIsIn ((rollRoot l).1) (((l.length : Nat) : Int)) ((kn1 : Int)) x1 ((rollIn l i).1)).2)), (16, Bo false), (24, Bo (!decide ((rollIn l i).2 = 0))), (48, U (((rollRoot l).1) + 1)), (50, I (((l.length : Nat) : Int))), (51, I ((kn1 : Int))), (52, Sl (At b1 o1) l.length c_l), (53, I ((kn1 : Int)))]) (L' := []) (by simp only [e2]) (by rfl) ?_
    clear e2
    refine runL_idx (b := b1) (off := o1) (len := l.length) (cap := c_l) (ik := .i64) 54 9 1 kn1 (by first | omega | (have q_ := rollIn_ok (by assumption); omega) | (have q_ := rollGrew_ok (by assumption); omega) | (have q_ := rollRoot_bd l; omega)) ?_
    refine runL_ldG 55 9 (cs := [Sr x1]) 0 (Sr x1) hc1 ?_
    refine runL_b [0] [(0, Sl (At b1 o1) l.length c_l), (1, I ((kn1 : Int))), (4, Bo false), (5, Sl a1 (((rollIn l i).1).length) c1), (7, U ((rollRoot l).1)), (8, I ((rollRoot l).2)), (9, Bo ((rollIsIn ((rollRoot l).1) (((l.length : Nat) : Int)) ((kn1 : Int)) x1 ((rollIn l i).1)).1)), (10, I ((rollIsIn ((rollRoot l).1) (((l.length : Nat) : Int)) ((kn1 : Int)) x1 ((rollIn l i).1)).2)), (16, Bo false), (24, Bo (!decide ((rollIn l i).2 = 0))), (48, U (((rollRoot l).1) + 1)), (50, I (((l.length : Nat) : Int))), (51, I ((kn1 : Int))), (55, Sr x1), (56, Sl a1 (((rollIn l i).1).length) c1)] ?_
    refine runL_callV 57 (.tuple #[Bo ((rollIsIn (((rollRoot l).1) + 1) (((l.length : Nat) : Int)) ((kn1 : Int)) x1 ((rollIn l i).1)).1), I ((rollIsIn (((rollRoot l).1) + 1) (((l.length : Nat) : Int)) ((kn1 : Int)) x1 ((rollIn l i).1)).2)]) (rollIsIn_con G1 (((rollRoot l).1) + 1) (((l.length : Nat) : Int)) ((kn1 : Int)) x1 w1 a1 c1 ((rollIn l i).1) hs1) ?_
    refine runL_b [0,0,0,0,0] [(0, Sl (At b1 o1) l.length c_l), (1, I ((kn1 : Int))), (4, Bo false), (5, Sl a1 (((rollIn l i).1).length) c1), (7, U ((rollRoot l).1)), (8, I ((rollRoot l).2)), (9, Bo ((rollIsIn ((rollRoot l).1) (((l.length : Nat) : Int)) ((kn1 : Int)) x1 ((rollIn l i).1)).1)), (10, I ((rollIsIn ((rollRoot l).1) (((l.length : Nat) : Int)) ((kn1 : Int)) x1 ((rollIn l i).1)).2)), (11, Bo ((rollIsIn (((rollRoot l).1) + 1) (((l.length : Nat) : Int)) ((kn1 : Int)) x1 ((rollIn l i).1)).1)), (12, I ((rollIsIn (((rollRoot l).1) + 1) (((l.length : Nat) : Int)) ((kn1 : Int)) x1 ((rollIn l i).1)).2)), (16, Bo false), (24, Bo (!decide ((rollIn l i).2 = 0)))] ?_
    refine runL_nil ?_
    refine tq_then ?_
    refine tc_seq ?_
    refine tc_draw [9, 10, 11, 12] ?_
    refine dr_V [(0, U ((rollRoot l).1)), (1, Sl (At b1 o1) l.length c_l), (2, I (((l.length : Nat) : Int))), (3, I ((kn1 : Int))), (4, Sl (At b1 o1) l.length c_l), (5, I ((kn1 : Int))), (6, Pt b1 (o1 + kn1 * 1)), (7, Sr x1), (8, Sl a1 (((rollIn l i).1).length) c1)] ?_
    refine dr_mid [] [(0,0), (1,0), (2,0), (3,0), (4,0), (5,0), (8,0)] [6, 7] [9, 10] (List.forall_mem_cons.2 ⟨?_, (List.forall_mem_cons.2 ⟨?_, List.forall_mem_nil _⟩)⟩) (List.forall_mem_cons.2 ⟨?_, (List.forall_mem_cons.2 ⟨?_, List.forall_mem_nil _⟩)⟩)
    · refine stab_of 6 67 (Pt b1 (o1 + kn1 * 1)) [(65, Sl (At b1 o1) l.length c_l), (66, I ((kn1 : Int)))] (fun X => ?_)
      exact runL_idx (b := b1) (off := o1) (len := l.length) (cap := c_l) (ik := .i64) 67 9 1 kn1 (by first | omega | (have q_ := rollIn_ok (by assumption); omega) | (have q_ := rollGrew_ok (by assumption); omega) | (have q_ := rollRoot_bd l; omega)) stab_end
    · refine stab_of 7 68 (Sr x1) [(67, Pt b1 (o1 + kn1 * 1))] (fun X => ?_)
      exact runL_ldG 68 9 (cs := [Sr x1]) 0 (Sr x1) hc1 stab_end
    ·
      refine act_of 9 [(69, Sl a1 (((rollIn l i).1).length) c1)] (fun X => ?_)
      refine runL_callR 70 (sclone_EU G1 a1 c1 ((rollIn l i).1) hs1) (fun v G2 L1 hl2 hp => ?_)
      obtain ⟨a2, c2, r1, rfl, hr1, rfl⟩ := hp
      refine act_end (V' := [(0, U ((rollRoot l).1)), (1, Sl (At b1 o1) l.length c_l), (2, I (((l.length : Nat) : Int))), (3, I ((kn1 : Int))), (4, Sl (At b1 o1) l.length c_l), (5, I ((kn1 : Int))), (6, Pt b1 (o1 + kn1 * 1)), (7, Sr x1), (8, Sl a1 (((rollIn l i).1).length) c1), (9, Sl a2 (((rollIn l i).1).length) c2)]) ?_
      refine dr_mid [8] [(0,0), (1,0), (2,0), (3,0), (4,0), (5,0)] [6, 7] [10] (List.forall_mem_cons.2 ⟨?_, (List.forall_mem_cons.2 ⟨?_, List.forall_mem_nil _⟩)⟩) (List.forall_mem_cons.2 ⟨?_, List.forall_mem_nil _⟩)
      · refine stab_of 6 67 (Pt b1 (o1 + kn1 * 1)) [(65, Sl (At b1 o1) l.length c_l), (66, I ((kn1 : Int)))] (fun X => ?_)
        exact runL_idx (b := b1) (off := o1) (len := l.length) (cap := c_l) (ik := .i64) 67 9 1 kn1 (by first | omega | (have q_ := rollIn_ok (by assumption); omega) | (have q_ := rollGrew_ok (by assumption); omega) | (have q_ := rollRoot_bd l; omega)) stab_end
      · refine stab_of 7 68 (Sr x1) [(67, Pt b1 (o1 + kn1 * 1))] (fun X => ?_)
        exact runL_ldG 68 9 (cs := [Sr x1]) 0 (Sr x1) (fun j v hv => hl2 _ _ _ (hc1 j v hv)) stab_end
      refine act_of 10 [] (fun X => ?_)
      refine runL_bsl 71 1 #[U 0] 26 (fun b2 => ?_)
      refine act_end (V' := [(0, U ((rollRoot l).1)), (1, Sl (At b1 o1) l.length c_l), (2, I (((l.length : Nat) : Int))), (3, I ((kn1 : Int))), (4, Sl (At b1 o1) l.length c_l), (5, I ((kn1 : Int))), (6, Pt b1 (o1 + kn1 * 1)), (7, Sr x1), (8, Sl a1 (((rollIn l i).1).length) c1), (9, Sl a2 (((rollIn l i).1).length) c2), (10, Sl (At b2 0) 1 1)]) ?_
      refine dr_mid [8] [(0,0), (1,0), (2,0), (3,0), (4,0), (5,0)] [6, 7] [11] (List.forall_mem_cons.2 ⟨?_, (List.forall_mem_cons.2 ⟨?_, List.forall_mem_nil _⟩)⟩) (List.forall_mem_cons.2 ⟨?_, List.forall_mem_nil _⟩)
      · refine stab_of 6 67 (Pt b1 (o1 + kn1 * 1)) [(65, Sl (At b1 o1) l.length c_l), (66, I ((kn1 : Int)))] (fun X => ?_)
        exact runL_idx (b := b1) (off := o1) (len := l.length) (cap := c_l) (ik := .i64) 67 9 1 kn1 (by first | omega | (have q_ := rollIn_ok (by assumption); omega) | (have q_ := rollGrew_ok (by assumption); omega) | (have q_ := rollRoot_bd l; omega)) stab_end
      · refine stab_of 7 68 (Sr x1) [(67, Pt b1 (o1 + kn1 * 1))] (fun X => ?_)
        exact runL_ldG 68 9 (cs := [Sr x1]) 0 (Sr x1) (fun j v hv => hl2 _ _ _ (hc1 j v hv)) stab_end
      refine act_of 11 [(70, Sl a2 (((rollIn l i).1).length) c2), (71, Sl (At b2 0) 1 1)] (fun X => ?_)
      refine runL_app1' (b := b2) (cs := [U 0]) 72 26 1 0 (E := EU) 0 hr1 ⟨rfl, (by first | assumption | omega | (simp; done) | (simp; omega))⟩ (by have q_ := rollIn_len (by assumption); (try simp only [EU, List.length_append, List.length_cons, List.length_nil]); omega) (by have q_ := rollIn_len (by assumption); (try simp only [EU, List.length_append, List.length_cons, List.length_nil]); omega) (fun a3 c3 r2 hr2 => ?_)
      refine act_end (V' := [(0, U ((rollRoot l).1)), (1, Sl (At b1 o1) l.length c_l), (2, I (((l.length : Nat) : Int))), (3, I ((kn1 : Int))), (4, Sl (At b1 o1) l.length c_l), (5, I ((kn1 : Int))), (6, Pt b1 (o1 + kn1 * 1)), (7, Sr x1), (8, Sl a1 (((rollIn l i).1).length) c1), (9, Sl a2 (((rollIn l i).1).length) c2), (10, Sl (At b2 0) 1 1), (11, Sl a3 ((((rollIn l i).1) ++ [0]).length) c3)]) ?_
      refine dr_mid [8] [(0,0), (1,0), (2,0), (3,0), (4,0), (5,0)] [6, 7] [12] (List.forall_mem_cons.2 ⟨?_, (List.forall_mem_cons.2 ⟨?_, List.forall_mem_nil _⟩)⟩) (List.forall_mem_cons.2 ⟨?_, List.forall_mem_nil _⟩)
      · refine stab_of 6 67 (Pt b1 (o1 + kn1 * 1)) [(65, Sl (At b1 o1) l.length c_l), (66, I ((kn1 : Int)))] (fun X => ?_)
        exact runL_idx (b := b1) (off := o1) (len := l.length) (cap := c_l) (ik := .i64) 67 9 1 kn1 (by first | omega | (have q_ := rollIn_ok (by assumption); omega) | (have q_ := rollGrew_ok (by assumption); omega) | (have q_ := rollRoot_bd l; omega)) stab_end
      · refine stab_of 7 68 (Sr x1) [(67, Pt b1 (o1 + kn1 * 1))] (fun X => ?_)
        exact runL_ldG 68 9 (cs := [Sr x1]) 0 (Sr x1) (fun j v hv => hl2 _ _ _ (hc1 j v hv)) stab_end
      refine act_of 12 [(61, U ((rollRoot l).1)), (63, I (((l.length : Nat) : Int))), (64, I ((kn1 : Int))), (68, Sr x1), (72, Sl a3 ((((rollIn l i).1) ++ [0]).length) c3)] (fun X => ?_)
      refine runL_frzR (E := EU) 1 hr2 (by have q_ := rollIn_len (by assumption); (try simp only [EU, List.length_append, List.length_cons, List.length_nil]); omega) (fun G3 hl3 hs2 => ?_)
      refine runL_callV 73 (.tuple #[Bo ((rollIsIn ((rollRoot l).1) (((l.length : Nat) : Int)) ((kn1 : Int)) x1 (((rollIn l i).1) ++ [0])).1), I ((rollIsIn ((rollRoot l).1) (((l.length : Nat) : Int)) ((kn1 : Int)) x1 (((rollIn l i).1) ++ [0])).2)]) (rollIsIn_con G3 ((rollRoot l).1) (((l.length : Nat) : Int)) ((kn1 : Int)) x1 w1 a3 c3 (((rollIn l i).1) ++ [0]) hs2) ?_
      refine act_end (V' := [(0, U ((rollRoot l).1)), (1, Sl (At b1 o1) l.length c_l), (2, I (((l.length : Nat) : Int))), (3, I ((kn1 : Int))), (4, Sl (At b1 o1) l.length c_l), (5, I ((kn1 : Int))), (6, Pt b1 (o1 + kn1 * 1)), (7, Sr x1), (8, Sl a1 (((rollIn l i).1).length) c1), (9, Sl a2 (((rollIn l i).1).length) c2), (10, Sl (At b2 0) 1 1), (11, Sl a3 ((((rollIn l i).1) ++ [0]).length) c3), (12, .tuple #[Bo ((rollIsIn ((rollRoot l).1) (((l.length : Nat) : Int)) ((kn1 : Int)) x1 (((rollIn l i).1) ++ [0])).1), I ((rollIsIn ((rollRoot l).1) (((l.length : Nat) : Int)) ((kn1 : Int)) x1 (((rollIn l i).1) ++ [0])).2)]), (13, .tuple #[Bo ((rollIsIn ((rollRoot l).1) (((l.length : Nat) : Int)) ((kn1 : Int)) x1 (((rollIn l i).1) ++ [0])).1), I ((rollIsIn ((rollRoot l).1) (((l.length : Nat) : Int)) ((kn1 : Int)) x1 (((rollIn l i).1) ++ [0])).2)]), (14, Bo ((rollIsIn ((rollRoot l).1) (((l.length : Nat) : Int)) ((kn1 : Int)) x1 (((rollIn l i).1) ++ [0])).1)), (15, I ((rollIsIn ((rollRoot l).1) (((l.length : Nat) : Int)) ((kn1 : Int)) x1 (((rollIn l i).1) ++ [0])).2)), (16, Bo ((rollIsIn ((rollRoot l).1) (((l.length : Nat) : Int)) ((kn1 : Int)) x1 (((rollIn l i).1) ++ [0])).1)), (17, I ((rollIsIn ((rollRoot l).1) (((l.length : Nat) : Int)) ((kn1 : Int)) x1 (((rollIn l i).1) ++ [0])).2))]) ?_
      refine dr_end [0, 1, 2, 3, 4, 5, 6, 7, 8] [(13,0), (14,0), (15,0), (16,0), (17,0)] [] [(0, Sl (At b1 o1) l.length c_l), (1, I ((kn1 : Int))), (4, Bo false), (5, Sl a1 (((rollIn l i).1).length) c1), (7, U ((rollRoot l).1)), (8, I ((rollRoot l).2)), (9, Bo ((rollIsIn ((rollRoot l).1) (((l.length : Nat) : Int)) ((kn1 : Int)) x1 ((rollIn l i).1)).1)), (10, I ((rollIsIn ((rollRoot l).1) (((l.length : Nat) : Int)) ((kn1 : Int)) x1 ((rollIn l i).1)).2)), (11, Bo ((rollIsIn (((rollRoot l).1) + 1) (((l.length : Nat) : Int)) ((kn1 : Int)) x1 ((rollIn l i).1)).1)), (12, I ((rollIsIn (((rollRoot l).1) + 1) (((l.length : Nat) : Int)) ((kn1 : Int)) x1 ((rollIn l i).1)).2)), (13, Bo ((rollIsIn ((rollRoot l).1) (((l.length : Nat) : Int)) ((kn1 : Int)) x1 (((rollIn l i).1) ++ [0])).1)), (14, I ((rollIsIn ((rollRoot l).1) (((l.length : Nat) : Int)) ((kn1 : Int)) x1 (((rollIn l i).1) ++ [0])).2)), (16, Bo false), (24, Bo (!decide ((rollIn l i).2 = 0)))] (List.forall_mem_nil _) ?_
      refine tq_then ?_
      refine tc_seq ?_
      refine tc_region ?_
      refine runL_b [0,0,0,0] [(0, Sl (At b1 o1) l.length c_l), (1, I ((kn1 : Int))), (4, Bo false), (5, Sl a1 (((rollIn l i).1).length) c1), (7, U ((rollRoot l).1)), (9, Bo ((rollIsIn ((rollRoot l).1) (((l.length : Nat) : Int)) ((kn1 : Int)) x1 ((rollIn l i).1)).1)), (11, Bo ((rollIsIn (((rollRoot l).1) + 1) (((l.length : Nat) : Int)) ((kn1 : Int)) x1 ((rollIn l i).1)).1)), (13, Bo ((rollIsIn ((rollRoot l).1) (((l.length : Nat) : Int)) ((kn1 : Int)) x1 (((rollIn l i).1) ++ [0])).1)), (16, Bo false), (24, Bo (!decide ((rollIn l i).2 = 0))), (76, I ((rollRoot l).2)), (77, I ((rollIsIn ((rollRoot l).1) (((l.length : Nat) : Int)) ((kn1 : Int)) x1 ((rollIn l i).1)).2)), (78, I ((rollIsIn (((rollRoot l).1) + 1) (((l.length : Nat) : Int)) ((kn1 : Int)) x1 ((rollIn l i).1)).2)), (79, I ((rollIsIn ((rollRoot l).1) (((l.length : Nat) : Int)) ((kn1 : Int)) x1 (((rollIn l i).1) ++ [0])).2))] ?_
      refine runL_bsl 80 4 #[I ((rollRoot l).2), I ((rollIsIn ((rollRoot l).1) (((l.length : Nat) : Int)) ((kn1 : Int)) x1 ((rollIn l i).1)).2), I ((rollIsIn (((rollRoot l).1) + 1) (((l.length : Nat) : Int)) ((kn1 : Int)) x1 ((rollIn l i).1)).2), I ((rollIsIn ((rollRoot l).1) (((l.length : Nat) : Int)) ((kn1 : Int)) x1 (((rollIn l i).1) ++ [0])).2)] 41 (fun b3 => ?_)
      refine runL_frz1 (b := b3) (o := 0) (cs := [I ((rollRoot l).2), I ((rollIsIn ((rollRoot l).1) (((l.length : Nat) : Int)) ((kn1 : Int)) x1 ((rollIn l i).1)).2), I ((rollIsIn (((rollRoot l).1) + 1) (((l.length : Nat) : Int)) ((kn1 : Int)) x1 ((rollIn l i).1)).2), I ((rollIsIn ((rollRoot l).1) (((l.length : Nat) : Int)) ((kn1 : Int)) x1 (((rollIn l i).1) ++ [0])).2)]) 0 (fun G4 hl4 hz1 => ?_)
      have hs3 : RS EErr G4 (At b3 0) 4 [(rollRoot l).2, (rollIsIn ((rollRoot l).1) (((l.length : Nat) : Int)) ((kn1 : Int)) x1 ((rollIn l i).1)).2, (rollIsIn (((rollRoot l).1) + 1) (((l.length : Nat) : Int)) ((kn1 : Int)) x1 ((rollIn l i).1)).2, (rollIsIn ((rollRoot l).1) (((l.length : Nat) : Int)) ((kn1 : Int)) x1 (((rollIn l i).1) ++ [0])).2] := RS.lit [[I ((rollRoot l).2)], [I ((rollIsIn ((rollRoot l).1) (((l.length : Nat) : Int)) ((kn1 : Int)) x1 ((rollIn l i).1)).2)], [I ((rollIsIn (((rollRoot l).1) + 1) (((l.length : Nat) : Int)) ((kn1 : Int)) x1 ((rollIn l i).1)).2)], [I ((rollIsIn ((rollRoot l).1) (((l.length : Nat) : Int)) ((kn1 : Int)) x1 (((rollIn l i).1) ++ [0])).2)]] [(rollRoot l).2, (rollIsIn ((rollRoot l).1) (((l.length : Nat) : Int)) ((kn1 : Int)) x1 ((rollIn l i).1)).2, (rollIsIn (((rollRoot l).1) + 1) (((l.length : Nat) : Int)) ((kn1 : Int)) x1 ((rollIn l i).1)).2, (rollIsIn ((rollRoot l).1) (((l.length : Nat) : Int)) ((kn1 : Int)) x1 (((rollIn l i).1) ++ [0])).2] ⟨rfl, ⟨rfl, ⟨rfl, ⟨rfl, trivial⟩⟩⟩⟩ hz1 (Nat.le_of_ble_eq_true rfl) (Nat.le_of_ble_eq_true rfl)
      refine runL_callV 81 (Bo (!(([(rollRoot l).2, (rollIsIn ((rollRoot l).1) (((l.length : Nat) : Int)) ((kn1 : Int)) x1 ((rollIn l i).1)).2, (rollIsIn (((rollRoot l).1) + 1) (((l.length : Nat) : Int)) ((kn1 : Int)) x1 ((rollIn l i).1)).2, (rollIsIn ((rollRoot l).1) (((l.length : Nat) : Int)) ((kn1 : Int)) x1 (((rollIn l i).1) ++ [0])).2]).any fun x0 => !decide (x0 = 0)))) (good_con G4 (At b3 0) 4 ([(rollRoot l).2, (rollIsIn ((rollRoot l).1) (((l.length : Nat) : Int)) ((kn1 : Int)) x1 ((rollIn l i).1)).2, (rollIsIn (((rollRoot l).1) + 1) (((l.length : Nat) : Int)) ((kn1 : Int)) x1 ((rollIn l i).1)).2, (rollIsIn ((rollRoot l).1) (((l.length : Nat) : Int)) ((kn1 : Int)) x1 (((rollIn l i).1) ++ [0])).2]) hs3) ?_
      refine runL_b [0] [(0, Sl (At b1 o1) l.length c_l), (1, I ((kn1 : Int))), (4, Bo false), (5, Sl a1 (((rollIn l i).1).length) c1), (7, U ((rollRoot l).1)), (9, Bo ((rollIsIn ((rollRoot l).1) (((l.length : Nat) : Int)) ((kn1 : Int)) x1 ((rollIn l i).1)).1)), (11, Bo ((rollIsIn (((rollRoot l).1) + 1) (((l.length : Nat) : Int)) ((kn1 : Int)) x1 ((rollIn l i).1)).1)), (13, Bo ((rollIsIn ((rollRoot l).1) (((l.length : Nat) : Int)) ((kn1 : Int)) x1 (((rollIn l i).1) ++ [0])).1)), (16, Bo false), (24, Bo (!decide ((rollIn l i).2 = 0))), (82, Bo (!(([(rollRoot l).2, (rollIsIn ((rollRoot l).1) (((l.length : Nat) : Int)) ((kn1 : Int)) x1 ((rollIn l i).1)).2, (rollIsIn (((rollRoot l).1) + 1) (((l.length : Nat) : Int)) ((kn1 : Int)) x1 ((rollIn l i).1)).2, (rollIsIn ((rollRoot l).1) (((l.length : Nat) : Int)) ((kn1 : Int)) x1 (((rollIn l i).1) ++ [0])).2]).any fun x0 => !decide (x0 = 0))))] ?_
      refine runL_b2 (!(([(rollRoot l).2, (rollIsIn ((rollRoot l).1) (((l.length : Nat) : Int)) ((kn1 : Int)) x1 ((rollIn l i).1)).2, (rollIsIn (((rollRoot l).1) + 1) (((l.length : Nat) : Int)) ((kn1 : Int)) x1 ((rollIn l i).1)).2, (rollIsIn ((rollRoot l).1) (((l.length : Nat) : Int)) ((kn1 : Int)) x1 (((rollIn l i).1) ++ [0])).2]).any fun x0 => !decide (x0 = 0))) (fun bb => [(0, Sl (At b1 o1) l.length c_l), (1, I ((kn1 : Int))), (4, Bo false), (5, Sl a1 (((rollIn l i).1).length) c1), (7, U ((rollRoot l).1)), (9, Bo ((rollIsIn ((rollRoot l).1) (((l.length : Nat) : Int)) ((kn1 : Int)) x1 ((rollIn l i).1)).1)), (11, Bo ((rollIsIn (((rollRoot l).1) + 1) (((l.length : Nat) : Int)) ((kn1 : Int)) x1 ((rollIn l i).1)).1)), (13, Bo ((rollIsIn ((rollRoot l).1) (((l.length : Nat) : Int)) ((kn1 : Int)) x1 (((rollIn l i).1) ++ [0])).1)), (16, Bo false), (24, Bo (!decide ((rollIn l i).2 = 0))), (82, Bo bb)]) [0,0] [1,0] (fun bb => [(0, Sl (At b1 o1) l.length c_l), (1, I ((kn1 : Int))), (4, Bo false), (5, Sl a1 (((rollIn l i).1).length) c1), (7, U ((rollRoot l).1)), (11, Bo ((rollIsIn (((rollRoot l).1) + 1) (((l.length : Nat) : Int)) ((kn1 : Int)) x1 ((rollIn l i).1)).1)), (13, Bo ((rollIsIn ((rollRoot l).1) (((l.length : Nat) : Int)) ((kn1 : Int)) x1 (((rollIn l i).1) ++ [0])).1)), (16, Bo false), (24, Bo (!decide ((rollIn l i).2 = 0))), (84, Bo (bb && ((rollIsIn ((rollRoot l).1) (((l.length : Nat) : Int)) ((kn1 : Int)) x1 ((rollIn l i).1)).1)))]) ?_
      refine runL_b [0] [(0, Sl (At b1 o1) l.length c_l), (1, I ((kn1 : Int))), (4, Bo false), (5, Sl a1 (((rollIn l i).1).length) c1), (7, U ((rollRoot l).1)), (11, Bo ((rollIsIn (((rollRoot l).1) + 1) (((l.length : Nat) : Int)) ((kn1 : Int)) x1 ((rollIn l i).1)).1)), (13, Bo ((rollIsIn ((rollRoot l).1) (((l.length : Nat) : Int)) ((kn1 : Int)) x1 (((rollIn l i).1) ++ [0])).1)), (16, Bo false), (24, Bo (!decide ((rollIn l i).2 = 0))), (85, Bo ((!(([(rollRoot l).2, (rollIsIn ((rollRoot l).1) (((l.length : Nat) : Int)) ((kn1 : Int)) x1 ((rollIn l i).1)).2, (rollIsIn (((rollRoot l).1) + 1) (((l.length : Nat) : Int)) ((kn1 : Int)) x1 ((rollIn l i).1)).2, (rollIsIn ((rollRoot l).1) (((l.length : Nat) : Int)) ((kn1 : Int)) x1 (((rollIn l i).1) ++ [0])).2]).any fun x0 => !decide (x0 = 0))) && ((rollIsIn ((rollRoot l).1) (((l.length : Nat) : Int)) ((kn1 : Int)) x1 ((rollIn l i).1)).1)))] ?_
      refine runL_b2 ((!(([(rollRoot l).2, (rollIsIn ((rollRoot l).1) (((l.length : Nat) : Int)) ((kn1 : Int)) x1 ((rollIn l i).1)).2, (rollIsIn (((rollRoot l).1) + 1) (((l.length : Nat) : Int)) ((kn1 : Int)) x1 ((rollIn l i).1)).2, (rollIsIn ((rollRoot l).1) (((l.length : Nat) : Int)) ((kn1 : Int)) x1 (((rollIn l i).1) ++ [0])).2]).any fun x0 => !decide (x0 = 0))) && ((rollIsIn ((rollRoot l).1) (((l.length : Nat) : Int)) ((kn1 : Int)) x1 ((rollIn l i).1)).1)) (fun bb => [(0, Sl (At b1 o1) l.length c_l), (1, I ((kn1 : Int))), (4, Bo false), (5, Sl a1 (((rollIn l i).1).length) c1), (7, U ((rollRoot l).1)), (11, Bo ((rollIsIn (((rollRoot l).1) + 1) (((l.length : Nat) : Int)) ((kn1 : Int)) x1 ((rollIn l i).1)).1)), (13, Bo ((rollIsIn ((rollRoot l).1) (((l.length : Nat) : Int)) ((kn1 : Int)) x1 (((rollIn l i).1) ++ [0])).1)), (16, Bo false), (24, Bo (!decide ((rollIn l i).2 = 0))), (85, Bo bb)]) [0,0,0] [1,1,0] (fun bb => [(0, Sl (At b1 o1) l.length c_l), (1, I ((kn1 : Int))), (4, Bo false), (5, Sl a1 (((rollIn l i).1).length) c1), (7, U ((rollRoot l).1)), (13, Bo ((rollIsIn ((rollRoot l).1) (((l.length : Nat) : Int)) ((kn1 : Int)) x1 (((rollIn l i).1) ++ [0])).1)), (16, Bo false), (24, Bo (!decide ((rollIn l i).2 = 0))), (88, Bo (bb && (!((rollIsIn (((rollRoot l).1) + 1) (((l.length : Nat) : Int)) ((kn1 : Int)) x1 ((rollIn l i).1)).1))))]) ?_
      refine runL_b [0] [(0, Sl (At b1 o1) l.length c_l), (1, I ((kn1 : Int))), (4, Bo false), (5, Sl a1 (((rollIn l i).1).length) c1), (7, U ((rollRoot l).1)), (13, Bo ((rollIsIn ((rollRoot l).1) (((l.length : Nat) : Int)) ((kn1 : Int)) x1 (((rollIn l i).1) ++ [0])).1)), (16, Bo false), (24, Bo (!decide ((rollIn l i).2 = 0))), (89, Bo (((!(([(rollRoot l).2, (rollIsIn ((rollRoot l).1) (((l.length : Nat) : Int)) ((kn1 : Int)) x1 ((rollIn l i).1)).2, (rollIsIn (((rollRoot l).1) + 1) (((l.length : Nat) : Int)) ((kn1 : Int)) x1 ((rollIn l i).1)).2, (rollIsIn ((rollRoot l).1) (((l.length : Nat) : Int)) ((kn1 : Int)) x1 (((rollIn l i).1) ++ [0])).2]).any fun x0 => !decide (x0 = 0))) && ((rollIsIn ((rollRoot l).1) (((l.length : Nat) : Int)) ((kn1 : Int)) x1 ((rollIn l i).1)).1)) && (!((rollIsIn (((rollRoot l).1) + 1) (((l.length : Nat) : Int)) ((kn1 : Int)) x1 ((rollIn l i).1)).1))))] ?_
      refine runL_b2 (((!(([(rollRoot l).2, (rollIsIn ((rollRoot l).1) (((l.length : Nat) : Int)) ((kn1 : Int)) x1 ((rollIn l i).1)).2, (rollIsIn (((rollRoot l).1) + 1) (((l.length : Nat) : Int)) ((kn1 : Int)) x1 ((rollIn l i).1)).2, (rollIsIn ((rollRoot l).1) (((l.length : Nat) : Int)) ((kn1 : Int)) x1 (((rollIn l i).1) ++ [0])).2]).any fun x0 => !decide (x0 = 0))) && ((rollIsIn ((rollRoot l).1) (((l.length : Nat) : Int)) ((kn1 : Int)) x1 ((rollIn l i).1)).1)) && (!((rollIsIn (((rollRoot l).1) + 1) (((l.length : Nat) : Int)) ((kn1 : Int)) x1 ((rollIn l i).1)).1))) (fun bb => [(0, Sl (At b1 o1) l.length c_l), (1, I ((kn1 : Int))), (4, Bo false), (5, Sl a1 (((rollIn l i).1).length) c1), (7, U ((rollRoot l).1)), (13, Bo ((rollIsIn ((rollRoot l).1) (((l.length : Nat) : Int)) ((kn1 : Int)) x1 (((rollIn l i).1) ++ [0])).1)), (16, Bo false), (24, Bo (!decide ((rollIn l i).2 = 0))), (89, Bo bb)]) [0,0,0] [1,1,0] (fun bb => [(0, Sl (At b1 o1) l.length c_l), (1, I ((kn1 : Int))), (4, Bo false), (5, Sl a1 (((rollIn l i).1).length) c1), (7, U ((rollRoot l).1)), (16, Bo false), (24, Bo (!decide ((rollIn l i).2 = 0))), (92, Bo (bb && (!((rollIsIn ((rollRoot l).1) (((l.length : Nat) : Int)) ((kn1 : Int)) x1 (((rollIn l i).1) ++ [0])).1))))]) ?_
      refine runL_b [0] [(0, Sl (At b1 o1) l.length c_l), (1, I ((kn1 : Int))), (4, Bo ((((!(([(rollRoot l).2, (rollIsIn ((rollRoot l).1) (((l.length : Nat) : Int)) ((kn1 : Int)) x1 ((rollIn l i).1)).2, (rollIsIn (((rollRoot l).1) + 1) (((l.length : Nat) : Int)) ((kn1 : Int)) x1 ((rollIn l i).1)).2, (rollIsIn ((rollRoot l).1) (((l.length : Nat) : Int)) ((kn1 : Int)) x1 (((rollIn l i).1) ++ [0])).2]).any fun x0 => !decide (x0 = 0))) && ((rollIsIn ((rollRoot l).1) (((l.length : Nat) : Int)) ((kn1 : Int)) x1 ((rollIn l i).1)).1)) && (!((rollIsIn (((rollRoot l).1) + 1) (((l.length : Nat) : Int)) ((kn1 : Int)) x1 ((rollIn l i).1)).1))) && (!((rollIsIn ((rollRoot l).1) (((l.length : Nat) : Int)) ((kn1 : Int)) x1 (((rollIn l i).1) ++ [0])).1)))), (5, Sl a1 (((rollIn l i).1).length) c1), (7, U ((rollRoot l).1)), (16, Bo false), (24, Bo (!decide ((rollIn l i).2 = 0)))] ?_
      refine runL_nil ?_
      refine tq_then ?_
      refine tc_ret ?_
      refine tq_ret [0] [Bo ((((!(([(rollRoot l).2, (rollIsIn ((rollRoot l).1) (((l.length : Nat) : Int)) ((kn1 : Int)) x1 ((rollIn l i).1)).2, (rollIsIn (((rollRoot l).1) + 1) (((l.length : Nat) : Int)) ((kn1 : Int)) x1 ((rollIn l i).1)).2, (rollIsIn ((rollRoot l).1) (((l.length : Nat) : Int)) ((kn1 : Int)) x1 (((rollIn l i).1) ++ [0])).2]).any fun x0 => !decide (x0 = 0))) && ((rollIsIn ((rollRoot l).1) (((l.length : Nat) : Int)) ((kn1 : Int)) x1 ((rollIn l i).1)).1)) && (!((rollIsIn (((rollRoot l).1) + 1) (((l.length : Nat) : Int)) ((kn1 : Int)) x1 ((rollIn l i).1)).1))) && (!((rollIsIn ((rollRoot l).1) (((l.length : Nat) : Int)) ((kn1 : Int)) x1 (((rollIn l i).1) ++ [0])).1)))] (bp_ret (Mem.le_trans (Mem.le_trans (Mem.le_trans hl1 hl2) hl3) hl4) ?_)
      have hf_ : ((((!(([(rollRoot l).2, (rollIsIn ((rollRoot l).1) (((l.length : Nat) : Int)) ((kn1 : Int)) x1 ((rollIn l i).1)).2, (rollIsIn (((rollRoot l).1) + 1) (((l.length : Nat) : Int)) ((kn1 : Int)) x1 ((rollIn l i).1)).2, (rollIsIn ((rollRoot l).1) (((l.length : Nat) : Int)) ((kn1 : Int)) x1 (((rollIn l i).1) ++ [0])).2]).any fun x0 => !decide (x0 = 0))) && ((rollIsIn ((rollRoot l).1) (((l.length : Nat) : Int)) ((kn1 : Int)) x1 ((rollIn l i).1)).1)) && (!((rollIsIn (((rollRoot l).1) + 1) (((l.length : Nat) : Int)) ((kn1 : Int)) x1 ((rollIn l i).1)).1))) && (!((rollIsIn ((rollRoot l).1) (((l.length : Nat) : Int)) ((kn1 : Int)) x1 (((rollIn l i).1) ++ [0])).1))) = true := by
        first | (simp [rollIn_err (by assumption)]; done) | (subst hkn1; have q_ := rollIns_law (by assumption) (by assumption); simp [q_])
      exact congrArg Bo hf_
    refine act_of 10 [] (fun X => ?_)
    refine runL_bsl 71 1 #[U 0] 26 (fun b4 => ?_)
    refine act_end (V' := [(0, U ((rollRoot l).1)), (1, Sl (At b1 o1) l.length c_l), (2, I (((l.length : Nat) : Int))), (3, I ((kn1 : Int))), (4, Sl (At b1 o1) l.length c_l), (5, I ((kn1 : Int))), (6, Pt b1 (o1 + kn1 * 1)), (7, Sr x1), (8, Sl a1 (((rollIn l i).1).length) c1), (10, Sl (At b4 0) 1 1)]) ?_
    refine dr_mid [] [(0,0), (1,0), (2,0), (3,0), (4,0), (5,0), (8,0)] [6, 7] [9] (List.forall_mem_cons.2 ⟨?_, (List.forall_mem_cons.2 ⟨?_, List.forall_mem_nil _⟩)⟩) (List.forall_mem_cons.2 ⟨?_, List.forall_mem_nil _⟩)
    · refine stab_of 6 67 (Pt b1 (o1 + kn1 * 1)) [(65, Sl (At b1 o1) l.length c_l), (66, I ((kn1 : Int)))] (fun X => ?_)
      exact runL_idx (b := b1) (off := o1) (len := l.length) (cap := c_l) (ik := .i64) 67 9 1 kn1 (by first | omega | (have q_ := rollIn_ok (by assumption); omega) | (have q_ := rollGrew_ok (by assumption); omega) | (have q_ := rollRoot_bd l; omega)) stab_end
    · refine stab_of 7 68 (Sr x1) [(67, Pt b1 (o1 + kn1 * 1))] (fun X => ?_)
      exact runL_ldG 68 9 (cs := [Sr x1]) 0 (Sr x1) hc1 stab_end
    refine act_of 9 [(69, Sl a1 (((rollIn l i).1).length) c1)] (fun X => ?_)
    refine runL_callR 70 (sclone_EU G1 a1 c1 ((rollIn l i).1) hs1) (fun v G5 L1 hl5 hp => ?_)
    obtain ⟨a4, c4, r3, rfl, hr3, rfl⟩ := hp
    refine act_end (V' := [(0, U ((rollRoot l).1)), (1, Sl (At b1 o1) l.length c_l), (2, I (((l.length : Nat) : Int))), (3, I ((kn1 : Int))), (4, Sl (At b1 o1) l.length c_l), (5, I ((kn1 : Int))), (6, Pt b1 (o1 + kn1 * 1)), (7, Sr x1), (8, Sl a1 (((rollIn l i).1).length) c1), (9, Sl a4 (((rollIn l i).1).length) c4), (10, Sl (At b4 0) 1 1)]) ?_
    refine dr_mid [8] [(0,0), (1,0), (2,0), (3,0), (4,0), (5,0)] [6, 7] [11] (List.forall_mem_cons.2 ⟨?_, (List.forall_mem_cons.2 ⟨?_, List.forall_mem_nil _⟩)⟩) (List.forall_mem_cons.2 ⟨?_, List.forall_mem_nil _⟩)
    · refine stab_of 6 67 (Pt b1 (o1 + kn1 * 1)) [(65, Sl (At b1 o1) l.length c_l), (66, I ((kn1 : Int)))] (fun X => ?_)
      exact runL_idx (b := b1) (off := o1) (len := l.length) (cap := c_l) (ik := .i64) 67 9 1 kn1 (by first | omega | (have q_ := rollIn_ok (by assumption); omega) | (have q_ := rollGrew_ok (by assumption); omega) | (have q_ := rollRoot_bd l; omega)) stab_end
    · refine stab_of 7 68 (Sr x1) [(67, Pt b1 (o1 + kn1 * 1))] (fun X => ?_)
      exact runL_ldG 68 9 (cs := [Sr x1]) 0 (Sr x1) (fun j v hv => hl5 _ _ _ (hc1 j v hv)) stab_end
    refine act_of 11 [(70, Sl a4 (((rollIn l i).1).length) c4), (71, Sl (At b4 0) 1 1)] (fun X => ?_)
    refine runL_app1' (b := b4) (cs := [U 0]) 72 26 0 1 (E := EU) 0 hr3 ⟨rfl, (by first | assumption | omega | (simp; done) | (simp; omega))⟩ (by have q_ := rollIn_len (by assumption); (try simp only [EU, List.length_append, List.length_cons, List.length_nil]); omega) (by have q_ := rollIn_len (by assumption); (try simp only [EU, List.length_append, List.length_cons, List.length_nil]); omega) (fun a5 c5 r4 hr4 => ?_)
    refine act_end (V' := [(0, U ((rollRoot l).1)), (1, Sl (At b1 o1) l.length c_l), (2, I (((l.length : Nat) : Int))), (3, I ((kn1 : Int))), (4, Sl (At b1 o1) l.length c_l), (5, I ((kn1 : Int))), (6, Pt b1 (o1 + kn1 * 1)), (7, Sr x1), (8, Sl a1 (((rollIn l i).1).length) c1), (9, Sl a4 (((rollIn l i).1).length) c4), (10, Sl (At b4 0) 1 1), (11, Sl a5 ((((rollIn l i).1) ++ [0]).length) c5)]) ?_
    refine dr_mid [8] [(0,0), (1,0), (2,0), (3,0), (4,0), (5,0)] [6, 7] [12] (List.forall_mem_cons.2 ⟨?_, (List.forall_mem_cons.2 ⟨?_, List.forall_mem_nil _⟩)⟩) (List.forall_mem_cons.2 ⟨?_, List.forall_mem_nil _⟩)
    · refine stab_of 6 67 (Pt b1 (o1 + kn1 * 1)) [(65, Sl (At b1 o1) l.length c_l), (66, I ((kn1 : Int)))] (fun X => ?_)
      exact runL_idx (b := b1) (off := o1) (len := l.length) (cap := c_l) (ik := .i64) 67 9 1 kn1 (by first | omega | (have q_ := rollIn_ok (by assumption); omega) | (have q_ := rollGrew_ok (by assumption); omega) | (have q_ := rollRoot_bd l; omega)) stab_end
    · refine stab_of 7 68 (Sr x1) [(67, Pt b1 (o1 + kn1 * 1))] (fun X => ?_)
      exact runL_ldG 68 9 (cs := [Sr x1]) 0 (Sr x1) (fun j v hv => hl5 _ _ _ (hc1 j v hv)) stab_end
    refine act_of 12 [(61, U ((rollRoot l).1)), (63, I (((l.length : Nat) : Int))), (64, I ((kn1 : Int))), (68, Sr x1), (72, Sl a5 ((((rollIn l i).1) ++ [0]).length) c5)] (fun X => ?_)
    refine runL_frzR (E := EU) 0 hr4 (by have q_ := rollIn_len (by assumption); (try simp only [EU, List.length_append, List.length_cons, List.length_nil]); omega) (fun G6 hl6 hs4 => ?_)
    refine runL_callV 73 (.tuple #[Bo ((rollIsIn ((rollRoot l).1) (((l.length : Nat) : Int)) ((kn1 : Int)) x1 (((rollIn l i).1) ++ [0])).1), I ((rollIsIn ((rollRoot l).1) (((l.length : Nat) : Int)) ((kn1 : Int)) x1 (((rollIn l i).1) ++ [0])).2)]) (rollIsIn_con G6 ((rollRoot l).1) (((l.length : Nat) : Int)) ((kn1 : Int)) x1 w1 a5 c5 (((rollIn l i).1) ++ [0]) hs4) ?_
    refine act_end (V' := [(0, U ((rollRoot l).1)), (1, Sl (At b1 o1) l.length c_l), (2, I (((l.length : Nat) : Int))), (3, I ((kn1 : Int))), (4, Sl (At b1 o1) l.length c_l), (5, I ((kn1 : Int))), (6, Pt b1 (o1 + kn1 * 1)), (7, Sr x1), (8, Sl a1 (((rollIn l i).1).length) c1), (9, Sl a4 (((rollIn l i).1).length) c4), (10, Sl (At b4 0) 1 1), (11, Sl a5 ((((rollIn l i).1) ++ [0]).length) c5), (12, .tuple #[Bo ((rollIsIn ((rollRoot l).1) (((l.length : Nat) : Int)) ((kn1 : Int)) x1 (((rollIn l i).1) ++ [0])).1), I ((rollIsIn ((rollRoot l).1) (((l.length : Nat) : Int)) ((kn1 : Int)) x1 (((rollIn l i).1) ++ [0])).2)]), (13, .tuple #[Bo ((rollIsIn ((rollRoot l).1) (((l.length : Nat) : Int)) ((kn1 : Int)) x1 (((rollIn l i).1) ++ [0])).1), I ((rollIsIn ((rollRoot l).1) (((l.length : Nat) : Int)) ((kn1 : Int)) x1 (((rollIn l i).1) ++ [0])).2)]), (14, Bo ((rollIsIn ((rollRoot l).1) (((l.length : Nat) : Int)) ((kn1 : Int)) x1 (((rollIn l i).1) ++ [0])).1)), (15, I ((rollIsIn ((rollRoot l).1) (((l.length : Nat) : Int)) ((kn1 : Int)) x1 (((rollIn l i).1) ++ [0])).2)), (16, Bo ((rollIsIn ((rollRoot l).1) (((l.length : Nat) : Int)) ((kn1 : Int)) x1 (((rollIn l i).1) ++ [0])).1)), (17, I ((rollIsIn ((rollRoot l).1) (((l.length : Nat) : Int)) ((kn1 : Int)) x1 (((rollIn l i).1) ++ [0])).2))]) ?_
    refine dr_end [0, 1, 2, 3, 4, 5, 6, 7, 8] [(13,0), (14,0), (15,0), (16,0), (17,0)] [] [(0, Sl (At b1 o1) l.length c_l), (1, I ((kn1 : Int))), (4, Bo false), (5, Sl a1 (((rollIn l i).1).length) c1), (7, U ((rollRoot l).1)), (8, I ((rollRoot l).2)), (9, Bo ((rollIsIn ((rollRoot l).1) (((l.length : Nat) : Int)) ((kn1 : Int)) x1 ((rollIn l i).1)).1)), (10, I ((rollIsIn ((rollRoot l).1) (((l.length : Nat) : Int)) ((kn1 : Int)) x1 ((rollIn l i).1)).2)), (11, Bo ((rollIsIn (((rollRoot l).1) + 1) (((l.length : Nat) : Int)) ((kn1 : Int)) x1 ((rollIn l i).1)).1)), (12, I ((rollIsIn (((rollRoot l).1) + 1) (((l.length : Nat) : Int)) ((kn1 : Int)) x1 ((rollIn l i).1)).2)), (13, Bo ((rollIsIn ((rollRoot l).1) (((l.length : Nat) : Int)) ((kn1 : Int)) x1 (((rollIn l i).1) ++ [0])).1)), (14, I ((rollIsIn ((rollRoot l).1) (((l.length : Nat) : Int)) ((kn1 : Int)) x1 (((rollIn l i).1) ++ [0])).2)), (16, Bo false), (24, Bo (!decide ((rollIn l i).2 = 0)))] (List.forall_mem_nil _) ?_
    refine tq_then ?_
    refine tc_seq ?_
    refine tc_region ?_
    refine runL_b [0,0,0,0] [(0, Sl (At b1 o1) l.length c_l), (1, I ((kn1 : Int))), (4, Bo false), (5, Sl a1 (((rollIn l i).1).length) c1), (7, U ((rollRoot l).1)), (9, Bo ((rollIsIn ((rollRoot l).1) (((l.length : Nat) : Int)) ((kn1 : Int)) x1 ((rollIn l i).1)).1)), (11, Bo ((rollIsIn (((rollRoot l).1) + 1) (((l.length : Nat) : Int)) ((kn1 : Int)) x1 ((rollIn l i).1)).1)), (13, Bo ((rollIsIn ((rollRoot l).1) (((l.length : Nat) : Int)) ((kn1 : Int)) x1 (((rollIn l i).1) ++ [0])).1)), (16, Bo false), (24, Bo (!decide ((rollIn l i).2 = 0))), (76, I ((rollRoot l).2)), (77, I ((rollIsIn ((rollRoot l).1) (((l.length : Nat) : Int)) ((kn1 : Int)) x1 ((rollIn l i).1)).2)), (78, I ((rollIsIn (((rollRoot l).1) + 1) (((l.length : Nat) : Int)) ((kn1 : Int)) x1 ((rollIn l i).1)).2)), (79, I ((rollIsIn ((rollRoot l).1) (((l.length : Nat) : Int)) ((kn1 : Int)) x1 (((rollIn l i).1) ++ [0])).2))] ?_
    refine runL_bsl 80 4 #[I ((rollRoot l).2), I ((rollIsIn ((rollRoot l).1) (((l.length : Nat) : Int)) ((kn1 : Int)) x1 ((rollIn l i).1)).2), I ((rollIsIn (((rollRoot l).1) + 1) (((l.length : Nat) : Int)) ((kn1 : Int)) x1 ((rollIn l i).1)).2), I ((rollIsIn ((rollRoot l).1) (((l.length : Nat) : Int)) ((kn1 : Int)) x1 (((rollIn l i).1) ++ [0])).2)] 41 (fun b5 => ?_)
    refine runL_frz1 (b := b5) (o := 0) (cs := [I ((rollRoot l).2), I ((rollIsIn ((rollRoot l).1) (((l.length : Nat) : Int)) ((kn1 : Int)) x1 ((rollIn l i).1)).2), I ((rollIsIn (((rollRoot l).1) + 1) (((l.length : Nat) : Int)) ((kn1 : Int)) x1 ((rollIn l i).1)).2), I ((rollIsIn ((rollRoot l).1) (((l.length : Nat) : Int)) ((kn1 : Int)) x1 (((rollIn l i).1) ++ [0])).2)]) 0 (fun G7 hl7 hz2 => ?_)
    have hs5 : RS EErr G7 (At b5 0) 4 [(rollRoot l).2, (rollIsIn ((rollRoot l).1) (((l.length : Nat) : Int)) ((kn1 : Int)) x1 ((rollIn l i).1)).2, (rollIsIn (((rollRoot l).1) + 1) (((l.length : Nat) : Int)) ((kn1 : Int)) x1 ((rollIn l i).1)).2, (rollIsIn ((rollRoot l).1) (((l.length : Nat) : Int)) ((kn1 : Int)) x1 (((rollIn l i).1) ++ [0])).2] := RS.lit [[I ((rollRoot l).2)], [I ((rollIsIn ((rollRoot l).1) (((l.length : Nat) : Int)) ((kn1 : Int)) x1 ((rollIn l i).1)).2)], [I ((rollIsIn (((rollRoot l).1) + 1) (((l.length : Nat) : Int)) ((kn1 : Int)) x1 ((rollIn l i).1)).2)], [I ((rollIsIn ((rollRoot l).1) (((l.length : Nat) : Int)) ((kn1 : Int)) x1 (((rollIn l i).1) ++ [0])).2)]] [(rollRoot l).2, (rollIsIn ((rollRoot l).1) (((l.length : Nat) : Int)) ((kn1 : Int)) x1 ((rollIn l i).1)).2, (rollIsIn (((rollRoot l).1) + 1) (((l.length : Nat) : Int)) ((kn1 : Int)) x1 ((rollIn l i).1)).2, (rollIsIn ((rollRoot l).1) (((l.length : Nat) : Int)) ((kn1 : Int)) x1 (((rollIn l i).1) ++ [0])).2] ⟨rfl, ⟨rfl, ⟨rfl, ⟨rfl, trivial⟩⟩⟩⟩ hz2 (Nat.le_of_ble_eq_true rfl) (Nat.le_of_ble_eq_true rfl)
    refine runL_callV 81 (Bo (!(([(rollRoot l).2, (rollIsIn ((rollRoot l).1) (((l.length : Nat) : Int)) ((kn1 : Int)) x1 ((rollIn l i).1)).2, (rollIsIn (((rollRoot l).1) + 1) (((l.length : Nat) : Int)) ((kn1 : Int)) x1 ((rollIn l i).1)).2, (rollIsIn ((rollRoot l).1) (((l.length : Nat) : Int)) ((kn1 : Int)) x1 (((rollIn l i).1) ++ [0])).2]).any fun x0 => !decide (x0 = 0)))) (good_con G7 (At b5 0) 4 ([(rollRoot l).2, (rollIsIn ((rollRoot l).1) (((l.length : Nat) : Int)) ((kn1 : Int)) x1 ((rollIn l i).1)).2, (rollIsIn (((rollRoot l).1) + 1) (((l.length : Nat) : Int)) ((kn1 : Int)) x1 ((rollIn l i).1)).2, (rollIsIn ((rollRoot l).1) (((l.length : Nat) : Int)) ((kn1 : Int)) x1 (((rollIn l i).1) ++ [0])).2]) hs5) ?_
    refine runL_b [0] [(0, Sl (At b1 o1) l.length c_l), (1, I ((kn1 : Int))), (4, Bo false), (5, Sl a1 (((rollIn l i).1).length) c1), (7, U ((rollRoot l).1)), (9, Bo ((rollIsIn ((rollRoot l).1) (((l.length : Nat) : Int)) ((kn1 : Int)) x1 ((rollIn l i).1)).1)), (11, Bo ((rollIsIn (((rollRoot l).1) + 1) (((l.length : Nat) : Int)) ((kn1 : Int)) x1 ((rollIn l i).1)).1)), (13, Bo ((rollIsIn ((rollRoot l).1) (((l.length : Nat) : Int)) ((kn1 : Int)) x1 (((rollIn l i).1) ++ [0])).1)), (16, Bo false), (24, Bo (!decide ((rollIn l i).2 = 0))), (82, Bo (!(([(rollRoot l).2, (rollIsIn ((rollRoot l).1) (((l.length : Nat) : Int)) ((kn1 : Int)) x1 ((rollIn l i).1)).2, (rollIsIn (((rollRoot l).1) + 1) (((l.length : Nat) : Int)) ((kn1 : Int)) x1 ((rollIn l i).1)).2, (rollIsIn ((rollRoot l).1) (((l.length : Nat) : Int)) ((kn1 : Int)) x1 (((rollIn l i).1) ++ [0])).2]).any fun x0 => !decide (x0 = 0))))] ?_
    refine runL_b2 (!(([(rollRoot l).2, (rollIsIn ((rollRoot l).1) (((l.length : Nat) : Int)) ((kn1 : Int)) x1 ((rollIn l i).1)).2, (rollIsIn (((rollRoot l).1) + 1) (((l.length : Nat) : Int)) ((kn1 : Int)) x1 ((rollIn l i).1)).2, (rollIsIn ((rollRoot l).1) (((l.length : Nat) : Int)) ((kn1 : Int)) x1 (((rollIn l i).1) ++ [0])).2]).any fun x0 => !decide (x0 = 0))) (fun bb => [(0, Sl (At b1 o1) l.length c_l), (1, I ((kn1 : Int))), (4, Bo false), (5, Sl a1 (((rollIn l i).1).length) c1), (7, U ((rollRoot l).1)), (9, Bo ((rollIsIn ((rollRoot l).1) (((l.length : Nat) : Int)) ((kn1 : Int)) x1 ((rollIn l i).1)).1)), (11, Bo ((rollIsIn (((rollRoot l).1) + 1) (((l.length : Nat) : Int)) ((kn1 : Int)) x1 ((rollIn l i).1)).1)), (13, Bo ((rollIsIn ((rollRoot l).1) (((l.length : Nat) : Int)) ((kn1 : Int)) x1 (((rollIn l i).1) ++ [0])).1)), (16, Bo false), (24, Bo (!decide ((rollIn l i).2 = 0))), (82, Bo bb)]) [0,0] [1,0] (fun bb => [(0, Sl (At b1 o1) l.length c_l), (1, I ((kn1 : Int))), (4, Bo false), (5, Sl a1 (((rollIn l i).1).length) c1), (7, U ((rollRoot l).1)), (11, Bo ((rollIsIn (((rollRoot l).1) + 1) (((l.length : Nat) : Int)) ((kn1 : Int)) x1 ((rollIn l i).1)).1)), (13, Bo ((rollIsIn ((rollRoot l).1) (((l.length : Nat) : Int)) ((kn1 : Int)) x1 (((rollIn l i).1) ++ [0])).1)), (16, Bo false), (24, Bo (!decide ((rollIn l i).2 = 0))), (84, Bo (bb && ((rollIsIn ((rollRoot l).1) (((l.length : Nat) : Int)) ((kn1 : Int)) x1 ((rollIn l i).1)).1)))]) ?_
    refine runL_b [0] [(0, Sl (At b1 o1) l.length c_l), (1, I ((kn1 : Int))), (4, Bo false), (5, Sl a1 (((rollIn l i).1).length) c1), (7, U ((rollRoot l).1)), (11, Bo ((rollIsIn (((rollRoot l).1) + 1) (((l.length : Nat) : Int)) ((kn1 : Int)) x1 ((rollIn l i).1)).1)), (13, Bo ((rollIsIn ((rollRoot l).1) (((l.length : Nat) : Int)) ((kn1 : Int)) x1 (((rollIn l i).1) ++ [0])).1)), (16, Bo false), (24, Bo (!decide ((rollIn l i).2 = 0))), (85, Bo ((!(([(rollRoot l).2, (rollIsIn ((rollRoot l).1) (((l.length : Nat) : Int)) ((kn1 : Int)) x1 ((rollIn l i).1)).2, (rollIsIn (((rollRoot l).1) + 1) (((l.length : Nat) : Int)) ((kn1 : Int)) x1 ((rollIn l i).1)).2, (rollIsIn ((rollRoot l).1) (((l.length : Nat) : Int)) ((kn1 : Int)) x1 (((rollIn l i).1) ++ [0])).2]).any fun x0 => !decide (x0 = 0))) && ((rollIsIn ((rollRoot l).1) (((l.length : Nat) : Int)) ((kn1 : Int)) x1 ((rollIn l i).1)).1)))] ?_
    refine runL_b2 ((!(([(rollRoot l).2, (rollIsIn ((rollRoot l).1) (((l.length : Nat) : Int)) ((kn1 : Int)) x1 ((rollIn l i).1)).2, (rollIsIn (((rollRoot l).1) + 1) (((l.length : Nat) : Int)) ((kn1 : Int)) x1 ((rollIn l i).1)).2, (rollIsIn ((rollRoot l).1) (((l.length : Nat) : Int)) ((kn1 : Int)) x1 (((rollIn l i).1) ++ [0])).2]).any fun x0 => !decide (x0 = 0))) && ((rollIsIn ((rollRoot l).1) (((l.length : Nat) : Int)) ((kn1 : Int)) x1 ((rollIn l i).1)).1)) (fun bb => [(0, Sl (At b1 o1) l.length c_l), (1, I ((kn1 : Int))), (4, Bo false), (5, Sl a1 (((rollIn l i).1).length) c1), (7, U ((rollRoot l).1)), (11, Bo ((rollIsIn (((rollRoot l).1) + 1) (((l.length : Nat) : Int)) ((kn1 : Int)) x1 ((rollIn l i).1)).1)), (13, Bo ((rollIsIn ((rollRoot l).1) (((l.length : Nat) : Int)) ((kn1 : Int)) x1 (((rollIn l i).1) ++ [0])).1)), (16, Bo false), (24, Bo (!decide ((rollIn l i).2 = 0))), (85, Bo bb)]) [0,0,0] [1,1,0] (fun bb => [(0, Sl (At b1 o1) l.length c_l), (1, I ((kn1 : Int))), (4, Bo false), (5, Sl a1 (((rollIn l i).1).length) c1), (7, U ((rollRoot l).1)), (13, Bo ((rollIsIn ((rollRoot l).1) (((l.length : Nat) : Int)) ((kn1 : Int)) x1 (((rollIn l i).1) ++ [0])).1)), (16, Bo false), (24, Bo (!decide ((rollIn l i).2 = 0))), (88, Bo (bb && (!((rollIsIn (((rollRoot l).1) + 1) (((l.length : Nat) : Int)) ((kn1 : Int)) x1 ((rollIn l i).1)).1))))]) ?_
    refine runL_b [0] [(0, Sl (At b1 o1) l.length c_l), (1, I ((kn1 : Int))), (4, Bo false), (5, Sl a1 (((rollIn l i).1).length) c1), (7, U ((rollRoot l).1)), (13, Bo ((rollIsIn ((rollRoot l).1) (((l.length : Nat) : Int)) ((kn1 : Int)) x1 (((rollIn l i).1) ++ [0])).1)), (16, Bo false), (24, Bo (!decide ((rollIn l i).2 = 0))), (89, Bo (((!(([(rollRoot l).2, (rollIsIn ((rollRoot l).1) (((l.length : Nat) : Int)) ((kn1 : Int)) x1 ((rollIn l i).1)).2, (rollIsIn (((rollRoot l).1) + 1) (((l.length : Nat) : Int)) ((kn1 : Int)) x1 ((rollIn l i).1)).2, (rollIsIn ((rollRoot l).1) (((l.length : Nat) : Int)) ((kn1 : Int)) x1 (((rollIn l i).1) ++ [0])).2]).any fun x0 => !decide (x0 = 0))) && ((rollIsIn ((rollRoot l).1) (((l.length : Nat) : Int)) ((kn1 : Int)) x1 ((rollIn l i).1)).1)) && (!((rollIsIn (((rollRoot l).1) + 1) (((l.length : Nat) : Int)) ((kn1 : Int)) x1 ((rollIn l i).1)).1))))] ?_
    refine runL_b2 (((!(([(rollRoot l).2, (rollIsIn ((rollRoot l).1) (((l.length : Nat) : Int)) ((kn1 : Int)) x1 ((rollIn l i).1)).2, (rollIsIn (((rollRoot l).1) + 1) (((l.length : Nat) : Int)) ((kn1 : Int)) x1 ((rollIn l i).1)).2, (rollIsIn ((rollRoot l).1) (((l.length : Nat) : Int)) ((kn1 : Int)) x1 (((rollIn l i).1) ++ [0])).2]).any fun x0 => !decide (x0 = 0))) && ((rollIsIn ((rollRoot l).1) (((l.length : Nat) : Int)) ((kn1 : Int)) x1 ((rollIn l i).1)).1)) && (!((rollIsIn (((rollRoot l).1) + 1) (((l.length : Nat) : Int)) ((kn1 : Int)) x1 ((rollIn l i).1)).1))) (fun bb => [(0, Sl (At b1 o1) l.length c_l), (1, I ((kn1 : Int))), (4, Bo false), (5, Sl a1 (((rollIn l i).1).length) c1), (7, U ((rollRoot l).1)), (13, Bo ((rollIsIn ((rollRoot l).1) (((l.length : Nat) : Int)) ((kn1 : Int)) x1 (((rollIn l i).1) ++ [0])).1)), (16, Bo false), (24, Bo (!decide ((rollIn l i).2 = 0))), (89, Bo bb)]) [0,0,0] [1,1,0] (fun bb => [(0, Sl (At b1 o1) l.length c_l), (1, I ((kn1 : Int))), (4, Bo false), (5, Sl a1 (((rollIn l i).1).length) c1), (7, U ((rollRoot l).1)), (16, Bo false), (24, Bo (!decide ((rollIn l i).2 = 0))), (92, Bo (bb && (!((rollIsIn ((rollRoot l).1) (((l.length : Nat) : Int)) ((kn1 : Int)) x1 (((rollIn l i).1) ++ [0])).1))))]) ?_
    refine runL_b [0] [(0, Sl (At b1 o1) l.length c_l), (1, I ((kn1 : Int))), (4, Bo ((((!(([(rollRoot l).2, (rollIsIn ((rollRoot l).1) (((l.length : Nat) : Int)) ((kn1 : Int)) x1 ((rollIn l i).1)).2, (rollIsIn (((rollRoot l).1) + 1) (((l.length : Nat) : Int)) ((kn1 : Int)) x1 ((rollIn l i).1)).2, (rollIsIn ((rollRoot l).1) (((l.length : Nat) : Int)) ((kn1 : Int)) x1 (((rollIn l i).1) ++ [0])).2]).any fun x0 => !decide (x0 = 0))) && ((rollIsIn ((rollRoot l).1) (((l.length : Nat) : Int)) ((kn1 : Int)) x1 ((rollIn l i).1)).1)) && (!((rollIsIn (((rollRoot l).1) + 1) (((l.length : Nat) : Int)) ((kn1 : Int)) x1 ((rollIn l i).1)).1))) && (!((rollIsIn ((rollRoot l).1) (((l.length : Nat) : Int)) ((kn1 : Int)) x1 (((rollIn l i).1) ++ [0])).1)))), (5, Sl a1 (((rollIn l i).1).length) c1), (7, U ((rollRoot l).1)), (16, Bo false), (24, Bo (!decide ((rollIn l i).2 = 0)))] ?_
    refine runL_nil ?_
    refine tq_then ?_
    refine tc_ret ?_
    refine tq_ret [0] [Bo ((((!(([(rollRoot l).2, (rollIsIn ((rollRoot l).1) (((l.length : Nat) : Int)) ((kn1 : Int)) x1 ((rollIn l i).1)).2, (rollIsIn (((rollRoot l).1) + 1) (((l.length : Nat) : Int)) ((kn1 : Int)) x1 ((rollIn l i).1)).2, (rollIsIn ((rollRoot l).1) (((l.length : Nat) : Int)) ((kn1 : Int)) x1 (((rollIn l i).1) ++ [0])).2]).any fun x0 => !decide (x0 = 0))) && ((rollIsIn ((rollRoot l).1) (((l.length : Nat) : Int)) ((kn1 : Int)) x1 ((rollIn l i).1)).1)) && (!((rollIsIn (((rollRoot l).1) + 1) (((l.length : Nat) : Int)) ((kn1 : Int)) x1 ((rollIn l i).1)).1))) && (!((rollIsIn ((rollRoot l).1) (((l.length : Nat) : Int)) ((kn1 : Int)) x1 (((rollIn l i).1) ++ [0])).1)))] (bp_ret (Mem.le_trans (Mem.le_trans (Mem.le_trans hl1 hl5) hl6) hl7) ?_)
    have hf_ : ((((!(([(rollRoot l).2, (rollIsIn ((rollRoot l).1) (((l.length : Nat) : Int)) ((kn1 : Int)) x1 ((rollIn l i).1)).2, (rollIsIn (((rollRoot l).1) + 1) (((l.length : Nat) : Int)) ((kn1 : Int)) x1 ((rollIn l i).1)).2, (rollIsIn ((rollRoot l).1) (((l.length : Nat) : Int)) ((kn1 : Int)) x1 (((rollIn l i).1) ++ [0])).2]).any fun x0 => !decide (x0 = 0))) && ((rollIsIn ((rollRoot l).1) (((l.length : Nat) : Int)) ((kn1 : Int)) x1 ((rollIn l i).1)).1)) && (!((rollIsIn (((rollRoot l).1) + 1) (((l.length : Nat) : Int)) ((kn1 : Int)) x1 ((rollIn l i).1)).1))) && (!((rollIsIn ((rollRoot l).1) (((l.length : Nat) : Int)) ((kn1 : Int)) x1 (((rollIn l i).1) ++ [0])).1))) = true := by
      first | (simp [rollIn_err (by assumption)]; done) | (subst hkn1; have q_ := rollIns_law (by assumption) (by assumption); simp [q_])
    exact congrArg Bo hf_

theorem rollGrew_law_con (G : Mem) (a_l : Option Addr) (c_l : Nat) (l : List ((List UInt8))) (h_l : RS ES G a_l c_l l) (m : Int) (hw_m : -9223372036854775808 ≤ m ∧ m < 9223372036854775808) (hf_l : l.length * 16 ≤ 140737488351232) : Con Try.prog 8 #[Sl a_l l.length c_l, I m] G [] (fun u G' L' => u = Bo true) := by
  refine con_of Try.func8 74 [(0, Sl a_l l.length c_l), (1, I m)] rfl (fun w0 G0 => ?_)
  refine tc_rb [0] [(0, Sl a_l l.length c_l), (1, I m), (4, Bo false)] ?_
  refine tc_seq ?_
  refine tc_seq ?_
  refine tc_region ?_
  refine runL_callV 15 (Bo true) (rolls_con G) ?_
  refine runL_b [0] [(0, Sl a_l l.length c_l), (1, I m), (4, Bo false), (16, Bo false)] ?_
  refine runL_nil ?_
  refine tq_then ?_
  refine tc_cond_false ?_
  refine tc_skip ?_
  refine tq_then ?_
  refine tc_seq ?_
  refine tc_region ?_
  refine runL_b [0,0] [(0, Sl a_l l.length c_l), (1, I m), (4, Bo false), (16, Bo false), (18, Sl a_l l.length c_l), (19, I m)] ?_
  refine runL_callR 20 (rollGrew_con G a_l c_l l h_l m) (fun v G1 L1 hl1 hp => ?_)
  obtain ⟨a1, c1, rfl, hs1, rfl⟩ := hp
  refine runL_b [0,0,0,0,0] [(0, Sl a_l l.length c_l), (1, I m), (4, Bo false), (5, Sl a1 (((rollGrew l m).1).length) c1), (6, I ((rollGrew l m).2)), (16, Bo false)] ?_
  refine runL_nil ?_
  refine tq_then ?_
  refine tc_seq ?_
  refine tc_rb [0,0] [(0, Sl a_l l.length c_l), (1, I m), (4, Bo false), (5, Sl a1 (((rollGrew l m).1).length) c1), (16, Bo false), (24, Bo (!decide ((rollGrew l m).2 = 0)))] ?_
  refine tc_cond (!decide ((rollGrew l m).2 = 0)) (fun h1 => ?_) (fun h1 => ?_)
  ·
    try simp only [decide_eq_true_eq, decide_eq_false_iff_not, Bool.and_eq_true, Bool.or_eq_true, Bool.and_eq_false_imp, Bool.or_eq_false_iff, Bool.not_eq_true', Bool.not_eq_false', Bool.not_eq_true, Bool.not_eq_false, beq_iff_eq, beq_eq_false_iff_ne, bne_iff_ne, ne_eq, Decidable.not_not, Int.not_lt, Int.not_le] at h1
    refine tc_rb [0,0,0,0] [(0, Sl a_l l.length c_l), (1, I m), (4, Bo (decide (((((rollGrew l m).1).length : Nat) : Int) = 0))), (5, Sl a1 (((rollGrew l m).1).length) c1), (16, Bo false), (24, Bo (!decide ((rollGrew l m).2 = 0)))] ?_
    refine tc_ret ?_
    refine tq_then_ret ?_
    refine tq_ret [0] [Bo (decide (((((rollGrew l m).1).length : Nat) : Int) = 0))] (bp_ret hl1 ?_)
    have hf_ : (decide (((((rollGrew l m).1).length : Nat) : Int) = 0)) = true := by
      first | (simp [rollGrew_err (by assumption)]; done) | (subst hkn1; have q_ := rollGrew_law (by assumption); simp [q_])
    exact congrArg Bo hf_
  ·
    try simp only [decide_eq_true_eq, decide_eq_false_iff_not, Bool.and_eq_true, Bool.or_eq_true, Bool.and_eq_false_imp, Bool.or_eq_false_iff, Bool.not_eq_true', Bool.not_eq_false', Bool.not_eq_true, Bool.not_eq_false, beq_iff_eq, beq_eq_false_iff_ne, bne_iff_ne, ne_eq, Decidable.not_not, Int.not_lt, Int.not_le] at h1
    refine tc_skip ?_
    refine tq_then ?_
    refine tc_seq ?_
    refine tc_region ?_
    refine runL_b [0,0] [(0, Sl a_l l.length c_l), (1, I m), (4, Bo false), (5, Sl a1 (((rollGrew l m).1).length) c1), (16, Bo false), (24, Bo (!decide ((rollGrew l m).2 = 0))), (29, Sl a_l l.length c_l), (30, I m)] ?_
    obtain ⟨kn1, hkn1⟩ : ∃ k_ : Nat, m = (k_ : Int) := ⟨(m).toNat, by first | omega | (have q_ := rollIn_ok (by assumption); omega) | (have q_ := rollGrew_ok (by assumption); omega) | (have q_ := rollRoot_bd l; omega)⟩
    have e1 : m = (kn1 : Int) := hkn1
    refine runL_eq (fr' := [(0, Sl a_l l.length c_l), (1, I ((kn1 : Int))), (4, Bo false), (5, Sl a1 (((rollGrew l m).1).length) c1), (16, Bo false), (24, Bo (!decide ((rollGrew l m).2 = 0))), (29, Sl a_l l.length c_l), (30, I ((kn1 : Int)))]) (L' := []) (by first | rfl | simp only [e1]) (by first | rfl | simp only [e1]) ?_
    obtain ⟨a2, c2, ea1, ec1, en1, eh1, hs2⟩ := RS.reslXT (h_l.mono hl1) kn1 (by first | omega | (have q_ := rollIn_ok (by assumption); omega) | (have q_ := rollGrew_ok (by assumption); omega) | (have q_ := rollRoot_bd l; omega))
    refine runL_reslE (a := a_l) (len := l.length) (cap := c_l) 31 1 none (some (I ((kn1 : Int)))) 0 kn1 (.inl ⟨rfl, rfl⟩) (.inr ⟨_, rfl⟩) (by exact Nat.zero_le _) ea1 ec1 en1 eh1 ?_
    refine runL_callV 32 (.tuple #[U ((rollRoot (l.take kn1)).1), I ((rollRoot (l.take kn1)).2)]) (rollRoot_con G1 a2 c2 (l.take kn1) hs2) ?_
    refine runL_b [0,0,0,0,0] [(0, Sl a_l l.length c_l), (1, I ((kn1 : Int))), (4, Bo false), (5, Sl a1 (((rollGrew l m).1).length) c1), (7, U ((rollRoot (l.take kn1)).1)), (8, I ((rollRoot (l.take kn1)).2)), (16, Bo false), (24, Bo (!decide ((rollGrew l m).2 = 0)))] ?_
    refine runL_nil ?_
    refine tq_then ?_
    refine tc_seq ?_
    refine tc_region ?_
    refine runL_b [0] [(0, Sl a_l l.length c_l), (1, I ((kn1 : Int))), (4, Bo false), (5, Sl a1 (((rollGrew l m).1).length) c1), (7, U ((rollRoot (l.take kn1)).1)), (8, I ((rollRoot (l.take kn1)).2)), (16, Bo false), (24, Bo (!decide ((rollGrew l m).2 = 0))), (36, Sl a_l l.length c_l)] ?_
    refine runL_callV 37 (.tuple #[U ((rollRoot l).1), I ((rollRoot l).2)]) (rollRoot_con G1 a_l c_l l (h_l.mono hl1)) ?_
    refine runL_b [0,0,0,0,0] [(0, Sl a_l l.length c_l), (1, I ((kn1 : Int))), (4, Bo false), (5, Sl a1 (((rollGrew l m).1).length) c1), (7, U ((rollRoot (l.take kn1)).1)), (8, I ((rollRoot (l.take kn1)).2)), (9, U ((rollRoot l).1)), (10, I ((rollRoot l).2)), (16, Bo false), (24, Bo (!decide ((rollGrew l m).2 = 0)))] ?_
    refine runL_nil ?_
    refine tq_then ?_
    refine tc_seq ?_
    refine tc_region ?_
    refine runL_b [0,0,0,0,0,0] [(0, Sl a_l l.length c_l), (1, I ((kn1 : Int))), (4, Bo false), (5, Sl a1 (((rollGrew l m).1).length) c1), (7, U ((rollRoot (l.take kn1)).1)), (8, I ((rollRoot (l.take kn1)).2)), (9, U ((rollRoot l).1)), (10, I ((rollRoot l).2)), (16, Bo false), (24, Bo (!decide ((rollGrew l m).2 = 0))), (41, U ((rollRoot (l.take kn1)).1)), (42, I ((kn1 : Int))), (43, U ((rollRoot l).1)), (45, I (((l.length : Nat) : Int))), (46, Sl a1 (((rollGrew l m).1).length) c1)] ?_
    refine runL_callV 47 (.tuple #[Bo ((rollIsGrown ((rollRoot (l.take kn1)).1) ((kn1 : Int)) ((rollRoot l).1) (((l.length : Nat) : Int)) ((rollGrew l m).1)).1), I ((rollIsGrown ((rollRoot (l.take kn1)).1) ((kn1 : Int)) ((rollRoot l).1) (((l.length : Nat) : Int)) ((rollGrew l m).1)).2)]) (rollIsGrown_con G1 ((rollRoot (l.take kn1)).1) ((kn1 : Int)) ((rollRoot l).1) (((l.length : Nat) : Int)) a1 c1 ((rollGrew l m).1) hs1) ?_
    refine runL_b [0,0,0,0,0] [(0, Sl a_l l.length c_l), (1, I ((kn1 : Int))), (4, Bo false), (5, Sl a1 (((rollGrew l m).1).length) c1), (7, U ((rollRoot (l.take kn1)).1)), (8, I ((rollRoot (l.take kn1)).2)), (9, U ((rollRoot l).1)), (10, I ((rollRoot l).2)), (11, Bo ((rollIsGrown ((rollRoot (l.take kn1)).1) ((kn1 : Int)) ((rollRoot l).1) (((l.length : Nat) : Int)) ((rollGrew l m).1)).1)), (12, I ((rollIsGrown ((rollRoot (l.take kn1)).1) ((kn1 : Int)) ((rollRoot l).1) (((l.length : Nat) : Int)) ((rollGrew l m).1)).2)), (16, Bo false), (24, Bo (!decide ((rollGrew l m).2 = 0)))] ?_
    refine runL_nil ?_
    refine tq_then ?_
    refine tc_seq ?_
    refine tc_region ?_
    refine runL_b [0,0,0,0,0,0,0] [(0, Sl a_l l.length c_l), (1, I ((kn1 : Int))), (4, Bo false), (5, Sl a1 (((rollGrew l m).1).length) c1), (7, U ((rollRoot (l.take kn1)).1)), (8, I ((rollRoot (l.take kn1)).2)), (9, U ((rollRoot l).1)), (10, I ((rollRoot l).2)), (11, Bo ((rollIsGrown ((rollRoot (l.take kn1)).1) ((kn1 : Int)) ((rollRoot l).1) (((l.length : Nat) : Int)) ((rollGrew l m).1)).1)), (12, I ((rollIsGrown ((rollRoot (l.take kn1)).1) ((kn1 : Int)) ((rollRoot l).1) (((l.length : Nat) : Int)) ((rollGrew l m).1)).2)), (16, Bo false), (24, Bo (!decide ((rollGrew l m).2 = 0))), (51, U ((rollRoot (l.take kn1)).1)), (52, I ((kn1 : Int))), (54, U (IntKind.u64.wrap (((rollRoot l).1) + 1))), (56, I (((l.length : Nat) : Int))), (57, Sl a1 (((rollGrew l m).1).length) c1)] ?_
    have e2 : IntKind.u64.wrap (((rollRoot l).1) + 1) = ((rollRoot l).1) + 1 := IntWalk.u64_in _ (by first | omega | (have q_ := rollIn_ok (by assumption); omega) | (have q_ := rollGrew_ok (by assumption); omega) | (have q_ := rollRoot_bd l; omega))
    refine runL_eq (fr' := [(0, Sl a_l l.length c_l), (1, I ((kn1 : Int))), (4, Bo false), (5, Sl a1 (((rollGrew l m).1).length) c1), (7, U ((rollRoot (l.take kn1)).1)), (8, I ((rollRoot (l.take kn1)).2)), (9, U ((rollRoot l).1)), (10, I ((rollRoot l).2)), (11, Bo ((rollIsGrown ((rollRoot (l.take kn1)).1) ((kn1 : Int)) ((rollRoot l).1) (((l.length : Nat) : Int)) ((rollGrew l m).1)).1)), (12, I ((rollIsGrown ((rollRoot (l.take kn1)).1) ((kn1 : Int)) ((rollRoot l).1) (((l.length : Nat) : Int)) ((rollGrew l m).1)).2)), (16, Bo false), (24, Bo (!decide ((rollGrew l m).2 = 0))), (51, U ((rollRoot (l.take kn1)).1)), (52, I ((kn1 : Int))), (54, U (((rollRoot l).1) + 1)), (56, I (((l.length : Nat) : Int))), (57, Sl a1 (((rollGrew l m).1).length) c1)]) (L' := []) (by simp only [e2]) (by rfl) ?_
    clear e2
    refine runL_callV 58 (.tuple #[Bo ((rollIsGrown ((rollRoot (l.take kn1)).1) ((kn1 : Int)) (((rollRoot l).1) + 1) (((l.length : Nat) : Int)) ((rollGrew l m).1)).1), I ((rollIsGrown ((rollRoot (l.take kn1)).1) ((kn1 : Int)) (((rollRoot l).1) + 1) (((l.length : Nat) : Int)) ((rollGrew l m).1)).2)]) (rollIsGrown_con G1 ((rollRoot (l.take kn1)).1) ((kn1 : Int)) (((rollRoot l).1) + 1) (((l.length : Nat) : Int)) a1 c1 ((rollGrew l m).1) hs1) ?_
    refine runL_b [0,0,0,0,0] [(0, Sl a_l l.length c_l), (1, I ((kn1 : Int))), (4, Bo false), (5, Sl a1 (((rollGrew l m).1).length) c1), (7, U ((rollRoot (l.take kn1)).1)), (8, I ((rollRoot (l.take kn1)).2)), (9, U ((rollRoot l).1)), (10, I ((rollRoot l).2)), (11, Bo ((rollIsGrown ((rollRoot (l.take kn1)).1) ((kn1 : Int)) ((rollRoot l).1) (((l.length : Nat) : Int)) ((rollGrew l m).1)).1)), (12, I ((rollIsGrown ((rollRoot (l.take kn1)).1) ((kn1 : Int)) ((rollRoot l).1) (((l.length : Nat) : Int)) ((rollGrew l m).1)).2)), (13, Bo ((rollIsGrown ((rollRoot (l.take kn1)).1) ((kn1 : Int)) (((rollRoot l).1) + 1) (((l.length : Nat) : Int)) ((rollGrew l m).1)).1)), (14, I ((rollIsGrown ((rollRoot (l.take kn1)).1) ((kn1 : Int)) (((rollRoot l).1) + 1) (((l.length : Nat) : Int)) ((rollGrew l m).1)).2)), (16, Bo false), (24, Bo (!decide ((rollGrew l m).2 = 0)))] ?_
    refine runL_nil ?_
    refine tq_then ?_
    refine tc_seq ?_
    refine tc_region ?_
    refine runL_b [0,0,0,0] [(0, Sl a_l l.length c_l), (1, I ((kn1 : Int))), (4, Bo false), (5, Sl a1 (((rollGrew l m).1).length) c1), (7, U ((rollRoot (l.take kn1)).1)), (9, U ((rollRoot l).1)), (11, Bo ((rollIsGrown ((rollRoot (l.take kn1)).1) ((kn1 : Int)) ((rollRoot l).1) (((l.length : Nat) : Int)) ((rollGrew l m).1)).1)), (13, Bo ((rollIsGrown ((rollRoot (l.take kn1)).1) ((kn1 : Int)) (((rollRoot l).1) + 1) (((l.length : Nat) : Int)) ((rollGrew l m).1)).1)), (16, Bo false), (24, Bo (!decide ((rollGrew l m).2 = 0))), (61, I ((rollRoot (l.take kn1)).2)), (62, I ((rollRoot l).2)), (63, I ((rollIsGrown ((rollRoot (l.take kn1)).1) ((kn1 : Int)) ((rollRoot l).1) (((l.length : Nat) : Int)) ((rollGrew l m).1)).2)), (64, I ((rollIsGrown ((rollRoot (l.take kn1)).1) ((kn1 : Int)) (((rollRoot l).1) + 1) (((l.length : Nat) : Int)) ((rollGrew l m).1)).2))] ?_
    refine runL_bsl 65 4 #[I ((rollRoot (l.take kn1)).2), I ((rollRoot l).2), I ((rollIsGrown ((rollRoot (l.take kn1)).1) ((kn1 : Int)) ((rollRoot l).1) (((l.length : Nat) : Int)) ((rollGrew l m).1)).2), I ((rollIsGrown ((rollRoot (l.take kn1)).1) ((kn1 : Int)) (((rollRoot l).1) + 1) (((l.length : Nat) : Int)) ((rollGrew l m).1)).2)] 41 (fun b1 => ?_)
    refine runL_frz1 (b := b1) (o := 0) (cs := [I ((rollRoot (l.take kn1)).2), I ((rollRoot l).2), I ((rollIsGrown ((rollRoot (l.take kn1)).1) ((kn1 : Int)) ((rollRoot l).1) (((l.length : Nat) : Int)) ((rollGrew l m).1)).2), I ((rollIsGrown ((rollRoot (l.take kn1)).1) ((kn1 : Int)) (((rollRoot l).1) + 1) (((l.length : Nat) : Int)) ((rollGrew l m).1)).2)]) 0 (fun G2 hl2 hz1 => ?_)
    have hs3 : RS EErr G2 (At b1 0) 4 [(rollRoot (l.take kn1)).2, (rollRoot l).2, (rollIsGrown ((rollRoot (l.take kn1)).1) ((kn1 : Int)) ((rollRoot l).1) (((l.length : Nat) : Int)) ((rollGrew l m).1)).2, (rollIsGrown ((rollRoot (l.take kn1)).1) ((kn1 : Int)) (((rollRoot l).1) + 1) (((l.length : Nat) : Int)) ((rollGrew l m).1)).2] := RS.lit [[I ((rollRoot (l.take kn1)).2)], [I ((rollRoot l).2)], [I ((rollIsGrown ((rollRoot (l.take kn1)).1) ((kn1 : Int)) ((rollRoot l).1) (((l.length : Nat) : Int)) ((rollGrew l m).1)).2)], [I ((rollIsGrown ((rollRoot (l.take kn1)).1) ((kn1 : Int)) (((rollRoot l).1) + 1) (((l.length : Nat) : Int)) ((rollGrew l m).1)).2)]] [(rollRoot (l.take kn1)).2, (rollRoot l).2, (rollIsGrown ((rollRoot (l.take kn1)).1) ((kn1 : Int)) ((rollRoot l).1) (((l.length : Nat) : Int)) ((rollGrew l m).1)).2, (rollIsGrown ((rollRoot (l.take kn1)).1) ((kn1 : Int)) (((rollRoot l).1) + 1) (((l.length : Nat) : Int)) ((rollGrew l m).1)).2] ⟨rfl, ⟨rfl, ⟨rfl, ⟨rfl, trivial⟩⟩⟩⟩ hz1 (Nat.le_of_ble_eq_true rfl) (Nat.le_of_ble_eq_true rfl)
    refine runL_callV 66 (Bo (!(([(rollRoot (l.take kn1)).2, (rollRoot l).2, (rollIsGrown ((rollRoot (l.take kn1)).1) ((kn1 : Int)) ((rollRoot l).1) (((l.length : Nat) : Int)) ((rollGrew l m).1)).2, (rollIsGrown ((rollRoot (l.take kn1)).1) ((kn1 : Int)) (((rollRoot l).1) + 1) (((l.length : Nat) : Int)) ((rollGrew l m).1)).2]).any fun x0 => !decide (x0 = 0)))) (good_con G2 (At b1 0) 4 ([(rollRoot (l.take kn1)).2, (rollRoot l).2, (rollIsGrown ((rollRoot (l.take kn1)).1) ((kn1 : Int)) ((rollRoot l).1) (((l.length : Nat) : Int)) ((rollGrew l m).1)).2, (rollIsGrown ((rollRoot (l.take kn1)).1) ((kn1 : Int)) (((rollRoot l).1) + 1) (((l.length : Nat) : Int)) ((rollGrew l m).1)).2]) hs3) ?_
    refine runL_b [0] [(0, Sl a_l l.length c_l), (1, I ((kn1 : Int))), (4, Bo false), (5, Sl a1 (((rollGrew l m).1).length) c1), (7, U ((rollRoot (l.take kn1)).1)), (9, U ((rollRoot l).1)), (11, Bo ((rollIsGrown ((rollRoot (l.take kn1)).1) ((kn1 : Int)) ((rollRoot l).1) (((l.length : Nat) : Int)) ((rollGrew l m).1)).1)), (13, Bo ((rollIsGrown ((rollRoot (l.take kn1)).1) ((kn1 : Int)) (((rollRoot l).1) + 1) (((l.length : Nat) : Int)) ((rollGrew l m).1)).1)), (16, Bo false), (24, Bo (!decide ((rollGrew l m).2 = 0))), (67, Bo (!(([(rollRoot (l.take kn1)).2, (rollRoot l).2, (rollIsGrown ((rollRoot (l.take kn1)).1) ((kn1 : Int)) ((rollRoot l).1) (((l.length : Nat) : Int)) ((rollGrew l m).1)).2, (rollIsGrown ((rollRoot (l.take kn1)).1) ((kn1 : Int)) (((rollRoot l).1) + 1) (((l.length : Nat) : Int)) ((rollGrew l m).1)).2]).any fun x0 => !decide (x0 = 0))))] ?_
    refine runL_b2 (!(([(rollRoot (l.take kn1)).2, (rollRoot l).2, (rollIsGrown ((rollRoot (l.take kn1)).1) ((kn1 : Int)) ((rollRoot l).1) (((l.length : Nat) : Int)) ((rollGrew l m).1)).2, (rollIsGrown ((rollRoot (l.take kn1)).1) ((kn1 : Int)) (((rollRoot l).1) + 1) (((l.length : Nat) : Int)) ((rollGrew l m).1)).2]).any fun x0 => !decide (x0 = 0))) (fun bb => [(0, Sl a_l l.length c_l), (1, I ((kn1 : Int))), (4, Bo false), (5, Sl a1 (((rollGrew l m).1).length) c1), (7, U ((rollRoot (l.take kn1)).1)), (9, U ((rollRoot l).1)), (11, Bo ((rollIsGrown ((rollRoot (l.take kn1)).1) ((kn1 : Int)) ((rollRoot l).1) (((l.length : Nat) : Int)) ((rollGrew l m).1)).1)), (13, Bo ((rollIsGrown ((rollRoot (l.take kn1)).1) ((kn1 : Int)) (((rollRoot l).1) + 1) (((l.length : Nat) : Int)) ((rollGrew l m).1)).1)), (16, Bo false), (24, Bo (!decide ((rollGrew l m).2 = 0))), (67, Bo bb)]) [0,0] [1,0] (fun bb => [(0, Sl a_l l.length c_l), (1, I ((kn1 : Int))), (4, Bo false), (5, Sl a1 (((rollGrew l m).1).length) c1), (7, U ((rollRoot (l.take kn1)).1)), (9, U ((rollRoot l).1)), (13, Bo ((rollIsGrown ((rollRoot (l.take kn1)).1) ((kn1 : Int)) (((rollRoot l).1) + 1) (((l.length : Nat) : Int)) ((rollGrew l m).1)).1)), (16, Bo false), (24, Bo (!decide ((rollGrew l m).2 = 0))), (69, Bo (bb && ((rollIsGrown ((rollRoot (l.take kn1)).1) ((kn1 : Int)) ((rollRoot l).1) (((l.length : Nat) : Int)) ((rollGrew l m).1)).1)))]) ?_
    refine runL_b [0] [(0, Sl a_l l.length c_l), (1, I ((kn1 : Int))), (4, Bo false), (5, Sl a1 (((rollGrew l m).1).length) c1), (7, U ((rollRoot (l.take kn1)).1)), (9, U ((rollRoot l).1)), (13, Bo ((rollIsGrown ((rollRoot (l.take kn1)).1) ((kn1 : Int)) (((rollRoot l).1) + 1) (((l.length : Nat) : Int)) ((rollGrew l m).1)).1)), (16, Bo false), (24, Bo (!decide ((rollGrew l m).2 = 0))), (70, Bo ((!(([(rollRoot (l.take kn1)).2, (rollRoot l).2, (rollIsGrown ((rollRoot (l.take kn1)).1) ((kn1 : Int)) ((rollRoot l).1) (((l.length : Nat) : Int)) ((rollGrew l m).1)).2, (rollIsGrown ((rollRoot (l.take kn1)).1) ((kn1 : Int)) (((rollRoot l).1) + 1) (((l.length : Nat) : Int)) ((rollGrew l m).1)).2]).any fun x0 => !decide (x0 = 0))) && ((rollIsGrown ((rollRoot (l.take kn1)).1) ((kn1 : Int)) ((rollRoot l).1) (((l.length : Nat) : Int)) ((rollGrew l m).1)).1)))] ?_
    refine runL_b2 ((!(([(rollRoot (l.take kn1)).2, (rollRoot l).2, (rollIsGrown ((rollRoot (l.take kn1)).1) ((kn1 : Int)) ((rollRoot l).1) (((l.length : Nat) : Int)) ((rollGrew l m).1)).2, (rollIsGrown ((rollRoot (l.take kn1)).1) ((kn1 : Int)) (((rollRoot l).1) + 1) (((l.length : Nat) : Int)) ((rollGrew l m).1)).2]).any fun x0 => !decide (x0 = 0))) && ((rollIsGrown ((rollRoot (l.take kn1)).1) ((kn1 : Int)) ((rollRoot l).1) (((l.length : Nat) : Int)) ((rollGrew l m).1)).1)) (fun bb => [(0, Sl a_l l.length c_l), (1, I ((kn1 : Int))), (4, Bo false), (5, Sl a1 (((rollGrew l m).1).length) c1), (7, U ((rollRoot (l.take kn1)).1)), (9, U ((rollRoot l).1)), (13, Bo ((rollIsGrown ((rollRoot (l.take kn1)).1) ((kn1 : Int)) (((rollRoot l).1) + 1) (((l.length : Nat) : Int)) ((rollGrew l m).1)).1)), (16, Bo false), (24, Bo (!decide ((rollGrew l m).2 = 0))), (70, Bo bb)]) [0,0,0] [1,1,0] (fun bb => [(0, Sl a_l l.length c_l), (1, I ((kn1 : Int))), (4, Bo false), (5, Sl a1 (((rollGrew l m).1).length) c1), (7, U ((rollRoot (l.take kn1)).1)), (9, U ((rollRoot l).1)), (16, Bo false), (24, Bo (!decide ((rollGrew l m).2 = 0))), (73, Bo (bb && (!((rollIsGrown ((rollRoot (l.take kn1)).1) ((kn1 : Int)) (((rollRoot l).1) + 1) (((l.length : Nat) : Int)) ((rollGrew l m).1)).1))))]) ?_
    refine runL_b [0] [(0, Sl a_l l.length c_l), (1, I ((kn1 : Int))), (4, Bo (((!(([(rollRoot (l.take kn1)).2, (rollRoot l).2, (rollIsGrown ((rollRoot (l.take kn1)).1) ((kn1 : Int)) ((rollRoot l).1) (((l.length : Nat) : Int)) ((rollGrew l m).1)).2, (rollIsGrown ((rollRoot (l.take kn1)).1) ((kn1 : Int)) (((rollRoot l).1) + 1) (((l.length : Nat) : Int)) ((rollGrew l m).1)).2]).any fun x0 => !decide (x0 = 0))) && ((rollIsGrown ((rollRoot (l.take kn1)).1) ((kn1 : Int)) ((rollRoot l).1) (((l.length : Nat) : Int)) ((rollGrew l m).1)).1)) && (!((rollIsGrown ((rollRoot (l.take kn1)).1) ((kn1 : Int)) (((rollRoot l).1) + 1) (((l.length : Nat) : Int)) ((rollGrew l m).1)).1)))), (5, Sl a1 (((rollGrew l m).1).length) c1), (7, U ((rollRoot (l.take kn1)).1)), (9, U ((rollRoot l).1)), (16, Bo false), (24, Bo (!decide ((rollGrew l m).2 = 0)))] ?_
    refine runL_nil ?_
    refine tq_then ?_
    refine tc_ret ?_
    refine tq_ret [0] [Bo (((!(([(rollRoot (l.take kn1)).2, (rollRoot l).2, (rollIsGrown ((rollRoot (l.take kn1)).1) ((kn1 : Int)) ((rollRoot l).1) (((l.length : Nat) : Int)) ((rollGrew l m).1)).2, (rollIsGrown ((rollRoot (l.take kn1)).1) ((kn1 : Int)) (((rollRoot l).1) + 1) (((l.length : Nat) : Int)) ((rollGrew l m).1)).2]).any fun x0 => !decide (x0 = 0))) && ((rollIsGrown ((rollRoot (l.take kn1)).1) ((kn1 : Int)) ((rollRoot l).1) (((l.length : Nat) : Int)) ((rollGrew l m).1)).1)) && (!((rollIsGrown ((rollRoot (l.take kn1)).1) ((kn1 : Int)) (((rollRoot l).1) + 1) (((l.length : Nat) : Int)) ((rollGrew l m).1)).1)))] (bp_ret (Mem.le_trans hl1 hl2) ?_)
    have hf_ : (((!(([(rollRoot (l.take kn1)).2, (rollRoot l).2, (rollIsGrown ((rollRoot (l.take kn1)).1) ((kn1 : Int)) ((rollRoot l).1) (((l.length : Nat) : Int)) ((rollGrew l m).1)).2, (rollIsGrown ((rollRoot (l.take kn1)).1) ((kn1 : Int)) (((rollRoot l).1) + 1) (((l.length : Nat) : Int)) ((rollGrew l m).1)).2]).any fun x0 => !decide (x0 = 0))) && ((rollIsGrown ((rollRoot (l.take kn1)).1) ((kn1 : Int)) ((rollRoot l).1) (((l.length : Nat) : Int)) ((rollGrew l m).1)).1)) && (!((rollIsGrown ((rollRoot (l.take kn1)).1) ((kn1 : Int)) (((rollRoot l).1) + 1) (((l.length : Nat) : Int)) ((rollGrew l m).1)).1))) = true := by
      first | (simp [rollGrew_err (by assumption)]; done) | (subst hkn1; have q_ := rollGrew_law (by assumption); simp [q_])
    exact congrArg Bo hf_

theorem saidR_con (G : Mem) (n : Int) (i : Int) (text : List UInt8) (hw_text : (text).length ≤ 140737488351232) (a_p : Option Addr) (c_p : Nat) (p : List Int) (h_p : RS EU G a_p c_p p) (hn : 1 ≤ n ∧ n ≤ 40) (hi : 0 ≤ i ∧ i < n) (ht : text.length ≤ 1000) (hp : p.length = (dirs n i).length) : Con Try.prog 34 #[I n, I i, Sr text, Sl a_p p.length c_p] G [] (fun u G' L' => ∃ (a1 : Option Addr) (c2 : Nat) (r3 : List Seg), u = Sl a1 ((saidU (dirs n i).reverse p ([4] ++ text)).length) c2 ∧ (TRow ES G' a1 c2 (saidU (dirs n i).reverse p ([4] ++ text)) r3) ∧ L' = [r3]) := by
  refine con_of Try.func34 76 [(0, I n), (1, I i), (2, Sr text), (3, Sl a_p p.length c_p)] rfl (fun w0 G0 => ?_)
  refine tc_rb [0] [(0, I n), (1, I i), (2, Sr text), (3, Sl a_p p.length c_p), (8, Sl none 0 0)] ?_
  refine tc_rb [0] [(0, I n), (1, I i), (2, Sr text), (3, Sl a_p p.length c_p), (8, Sl none 0 0), (9, Sl none 0 0)] ?_
  refine tc_seq ?_
  refine tc_block ?_
  refine tc_empty ?_
  have hlm_h_p : p.length ≤ 9223372036854775807 := Nat.le_trans (h_p).le (h_p).max
  refine tc_loop (σ := Int × Int × Option Addr × Nat × List Seg × List Bool) (fun q_ => (1 ≤ q_.1 ∧ q_.1 ≤ 40) ∧ (0 ≤ q_.2.1 ∧ q_.2.1 < q_.1) ∧ (TRow EB G q_.2.2.1 q_.2.2.2.1 q_.2.2.2.2.2 q_.2.2.2.2.1) ∧ (q_.2.2.2.2.2 ++ dirs q_.1 q_.2.1 = dirs n i ∧ q_.2.2.2.2.2.length + q_.1.toNat ≤ 41)) (fun q_ => [(0, I q_.1), (1, I q_.2.1), (2, Sr text), (3, Sl a_p p.length c_p), (8, Sl none 0 0), (9, Sl q_.2.2.1 q_.2.2.2.2.2.length q_.2.2.2.1)]) (fun q_ => G) (fun q_ => [q_.2.2.2.2.1]) (fun q_ => q_.1.toNat) ((n, i, none, 0, [], [])) ⟨(by (try dsimp only); omega), (by (try dsimp only); omega), (TRow.none EB _), (by (try dsimp only); refine ⟨rfl, ?_⟩; simp; omega)⟩ (fun q_ hs => ?_)
  obtain ⟨c, v, al, cl, rl, xl⟩ := q_
  obtain ⟨hc, hv, hrl, hxl⟩ := hs
  dsimp only at hc hv hrl hxl
  refine tc_eq (fr' := [(0, I c), (1, I v), (2, Sr text), (3, Sl a_p p.length c_p), (8, Sl none 0 0), (9, Sl al xl.length cl)]) (L' := [rl]) rfl rfl ?_
  refine tc_seq ?_
  refine tc_rb [0,0] [(0, I c), (1, I v), (2, Sr text), (3, Sl a_p p.length c_p), (8, Sl none 0 0), (9, Sl al xl.length cl), (16, Bo (decide (c > 1)))] ?_
  refine tc_cond (decide (c > 1)) (fun h1 => ?_) (fun h1 => ?_)
  ·
    try simp only [decide_eq_true_eq, decide_eq_false_iff_not, Bool.and_eq_true, Bool.or_eq_true, Bool.and_eq_false_imp, Bool.or_eq_false_iff, Bool.not_eq_true', Bool.not_eq_false', Bool.not_eq_true, Bool.not_eq_false, beq_iff_eq, beq_eq_false_iff_ne, bne_iff_ne, ne_eq, Decidable.not_not, Int.not_lt, Int.not_le] at h1
    refine tc_skip ?_
    refine tq_then ?_
    refine tc_block ?_
    refine tc_rb [0] [(0, I c), (1, I v), (2, Sr text), (3, Sl a_p p.length c_p), (8, Sl none 0 0), (9, Sl al xl.length cl), (10, I 1), (16, Bo (decide (c > 1)))] ?_
    refine tc_seq ?_
    refine tc_block ?_
    have hlm_h_p : p.length ≤ 9223372036854775807 := Nat.le_trans (h_p).le (h_p).max
    refine tc_loop (σ := Int) (fun q_ => (1 ≤ q_ ∧ q_ ≤ 1000 ∧ halfF c.toNat c.toNat q_.toNat = half c.toNat)) (fun q_ => [(0, I c), (1, I v), (2, Sr text), (3, Sl a_p p.length c_p), (8, Sl none 0 0), (9, Sl al xl.length cl), (10, I q_), (16, Bo (decide (c > 1)))]) (fun q_ => G) (fun q_ => [rl]) (fun q_ => (c - q_).toNat) 1 ⟨by omega, by omega, rfl⟩ (fun q_ hs => ?_)
    revert hs; revert q_; intro k hs
    have hk := hs
    refine tc_eq (fr' := [(0, I c), (1, I v), (2, Sr text), (3, Sl a_p p.length c_p), (8, Sl none 0 0), (9, Sl al xl.length cl), (10, I k), (16, Bo (decide (c > 1)))]) (L' := [rl]) rfl rfl ?_
    refine tc_seq ?_
    refine tc_rb [0,0,0,0] [(0, I c), (1, I v), (2, Sr text), (3, Sl a_p p.length c_p), (8, Sl none 0 0), (9, Sl al xl.length cl), (10, I k), (16, Bo (decide (c > 1))), (20, Bo (decide (IntKind.i64.wrap (2 * k) < c)))] ?_
    have e1 : IntKind.i64.wrap (2 * k) = 2 * k := IntWalk.i64_in _ (by first | omega | (have q3_ := congrArg List.length hl_; have q_ := congrArg List.length hxo; have q1_ := saidU_len (dirs n i).reverse p ([4] ++ text) (by rw [List.length_reverse]; exact hp); rw [List.length_take] at q_; omega))
    refine tc_eq (fr' := [(0, I c), (1, I v), (2, Sr text), (3, Sl a_p p.length c_p), (8, Sl none 0 0), (9, Sl al xl.length cl), (10, I k), (16, Bo (decide (c > 1))), (20, Bo (decide (2 * k < c)))]) (L' := [rl]) (by simp only [e1]) (by rfl) ?_
    clear e1
    refine tc_cond (decide (2 * k < c)) (fun h2 => ?_) (fun h2 => ?_)
    ·
      try simp only [decide_eq_true_eq, decide_eq_false_iff_not, Bool.and_eq_true, Bool.or_eq_true, Bool.and_eq_false_imp, Bool.or_eq_false_iff, Bool.not_eq_true', Bool.not_eq_false', Bool.not_eq_true, Bool.not_eq_false, beq_iff_eq, beq_eq_false_iff_ne, bne_iff_ne, ne_eq, Decidable.not_not, Int.not_lt, Int.not_le] at h2
      refine tc_skip ?_
      refine tq_then ?_
      refine tc_block ?_
      refine tc_region ?_
      refine runL_b [0,0,0] [(0, I c), (1, I v), (2, Sr text), (3, Sl a_p p.length c_p), (8, Sl none 0 0), (9, Sl al xl.length cl), (10, I (IntKind.i64.wrap (k * 2))), (16, Bo (decide (c > 1))), (20, Bo (decide (2 * k < c)))] ?_
      have e2 : IntKind.i64.wrap (k * 2) = k * 2 := IntWalk.i64_in _ (by first | omega | (have q3_ := congrArg List.length hl_; have q_ := congrArg List.length hxo; have q1_ := saidU_len (dirs n i).reverse p ([4] ++ text) (by rw [List.length_reverse]; exact hp); rw [List.length_take] at q_; omega))
      refine runL_eq (fr' := [(0, I c), (1, I v), (2, Sr text), (3, Sl a_p p.length c_p), (8, Sl none 0 0), (9, Sl al xl.length cl), (10, I (k * 2)), (16, Bo (decide (c > 1))), (20, Bo (decide (2 * k < c)))]) (L' := [rl]) (by simp only [e2]) (by rfl) ?_
      clear e2
      refine runL_nil ?_
      refine tq_block ?_
      exact tq_rnd (k * 2) (by refine ⟨by omega, by omega, ?_⟩; exact (congrArg (halfF c.toNat c.toNat) (by omega)).trans ((halfF_next (k := k.toNat) (by omega) (by omega)).symm.trans hk.2.2)) (by (try dsimp only); omega)
    ·
      try simp only [decide_eq_true_eq, decide_eq_false_iff_not, Bool.and_eq_true, Bool.or_eq_true, Bool.and_eq_false_imp, Bool.or_eq_false_iff, Bool.not_eq_true', Bool.not_eq_false', Bool.not_eq_true, Bool.not_eq_false, beq_iff_eq, beq_eq_false_iff_ne, bne_iff_ne, ne_eq, Decidable.not_not, Int.not_lt, Int.not_le] at h2
      refine tc_exit ?_
      refine tq_then_exit ?_
      refine tq_rnd_exit ?_
      refine tq_block_here ?_
      refine tq_then ?_
      refine tc_rb [0,0,0] [(0, I c), (1, I v), (2, Sr text), (3, Sl a_p p.length c_p), (8, Sl none 0 0), (9, Sl al xl.length cl), (10, I k), (16, Bo (decide (c > 1))), (20, Bo (decide (2 * k < c))), (25, Bo (decide (v < k)))] ?_
      refine tc_cond (decide (v < k)) (fun h3 => ?_) (fun h3 => ?_)
      ·
        try simp only [decide_eq_true_eq, decide_eq_false_iff_not, Bool.and_eq_true, Bool.or_eq_true, Bool.and_eq_false_imp, Bool.or_eq_false_iff, Bool.not_eq_true', Bool.not_eq_false', Bool.not_eq_true, Bool.not_eq_false, beq_iff_eq, beq_eq_false_iff_ne, bne_iff_ne, ne_eq, Decidable.not_not, Int.not_lt, Int.not_le] at h3
        refine tc_region ?_
        refine runL_b [0] [(0, I c), (1, I v), (2, Sr text), (3, Sl a_p p.length c_p), (8, Sl none 0 0), (9, Sl al xl.length cl), (10, I k), (16, Bo (decide (c > 1))), (20, Bo (decide (2 * k < c))), (25, Bo (decide (v < k))), (26, Sl al xl.length cl)] ?_
        refine runL_bsl 27 1 #[Bo true] 4 (fun b1 => ?_)
        refine runL_app1' (b := b1) (cs := [Bo true]) 28 4 1 0 (E := EB) true hrl rfl (by first | omega | ((try simp only [EB, ES, List.length_append, List.length_cons, List.length_nil] at *); omega) | (have q_ := congrArg List.length hxo; have q1_ := dirs_len40 (n := n) (i := i) hn; rw [List.length_take] at q_; have q2_ := saidU_len (dirs n i).reverse p ([4] ++ text) (by rw [List.length_reverse]; exact hp); (try simp only [EB, ES, List.length_append, List.length_cons, List.length_nil] at *); omega)) (by first | omega | ((try simp only [EB, ES, List.length_append, List.length_cons, List.length_nil] at *); omega) | (have q_ := congrArg List.length hxo; have q1_ := dirs_len40 (n := n) (i := i) hn; rw [List.length_take] at q_; have q2_ := saidU_len (dirs n i).reverse p ([4] ++ text) (by rw [List.length_reverse]; exact hp); (try simp only [EB, ES, List.length_append, List.length_cons, List.length_nil] at *); omega)) (fun a1 c1 r1 hr1 => ?_)
        refine runL_b [0,0,0] [(0, I k), (1, I v), (2, Sr text), (3, Sl a_p p.length c_p), (8, Sl none 0 0), (9, Sl a1 ((xl ++ [true]).length) c1), (10, I k), (16, Bo (decide (c > 1))), (20, Bo (decide (2 * k < c))), (25, Bo (decide (v < k)))] ?_
        refine runL_nil ?_
        refine tq_block ?_
        refine tq_owns [r1] ((.cons _ (.cons_cons _ .slnil))) ?_
        exact tq_rnd ((k, v, a1, c1, r1, xl ++ [true])) ⟨(by (try dsimp only); have e_ : k = (half c.toNat : Nat) := (by rw [← hk.2.2, halfF_stop (by omega)]; omega); have hb_ := half_bd (n := c.toNat) (by omega); omega), (by (try dsimp only); omega), hr1, (by (try dsimp only); have e_ : k = (half c.toNat : Nat) := (by rw [← hk.2.2, halfF_stop (by omega)]; omega); have hb_ := half_bd (n := c.toNat) (by omega); have hxl1 := hxl.1; first | (rw [dirs_left (by omega) (by omega), ← e_] at hxl1; refine ⟨by simpa using hxl1, ?_⟩; simp only [List.length_append, List.length_cons, List.length_nil]; omega) | (rw [dirs_right (by omega) (by omega), ← e_] at hxl1; refine ⟨by simpa using hxl1, ?_⟩; simp only [List.length_append, List.length_cons, List.length_nil]; omega))⟩ (by (try dsimp only); have e_ : k = (half c.toNat : Nat) := (by rw [← hk.2.2, halfF_stop (by omega)]; omega); have hb_ := half_bd (n := c.toNat) (by omega); omega)
      ·
        try simp only [decide_eq_true_eq, decide_eq_false_iff_not, Bool.and_eq_true, Bool.or_eq_true, Bool.and_eq_false_imp, Bool.or_eq_false_iff, Bool.not_eq_true', Bool.not_eq_false', Bool.not_eq_true, Bool.not_eq_false, beq_iff_eq, beq_eq_false_iff_ne, bne_iff_ne, ne_eq, Decidable.not_not, Int.not_lt, Int.not_le] at h3
        refine tc_region ?_
        refine runL_b [0] [(0, I c), (1, I v), (2, Sr text), (3, Sl a_p p.length c_p), (8, Sl none 0 0), (9, Sl al xl.length cl), (10, I k), (16, Bo (decide (c > 1))), (20, Bo (decide (2 * k < c))), (25, Bo (decide (v < k))), (30, Sl al xl.length cl)] ?_
        refine runL_bsl 31 1 #[Bo false] 4 (fun b2 => ?_)
        refine runL_app1' (b := b2) (cs := [Bo false]) 32 4 1 0 (E := EB) false hrl rfl (by first | omega | ((try simp only [EB, ES, List.length_append, List.length_cons, List.length_nil] at *); omega) | (have q_ := congrArg List.length hxo; have q1_ := dirs_len40 (n := n) (i := i) hn; rw [List.length_take] at q_; have q2_ := saidU_len (dirs n i).reverse p ([4] ++ text) (by rw [List.length_reverse]; exact hp); (try simp only [EB, ES, List.length_append, List.length_cons, List.length_nil] at *); omega)) (by first | omega | ((try simp only [EB, ES, List.length_append, List.length_cons, List.length_nil] at *); omega) | (have q_ := congrArg List.length hxo; have q1_ := dirs_len40 (n := n) (i := i) hn; rw [List.length_take] at q_; have q2_ := saidU_len (dirs n i).reverse p ([4] ++ text) (by rw [List.length_reverse]; exact hp); (try simp only [EB, ES, List.length_append, List.length_cons, List.length_nil] at *); omega)) (fun a2 c2 r2 hr2 => ?_)
        refine runL_b [0,0,0,0,0,0,0,0,0] [(0, I (IntKind.i64.wrap (c - k))), (1, I (IntKind.i64.wrap (v - k))), (2, Sr text), (3, Sl a_p p.length c_p), (8, Sl none 0 0), (9, Sl a2 ((xl ++ [false]).length) c2), (10, I k), (16, Bo (decide (c > 1))), (20, Bo (decide (2 * k < c))), (25, Bo (decide (v < k)))] ?_
        have e3 : IntKind.i64.wrap (c - k) = c - k := IntWalk.i64_in _ (by first | omega | (have q3_ := congrArg List.length hl_; have q_ := congrArg List.length hxo; have q1_ := saidU_len (dirs n i).reverse p ([4] ++ text) (by rw [List.length_reverse]; exact hp); rw [List.length_take] at q_; omega))
        have e4 : IntKind.i64.wrap (v - k) = v - k := IntWalk.i64_in _ (by first | omega | (have q3_ := congrArg List.length hl_; have q_ := congrArg List.length hxo; have q1_ := saidU_len (dirs n i).reverse p ([4] ++ text) (by rw [List.length_reverse]; exact hp); rw [List.length_take] at q_; omega))
        refine runL_eq (fr' := [(0, I (c - k)), (1, I (v - k)), (2, Sr text), (3, Sl a_p p.length c_p), (8, Sl none 0 0), (9, Sl a2 ((xl ++ [false]).length) c2), (10, I k), (16, Bo (decide (c > 1))), (20, Bo (decide (2 * k < c))), (25, Bo (decide (v < k)))]) (L' := [[Sg b2 0 [Bo false]], r2]) (by simp only [e3, e4]) (by rfl) ?_
        clear e4 e3
        refine runL_nil ?_
        refine tq_block ?_
        refine tq_owns [r2] ((.cons _ (.cons_cons _ .slnil))) ?_
        exact tq_rnd ((c - k, v - k, a2, c2, r2, xl ++ [false])) ⟨(by (try dsimp only); have e_ : k = (half c.toNat : Nat) := (by rw [← hk.2.2, halfF_stop (by omega)]; omega); have hb_ := half_bd (n := c.toNat) (by omega); omega), (by (try dsimp only); omega), hr2, (by (try dsimp only); have e_ : k = (half c.toNat : Nat) := (by rw [← hk.2.2, halfF_stop (by omega)]; omega); have hb_ := half_bd (n := c.toNat) (by omega); have hxl1 := hxl.1; first | (rw [dirs_left (by omega) (by omega), ← e_] at hxl1; refine ⟨by simpa using hxl1, ?_⟩; simp only [List.length_append, List.length_cons, List.length_nil]; omega) | (rw [dirs_right (by omega) (by omega), ← e_] at hxl1; refine ⟨by simpa using hxl1, ?_⟩; simp only [List.length_append, List.length_cons, List.length_nil]; omega))⟩ (by (try dsimp only); have e_ : k = (half c.toNat : Nat) := (by rw [← hk.2.2, halfF_stop (by omega)]; omega); have hb_ := half_bd (n := c.toNat) (by omega); omega)
  ·
    try simp only [decide_eq_true_eq, decide_eq_false_iff_not, Bool.and_eq_true, Bool.or_eq_true, Bool.and_eq_false_imp, Bool.or_eq_false_iff, Bool.not_eq_true', Bool.not_eq_false', Bool.not_eq_true, Bool.not_eq_false, beq_iff_eq, beq_eq_false_iff_ne, bne_iff_ne, ne_eq, Decidable.not_not, Int.not_lt, Int.not_le] at h1
    refine tc_exit ?_
    refine tq_then_exit ?_
    refine tq_rnd_exit ?_
    refine tq_block_here ?_
    refine tq_then ?_
    refine tc_seq ?_
    refine tc_region ?_
    refine runL_b [0] [(0, I c), (1, I v), (3, Sl a_p p.length c_p), (8, Sl none 0 0), (9, Sl al xl.length cl), (16, Bo (decide (c > 1))), (39, Sr text)] ?_
    refine runL_cat 40 ([4]) text (by simp only [List.length_cons, List.length_nil]; omega) ?_
    refine runL_bsl 41 1 #[Sr (([4]) ++ text)] 9 (fun b3 => ?_)
    refine runL_b [0] [(0, I c), (1, I v), (3, Sl a_p p.length c_p), (8, Sl none 0 0), (9, Sl al xl.length cl), (11, Sl (At b3 0) 1 1), (16, Bo (decide (c > 1)))] ?_
    refine runL_nil ?_
    refine tq_then ?_
    refine tc_seq ?_
    refine tc_rb [0,0,0] [(0, I c), (1, I v), (8, Sl none 0 0), (9, Sl al xl.length cl), (11, Sl (At b3 0) 1 1), (16, Bo (decide (c > 1))), (42, Sl a_p p.length c_p), (43, I (((p.length : Nat) : Int))), (44, I 0)] ?_
    refine tc_block ?_
    have hlm_h_p : p.length ≤ 9223372036854775807 := Nat.le_trans (h_p).le (h_p).max
    refine tc_loop (σ := Nat × Option Addr × Nat × List Seg × List ((List UInt8))) (fun q_ => (q_.1 ≤ p.length) ∧ (TRow ES G q_.2.1 q_.2.2.1 q_.2.2.2.2 q_.2.2.2.1) ∧ (q_.2.2.2.2 = (saidU (dirs n i).reverse p ([4] ++ text)).take (q_.1 + 1)) ∧ (xl = dirs n i)) (fun q_ => [(0, I c), (1, I v), (8, Sl none 0 0), (9, Sl al xl.length cl), (11, Sl q_.2.1 q_.2.2.2.2.length q_.2.2.1), (16, Bo (decide (c > 1))), (42, Sl a_p p.length c_p), (43, I (((p.length : Nat) : Int))), (44, I ((q_.1 : Int)))]) (fun q_ => G) (fun q_ => [q_.2.2.2.1, rl]) (fun q_ => p.length - q_.1) ((0, At b3 0, 1, [Sg b3 0 [Sr (([4]) ++ text)]], [([4]) ++ text])) ⟨(by (try dsimp only); first | exact Nat.zero_le _ | omega | simp), (TRow.of_lit [[Sr (([4]) ++ text)]] [([4]) ++ text] ⟨⟨rfl, (by simp only [List.length_append, List.length_cons, List.length_nil]; omega)⟩, trivial⟩ (by simp)), (saidU_take1 _ _ _), (by (try dsimp only); have h_ := hxl.1; rwa [dirs_end (by omega), List.append_nil] at h_)⟩ (fun q_ hs => ?_)
    obtain ⟨j, ao, co, ro, xo⟩ := q_
    obtain ⟨hi, hro, hxo, hl_⟩ := hs
    dsimp only at hi hro hxo hl_
    refine tc_eq (fr' := [(0, I c), (1, I v), (8, Sl none 0 0), (9, Sl al xl.length cl), (11, Sl ao xo.length co), (16, Bo (decide (c > 1))), (42, Sl a_p p.length c_p), (43, I (((p.length : Nat) : Int))), (44, I ((j : Int)))]) (L' := [ro, rl]) rfl rfl ?_
    refine tc_rb [0] [(0, I c), (1, I v), (8, Sl none 0 0), (9, Sl al xl.length cl), (11, Sl ao xo.length co), (16, Bo (decide (c > 1))), (42, Sl a_p p.length c_p), (43, I (((p.length : Nat) : Int))), (44, I ((j : Int))), (45, Bo (decide ((j : Int) < ((p.length : Nat) : Int))))] ?_
    refine tc_seq ?_
    refine tc_cond (decide ((j : Int) < ((p.length : Nat) : Int))) (fun h4 => ?_) (fun h4 => ?_)
    ·
      try simp only [decide_eq_true_eq, decide_eq_false_iff_not, Bool.and_eq_true, Bool.or_eq_true, Bool.and_eq_false_imp, Bool.or_eq_false_iff, Bool.not_eq_true', Bool.not_eq_false', Bool.not_eq_true, Bool.not_eq_false, beq_iff_eq, beq_eq_false_iff_ne, bne_iff_ne, ne_eq, Decidable.not_not, Int.not_lt, Int.not_le] at h4
      refine tc_skip ?_
      refine tq_then ?_
      refine tc_seq ?_
      refine tc_block ?_
      refine tc_seq ?_
      refine tc_region ?_
      refine runL_b [0] [(0, I c), (1, I v), (8, Sl none 0 0), (9, Sl al xl.length cl), (11, Sl ao xo.length co), (16, Bo (decide (c > 1))), (42, Sl a_p p.length c_p), (43, I (((p.length : Nat) : Int))), (44, I ((j : Int))), (45, Bo (decide ((j : Int) < ((p.length : Nat) : Int)))), (46, I ((j : Int)))] ?_
      obtain ⟨b4, o1, rfl⟩ := RS.addr h_p (k := j) (by first | omega | (have q3_ := congrArg List.length hl_; have q_ := congrArg List.length hxo; have q1_ := saidU_len (dirs n i).reverse p ([4] ++ text) (by rw [List.length_reverse]; exact hp); rw [List.length_take] at q_; omega))
      obtain ⟨x1, hx1⟩ := getX (l := p) (k := j) (by first | omega | (have q3_ := congrArg List.length hl_; have q_ := congrArg List.length hxo; have q1_ := saidU_len (dirs n i).reverse p ([4] ++ text) (by rw [List.length_reverse]; exact hp); rw [List.length_take] at q_; omega))
      obtain ⟨_, ⟨rfl, w1⟩, hc1⟩ := RS.get h_p hx1
      refine runL_idx (b := b4) (off := o1) (len := p.length) (cap := c_p) (ik := .i64) 47 26 1 j (by first | omega | (have q3_ := congrArg List.length hl_; have q_ := congrArg List.length hxo; have q1_ := saidU_len (dirs n i).reverse p ([4] ++ text) (by rw [List.length_reverse]; exact hp); rw [List.length_take] at q_; omega)) ?_
      refine runL_ldG 48 26 (cs := [U x1]) 0 (U x1) hc1 ?_
      refine runL_b [0,0] [(0, I c), (1, I v), (8, Sl none 0 0), (9, Sl al xl.length cl), (11, Sl ao xo.length co), (12, I ((j : Int))), (13, U x1), (16, Bo (decide (c > 1))), (42, Sl (At b4 o1) p.length c_p), (43, I (((p.length : Nat) : Int))), (44, I ((j : Int))), (45, Bo (decide ((j : Int) < ((p.length : Nat) : Int))))] ?_
      refine runL_nil ?_
      refine tq_then ?_
      refine tc_seq ?_
      refine tc_region ?_
      refine runL_b [0,0] [(0, I c), (1, I v), (8, Sl none 0 0), (9, Sl al xl.length cl), (11, Sl ao xo.length co), (12, I ((j : Int))), (13, U x1), (16, Bo (decide (c > 1))), (42, Sl (At b4 o1) p.length c_p), (43, I (((p.length : Nat) : Int))), (44, I ((j : Int))), (45, Bo (decide ((j : Int) < ((p.length : Nat) : Int)))), (49, Sl ao xo.length co), (50, I ((j : Int)))] ?_
      obtain ⟨x2, hx2⟩ := getX (l := xo) (k := j) (by first | omega | (have q3_ := congrArg List.length hl_; have q_ := congrArg List.length hxo; have q1_ := saidU_len (dirs n i).reverse p ([4] ++ text) (by rw [List.length_reverse]; exact hp); rw [List.length_take] at q_; omega))
      obtain ⟨b5, o2, fu1, _, ⟨rfl, w2⟩, ha1, hre1, hc2⟩ := TRow.ix hro hx2
      refine runL_idxR (b := b5) (off := o2) (len := xo.length) (cap := co) (ik := .i64) 51 9 1 j ha1 (by first | omega | (have q3_ := congrArg List.length hl_; have q_ := congrArg List.length hxo; have q1_ := saidU_len (dirs n i).reverse p ([4] ++ text) (by rw [List.length_reverse]; exact hp); rw [List.length_take] at q_; omega)) ?_
      refine runL_ldR (off := o2) (p := j * 1) (cs := [Sr x2]) 52 9 0 0 (Sr x2) hre1 hc2 ?_
      refine runL_callV 53 (U (markOf x2)) (markOf_con x2 (le48r w2) G) ?_
      refine runL_b [0] [(0, I c), (1, I v), (8, Sl none 0 0), (9, Sl al xl.length cl), (11, Sl ao xo.length co), (12, I ((j : Int))), (13, U x1), (14, U (markOf x2)), (16, Bo (decide (c > 1))), (42, Sl (At b4 o1) p.length c_p), (43, I (((p.length : Nat) : Int))), (44, I ((j : Int))), (45, Bo (decide ((j : Int) < ((p.length : Nat) : Int))))] ?_
      refine runL_nil ?_
      refine tq_then ?_
      refine tc_seq ?_
      refine tc_region ?_
      refine runL_b [0,0,0,0,0,0] [(0, I c), (1, I v), (8, Sl none 0 0), (9, Sl al xl.length cl), (11, Sl ao xo.length co), (12, I ((j : Int))), (13, U x1), (14, U (markOf x2)), (16, Bo (decide (c > 1))), (42, Sl (At b4 o1) p.length c_p), (43, I (((p.length : Nat) : Int))), (44, I ((j : Int))), (45, Bo (decide ((j : Int) < ((p.length : Nat) : Int)))), (54, Sl al xl.length cl), (59, I (IntKind.i64.wrap ((IntKind.i64.wrap ((((xl.length : Nat) : Int)) - 1)) - ((j : Int)))))] ?_
      have e5 : IntKind.i64.wrap ((((xl.length : Nat) : Int)) - 1) = (((xl.length : Nat) : Int)) - 1 := IntWalk.i64_in _ (by first | omega | (have q3_ := congrArg List.length hl_; have q_ := congrArg List.length hxo; have q1_ := saidU_len (dirs n i).reverse p ([4] ++ text) (by rw [List.length_reverse]; exact hp); rw [List.length_take] at q_; omega))
      have e6 : IntKind.i64.wrap (((((xl.length : Nat) : Int)) - 1) - ((j : Int))) = ((((xl.length : Nat) : Int)) - 1) - ((j : Int)) := IntWalk.i64_in _ (by first | omega | (have q3_ := congrArg List.length hl_; have q_ := congrArg List.length hxo; have q1_ := saidU_len (dirs n i).reverse p ([4] ++ text) (by rw [List.length_reverse]; exact hp); rw [List.length_take] at q_; omega))
      refine runL_eq (fr' := [(0, I c), (1, I v), (8, Sl none 0 0), (9, Sl al xl.length cl), (11, Sl ao xo.length co), (12, I ((j : Int))), (13, U x1), (14, U (markOf x2)), (16, Bo (decide (c > 1))), (42, Sl (At b4 o1) p.length c_p), (43, I (((p.length : Nat) : Int))), (44, I ((j : Int))), (45, Bo (decide ((j : Int) < ((p.length : Nat) : Int)))), (54, Sl al xl.length cl), (59, I (((((xl.length : Nat) : Int)) - 1) - ((j : Int))))]) (L' := [ro, rl]) (by simp only [e5, e6]) (by rfl) ?_
      clear e6 e5
      obtain ⟨kn1, hkn1⟩ : ∃ k_ : Nat, ((((xl.length : Nat) : Int)) - 1) - ((j : Int)) = (k_ : Int) := ⟨(((((xl.length : Nat) : Int)) - 1) - ((j : Int))).toNat, by first | omega | (have q3_ := congrArg List.length hl_; have q_ := congrArg List.length hxo; have q1_ := saidU_len (dirs n i).reverse p ([4] ++ text) (by rw [List.length_reverse]; exact hp); rw [List.length_take] at q_; omega)⟩
      have e7 : ((((xl.length : Nat) : Int)) - 1) - ((j : Int)) = (kn1 : Int) := hkn1
      refine runL_eq (fr' := [(0, I c), (1, I v), (8, Sl none 0 0), (9, Sl al xl.length cl), (11, Sl ao xo.length co), (12, I ((j : Int))), (13, U x1), (14, U (markOf x2)), (16, Bo (decide (c > 1))), (42, Sl (At b4 o1) p.length c_p), (43, I (((p.length : Nat) : Int))), (44, I ((j : Int))), (45, Bo (decide ((j : Int) < ((p.length : Nat) : Int)))), (54, Sl al xl.length cl), (59, I ((kn1 : Int)))]) (L' := [ro, rl]) (by first | rfl | simp only [e7]) (by first | rfl | simp only [e7]) ?_
      obtain ⟨x3, hx3⟩ := getX (l := xl) (k := kn1) (by first | omega | (have q3_ := congrArg List.length hl_; have q_ := congrArg List.length hxo; have q1_ := saidU_len (dirs n i).reverse p ([4] ++ text) (by rw [List.length_reverse]; exact hp); rw [List.length_take] at q_; omega))
      obtain ⟨b6, o3, fu2, _, rfl, ha2, hre2, hc3⟩ := TRow.ix hrl hx3
      refine runL_idxR (b := b6) (off := o3) (len := xl.length) (cap := cl) (ik := .i64) 60 4 1 kn1 ha2 (by first | omega | (have q3_ := congrArg List.length hl_; have q_ := congrArg List.length hxo; have q1_ := saidU_len (dirs n i).reverse p ([4] ++ text) (by rw [List.length_reverse]; exact hp); rw [List.length_take] at q_; omega)) ?_
      refine runL_ldR (off := o3) (p := kn1 * 1) (cs := [Bo x3]) 61 4 1 0 (Bo x3) hre2 hc3 ?_
      refine runL_nil ?_
      refine tq_then ?_
      refine tc_cond (x3) (fun h5 => ?_) (fun h5 => ?_)
      ·
        try simp only [decide_eq_true_eq, decide_eq_false_iff_not, Bool.and_eq_true, Bool.or_eq_true, Bool.and_eq_false_imp, Bool.or_eq_false_iff, Bool.not_eq_true', Bool.not_eq_false', Bool.not_eq_true, Bool.not_eq_false, beq_iff_eq, beq_eq_false_iff_ne, bne_iff_ne, ne_eq, Decidable.not_not, Int.not_lt, Int.not_le] at h5
        refine tc_region ?_
        refine runL_b [0,0,0] [(0, I c), (1, I v), (8, Sl none 0 0), (9, Sl al xl.length cl), (11, Sl ao xo.length co), (12, I ((j : Int))), (13, U x1), (14, U (markOf x2)), (16, Bo (decide (c > 1))), (42, Sl (At b4 o1) p.length c_p), (43, I (((p.length : Nat) : Int))), (44, I ((j : Int))), (45, Bo (decide ((j : Int) < ((p.length : Nat) : Int)))), (61, Bo x3), (62, Sl ao xo.length co), (63, U (markOf x2)), (64, U x1)] ?_
        refine runL_callV 65 (Sr (markSaid 5 (markOf x2) x1)) (markSaid_con 5 (markOf x2) x1 G) ?_
        refine runL_bsl 66 1 #[Sr (markSaid 5 (markOf x2) x1)] 9 (fun b7 => ?_)
        refine runL_app1' (b := b7) (cs := [Sr (markSaid 5 (markOf x2) x1)]) 67 9 1 0 (E := ES) (markSaid 5 (markOf x2) x1) hro ⟨rfl, (by rw [markSaid_length]; decide)⟩ (by first | omega | ((try simp only [EB, ES, List.length_append, List.length_cons, List.length_nil] at *); omega) | (have q_ := congrArg List.length hxo; have q1_ := dirs_len40 (n := n) (i := i) hn; rw [List.length_take] at q_; have q2_ := saidU_len (dirs n i).reverse p ([4] ++ text) (by rw [List.length_reverse]; exact hp); (try simp only [EB, ES, List.length_append, List.length_cons, List.length_nil] at *); omega)) (by first | omega | ((try simp only [EB, ES, List.length_append, List.length_cons, List.length_nil] at *); omega) | (have q_ := congrArg List.length hxo; have q1_ := dirs_len40 (n := n) (i := i) hn; rw [List.length_take] at q_; have q2_ := saidU_len (dirs n i).reverse p ([4] ++ text) (by rw [List.length_reverse]; exact hp); (try simp only [EB, ES, List.length_append, List.length_cons, List.length_nil] at *); omega)) (fun a3 c3 r3 hr3 => ?_)
        refine runL_b [0] [(0, I c), (1, I v), (8, Sl none 0 0), (9, Sl al xl.length cl), (11, Sl a3 ((xo ++ [markSaid 5 (markOf x2) x1]).length) c3), (12, I ((j : Int))), (13, U x1), (14, U (markOf x2)), (16, Bo (decide (c > 1))), (42, Sl (At b4 o1) p.length c_p), (43, I (((p.length : Nat) : Int))), (44, I ((j : Int))), (45, Bo (decide ((j : Int) < ((p.length : Nat) : Int)))), (61, Bo x3)] ?_
        refine runL_nil ?_
        refine tq_block ?_
        refine tq_then ?_
        refine tc_region ?_
        refine runL_b [0,0] [(0, I c), (1, I v), (8, Sl none 0 0), (9, Sl al xl.length cl), (11, Sl a3 ((xo ++ [markSaid 5 (markOf x2) x1]).length) c3), (12, I ((j : Int))), (13, U x1), (14, U (markOf x2)), (16, Bo (decide (c > 1))), (42, Sl (At b4 o1) p.length c_p), (43, I (((p.length : Nat) : Int))), (44, I (IntKind.i64.wrap (((j : Int)) + 1))), (45, Bo (decide ((j : Int) < ((p.length : Nat) : Int)))), (61, Bo x3)] ?_
        have e8 : IntKind.i64.wrap (((j : Int)) + 1) = ((j : Int)) + 1 := IntWalk.i64_in _ (by first | omega | (have q3_ := congrArg List.length hl_; have q_ := congrArg List.length hxo; have q1_ := saidU_len (dirs n i).reverse p ([4] ++ text) (by rw [List.length_reverse]; exact hp); rw [List.length_take] at q_; omega))
        refine runL_eq (fr' := [(0, I c), (1, I v), (8, Sl none 0 0), (9, Sl al xl.length cl), (11, Sl a3 ((xo ++ [markSaid 5 (markOf x2) x1]).length) c3), (12, I ((j : Int))), (13, U x1), (14, U (markOf x2)), (16, Bo (decide (c > 1))), (42, Sl (At b4 o1) p.length c_p), (43, I (((p.length : Nat) : Int))), (44, I (((j : Int)) + 1)), (45, Bo (decide ((j : Int) < ((p.length : Nat) : Int)))), (61, Bo x3)]) (L' := [[Sg b7 0 [Sr (markSaid 5 (markOf x2) x1)]], r3, rl]) (by simp only [e8]) (by rfl) ?_
        clear e8
        refine runL_nil ?_
        refine tq_owns [r3, rl] ((.cons _ (.cons_cons _ (.cons_cons _ .slnil)))) ?_
        exact tq_rnd ((j + 1, a3, c3, r3, xo ++ [markSaid 5 (markOf x2) x1])) ⟨(by omega), hr3, (by have e_ := said_step hxo hl_ hkn1 hx2 hx3 hx1; first | (rw [show x3 = true by assumption] at e_; exact e_) | (rw [show x3 = false by assumption] at e_; exact e_)), hl_⟩ (by (try dsimp only); omega)
      ·
        try simp only [decide_eq_true_eq, decide_eq_false_iff_not, Bool.and_eq_true, Bool.or_eq_true, Bool.and_eq_false_imp, Bool.or_eq_false_iff, Bool.not_eq_true', Bool.not_eq_false', Bool.not_eq_true, Bool.not_eq_false, beq_iff_eq, beq_eq_false_iff_ne, bne_iff_ne, ne_eq, Decidable.not_not, Int.not_lt, Int.not_le] at h5
        refine tc_region ?_
        refine runL_b [0,0,0] [(0, I c), (1, I v), (8, Sl none 0 0), (9, Sl al xl.length cl), (11, Sl ao xo.length co), (12, I ((j : Int))), (13, U x1), (14, U (markOf x2)), (16, Bo (decide (c > 1))), (42, Sl (At b4 o1) p.length c_p), (43, I (((p.length : Nat) : Int))), (44, I ((j : Int))), (45, Bo (decide ((j : Int) < ((p.length : Nat) : Int)))), (61, Bo x3), (68, Sl ao xo.length co), (69, U x1), (70, U (markOf x2))] ?_
        refine runL_callV 71 (Sr (markSaid 5 x1 (markOf x2))) (markSaid_con 5 x1 (markOf x2) G) ?_
        refine runL_bsl 72 1 #[Sr (markSaid 5 x1 (markOf x2))] 9 (fun b8 => ?_)
        refine runL_app1' (b := b8) (cs := [Sr (markSaid 5 x1 (markOf x2))]) 73 9 1 0 (E := ES) (markSaid 5 x1 (markOf x2)) hro ⟨rfl, (by rw [markSaid_length]; decide)⟩ (by first | omega | ((try simp only [EB, ES, List.length_append, List.length_cons, List.length_nil] at *); omega) | (have q_ := congrArg List.length hxo; have q1_ := dirs_len40 (n := n) (i := i) hn; rw [List.length_take] at q_; have q2_ := saidU_len (dirs n i).reverse p ([4] ++ text) (by rw [List.length_reverse]; exact hp); (try simp only [EB, ES, List.length_append, List.length_cons, List.length_nil] at *); omega)) (by first | omega | ((try simp only [EB, ES, List.length_append, List.length_cons, List.length_nil] at *); omega) | (have q_ := congrArg List.length hxo; have q1_ := dirs_len40 (n := n) (i := i) hn; rw [List.length_take] at q_; have q2_ := saidU_len (dirs n i).reverse p ([4] ++ text) (by rw [List.length_reverse]; exact hp); (try simp only [EB, ES, List.length_append, List.length_cons, List.length_nil] at *); omega)) (fun a4 c4 r4 hr4 => ?_)
        refine runL_b [0] [(0, I c), (1, I v), (8, Sl none 0 0), (9, Sl al xl.length cl), (11, Sl a4 ((xo ++ [markSaid 5 x1 (markOf x2)]).length) c4), (12, I ((j : Int))), (13, U x1), (14, U (markOf x2)), (16, Bo (decide (c > 1))), (42, Sl (At b4 o1) p.length c_p), (43, I (((p.length : Nat) : Int))), (44, I ((j : Int))), (45, Bo (decide ((j : Int) < ((p.length : Nat) : Int)))), (61, Bo x3)] ?_
        refine runL_nil ?_
        refine tq_block ?_
        refine tq_then ?_
        refine tc_region ?_
        refine runL_b [0,0] [(0, I c), (1, I v), (8, Sl none 0 0), (9, Sl al xl.length cl), (11, Sl a4 ((xo ++ [markSaid 5 x1 (markOf x2)]).length) c4), (12, I ((j : Int))), (13, U x1), (14, U (markOf x2)), (16, Bo (decide (c > 1))), (42, Sl (At b4 o1) p.length c_p), (43, I (((p.length : Nat) : Int))), (44, I (IntKind.i64.wrap (((j : Int)) + 1))), (45, Bo (decide ((j : Int) < ((p.length : Nat) : Int)))), (61, Bo x3)] ?_
        have e9 : IntKind.i64.wrap (((j : Int)) + 1) = ((j : Int)) + 1 := IntWalk.i64_in _ (by first | omega | (have q3_ := congrArg List.length hl_; have q_ := congrArg List.length hxo; have q1_ := saidU_len (dirs n i).reverse p ([4] ++ text) (by rw [List.length_reverse]; exact hp); rw [List.length_take] at q_; omega))
        refine runL_eq (fr' := [(0, I c), (1, I v), (8, Sl none 0 0), (9, Sl al xl.length cl), (11, Sl a4 ((xo ++ [markSaid 5 x1 (markOf x2)]).length) c4), (12, I ((j : Int))), (13, U x1), (14, U (markOf x2)), (16, Bo (decide (c > 1))), (42, Sl (At b4 o1) p.length c_p), (43, I (((p.length : Nat) : Int))), (44, I (((j : Int)) + 1)), (45, Bo (decide ((j : Int) < ((p.length : Nat) : Int)))), (61, Bo x3)]) (L' := [[Sg b8 0 [Sr (markSaid 5 x1 (markOf x2))]], r4, rl]) (by simp only [e9]) (by rfl) ?_
        clear e9
        refine runL_nil ?_
        refine tq_owns [r4, rl] ((.cons _ (.cons_cons _ (.cons_cons _ .slnil)))) ?_
        exact tq_rnd ((j + 1, a4, c4, r4, xo ++ [markSaid 5 x1 (markOf x2)])) ⟨(by omega), hr4, (by have e_ := said_step hxo hl_ hkn1 hx2 hx3 hx1; first | (rw [show x3 = true by assumption] at e_; exact e_) | (rw [show x3 = false by assumption] at e_; exact e_)), hl_⟩ (by (try dsimp only); omega)
    ·
      try simp only [decide_eq_true_eq, decide_eq_false_iff_not, Bool.and_eq_true, Bool.or_eq_true, Bool.and_eq_false_imp, Bool.or_eq_false_iff, Bool.not_eq_true', Bool.not_eq_false', Bool.not_eq_true, Bool.not_eq_false, beq_iff_eq, beq_eq_false_iff_ne, bne_iff_ne, ne_eq, Decidable.not_not, Int.not_lt, Int.not_le] at h4
      refine tc_exit ?_
      refine tq_then_exit ?_
      refine tq_rnd_exit ?_
      refine tq_block_here ?_
      refine tq_then ?_
      refine tc_rb [0,0] [(0, I c), (1, I v), (8, Sl ao xo.length co), (9, Sl al xl.length cl), (11, Sl ao xo.length co), (16, Bo (decide (c > 1))), (42, Sl a_p p.length c_p), (43, I (((p.length : Nat) : Int))), (44, I ((j : Int))), (45, Bo (decide ((j : Int) < ((p.length : Nat) : Int))))] ?_
      refine tc_ret ?_
      refine tq_front 0 ?_
      have hf1 : saidU (dirs n i).reverse p ([4] ++ text) = xo := by
        rw [hxo, List.take_of_length_le]; rw [saidU_len _ _ _ (by rw [List.length_reverse]; exact hp)]; omega
      refine tq_ret [0] [Sl ao xo.length co] (bp_rows [ro] (.cons_cons _ (.cons _ .slnil)) (Mem.le_refl _) ?_)
      rw [hf1]
      try dsimp only
      exact ⟨ao, co, ro, rfl, hro, rfl⟩

theorem rollBinds_con (G : Mem) (a_l : Option Addr) (c_l : Nat) (l : List ((List UInt8))) (h_l : RS ES G a_l c_l l) (i : Int) (hw_i : -9223372036854775808 ≤ i ∧ i < 9223372036854775808) (text : List UInt8) (hw_text : (text).length ≤ 140737488351232) (a_p : Option Addr) (c_p : Nat) (p : List Int) (h_p : RS EU G a_p c_p p) (hf_l : l.length * 16 ≤ 140737488351232) (hf_p : p.length * 8 ≤ 140737488351232) : Con Try.prog 6 #[Sl a_l l.length c_l, I i, Sr text, Sl a_p p.length c_p] G [] (fun u G' L' => u = Bo true) := by
  refine con_of Try.func6 101 [(0, Sl a_l l.length c_l), (1, I i), (2, Sr text), (3, Sl a_p p.length c_p)] rfl (fun w0 G0 => ?_)
  refine tc_rb [0] [(0, Sl a_l l.length c_l), (1, I i), (2, Sr text), (3, Sl a_p p.length c_p), (8, Bo false)] ?_
  refine tc_seq ?_
  refine tc_seq ?_
  refine tc_region ?_
  refine runL_callV 18 (Bo true) (rolls_con G) ?_
  refine runL_b [0] [(0, Sl a_l l.length c_l), (1, I i), (2, Sr text), (3, Sl a_p p.length c_p), (8, Bo false), (19, Bo false)] ?_
  refine runL_nil ?_
  refine tq_then ?_
  refine tc_cond_false ?_
  refine tc_skip ?_
  refine tq_then ?_
  refine tc_seq ?_
  refine tc_region ?_
  refine runL_b [0] [(0, Sl a_l l.length c_l), (1, I i), (2, Sr text), (3, Sl a_p p.length c_p), (8, Bo false), (19, Bo false), (21, Sl a_l l.length c_l)] ?_
  refine runL_callV 22 (.tuple #[U ((rollRoot l).1), I ((rollRoot l).2)]) (rollRoot_con G a_l c_l l h_l) ?_
  refine runL_b [0,0,0,0,0] [(0, Sl a_l l.length c_l), (1, I i), (2, Sr text), (3, Sl a_p p.length c_p), (8, Bo false), (9, U ((rollRoot l).1)), (10, I ((rollRoot l).2)), (19, Bo false)] ?_
  refine runL_nil ?_
  refine tq_then ?_
  refine tc_seq ?_
  refine tc_region ?_
  refine runL_b [0,0] [(0, Sl a_l l.length c_l), (1, I i), (2, Sr text), (3, Sl a_p p.length c_p), (8, Bo false), (9, U ((rollRoot l).1)), (10, I ((rollRoot l).2)), (19, Bo false), (26, Sl a_l l.length c_l), (27, I i)] ?_
  refine runL_callR 28 (rollIn_con G a_l c_l l h_l i) (fun v G1 L1 hl1 hp => ?_)
  obtain ⟨a1, c1, rfl, hs1, rfl⟩ := hp
  refine runL_b [0,0,0,0,0] [(0, Sl a_l l.length c_l), (1, I i), (2, Sr text), (3, Sl a_p p.length c_p), (8, Bo false), (9, U ((rollRoot l).1)), (10, I ((rollRoot l).2)), (11, Sl a1 (((rollIn l i).1).length) c1), (12, I ((rollIn l i).2)), (19, Bo false)] ?_
  refine runL_nil ?_
  refine tq_then ?_
  refine tc_seq ?_
  refine tc_seq ?_
  refine tc_region ?_
  refine runL_b [0,0] [(0, Sl a_l l.length c_l), (1, I i), (2, Sr text), (3, Sl a_p p.length c_p), (8, Bo false), (9, U ((rollRoot l).1)), (11, Sl a1 (((rollIn l i).1).length) c1), (19, Bo false), (31, I ((rollRoot l).2)), (32, I ((rollIn l i).2))] ?_
  refine runL_bsl 33 2 #[I ((rollRoot l).2), I ((rollIn l i).2)] 41 (fun b1 => ?_)
  refine runL_frz1 (b := b1) (o := 0) (cs := [I ((rollRoot l).2), I ((rollIn l i).2)]) 0 (fun G2 hl2 hz1 => ?_)
  have hs2 : RS EErr G2 (At b1 0) 2 [(rollRoot l).2, (rollIn l i).2] := RS.lit [[I ((rollRoot l).2)], [I ((rollIn l i).2)]] [(rollRoot l).2, (rollIn l i).2] ⟨rfl, ⟨rfl, trivial⟩⟩ hz1 (Nat.le_of_ble_eq_true rfl) (Nat.le_of_ble_eq_true rfl)
  refine runL_callV 34 (Bo (!(([(rollRoot l).2, (rollIn l i).2]).any fun x0 => !decide (x0 = 0)))) (good_con G2 (At b1 0) 2 ([(rollRoot l).2, (rollIn l i).2]) hs2) ?_
  refine runL_b [0,0] [(0, Sl a_l l.length c_l), (1, I i), (2, Sr text), (3, Sl a_p p.length c_p), (8, Bo false), (9, U ((rollRoot l).1)), (11, Sl a1 (((rollIn l i).1).length) c1), (19, Bo false), (36, Bo (!(!(([(rollRoot l).2, (rollIn l i).2]).any fun x0 => !decide (x0 = 0)))))] ?_
  refine runL_cases (fun bb => [(0, Sl a_l l.length c_l), (1, I i), (2, Sr text), (3, Sl a_p p.length c_p), (8, Bo false), (9, U ((rollRoot l).1)), (11, Sl a1 (((rollIn l i).1).length) c1), (19, Bo false), (36, Bo bb)]) (!(!(([(rollRoot l).2, (rollIn l i).2]).any fun x0 => !decide (x0 = 0)))) (fun h1 => ?_) (fun h1 => ?_)
  ·
    try simp only [decide_eq_true_eq, decide_eq_false_iff_not, Bool.and_eq_true, Bool.or_eq_true, Bool.and_eq_false_imp, Bool.or_eq_false_iff, Bool.not_eq_true', Bool.not_eq_false', Bool.not_eq_true, Bool.not_eq_false, beq_iff_eq, beq_eq_false_iff_ne, bne_iff_ne, ne_eq, Decidable.not_not, Int.not_lt, Int.not_le] at h1
    refine runL_b [1,1,1,1,1,1,0] [(0, Sl a_l l.length c_l), (1, I i), (2, Sr text), (3, Sl a_p p.length c_p), (8, Bo false), (9, U ((rollRoot l).1)), (11, Sl a1 (((rollIn l i).1).length) c1), (19, Bo false), (43, Bo true)] ?_
    refine runL_nil ?_
    refine tq_then ?_
    refine tc_cond_true ?_
    refine tc_rb [0] [(0, Sl a_l l.length c_l), (1, I i), (2, Sr text), (3, Sl a_p p.length c_p), (8, Bo true), (9, U ((rollRoot l).1)), (11, Sl a1 (((rollIn l i).1).length) c1), (19, Bo false), (43, Bo true)] ?_
    refine tc_ret ?_
    refine tq_then_ret ?_
    refine tq_ret [0] [Bo true] (bp_ret (Mem.le_trans hl1 hl2) ?_)
    rfl
  ·
    try simp only [decide_eq_true_eq, decide_eq_false_iff_not, Bool.and_eq_true, Bool.or_eq_true, Bool.and_eq_false_imp, Bool.or_eq_false_iff, Bool.not_eq_true', Bool.not_eq_false', Bool.not_eq_true, Bool.not_eq_false, beq_iff_eq, beq_eq_false_iff_ne, bne_iff_ne, ne_eq, Decidable.not_not, Int.not_lt, Int.not_le] at h1
    refine runL_b [0,0,0] [(0, Sl a_l l.length c_l), (1, I i), (2, Sr text), (3, Sl a_p p.length c_p), (8, Bo false), (9, U ((rollRoot l).1)), (11, Sl a1 (((rollIn l i).1).length) c1), (19, Bo false), (36, Bo false), (37, Sr text), (38, Sl a_l l.length c_l), (39, I i)] ?_
    obtain ⟨kn1, hkn1⟩ : ∃ k_ : Nat, i = (k_ : Int) := ⟨(i).toNat, by first | omega | (have g_ := (good2 h1).2; have q_ := rollIn_ok g_; omega) | (have q_ := rollBinds_all hkn1 h1 hx1 h2 h3; omega)⟩
    have e1 : i = (kn1 : Int) := hkn1
    refine runL_eq (fr' := [(0, Sl a_l l.length c_l), (1, I ((kn1 : Int))), (2, Sr text), (3, Sl a_p p.length c_p), (8, Bo false), (9, U ((rollRoot l).1)), (11, Sl a1 (((rollIn l i).1).length) c1), (19, Bo false), (36, Bo false), (37, Sr text), (38, Sl a_l l.length c_l), (39, I ((kn1 : Int)))]) (L' := [[]]) (by first | rfl | simp only [e1]) (by first | rfl | simp only [e1]) ?_
    obtain ⟨b2, o1, rfl⟩ := RS.addr (h_l.mono (Mem.le_trans hl1 hl2)) (k := kn1) (by first | omega | (have g_ := (good2 h1).2; have q_ := rollIn_ok g_; omega) | (have q_ := rollBinds_all hkn1 h1 hx1 h2 h3; omega))
    obtain ⟨x1, hx1⟩ := getX (l := l) (k := kn1) (by first | omega | (have g_ := (good2 h1).2; have q_ := rollIn_ok g_; omega) | (have q_ := rollBinds_all hkn1 h1 hx1 h2 h3; omega))
    obtain ⟨_, ⟨rfl, w1⟩, hc1⟩ := RS.get (h_l.mono (Mem.le_trans hl1 hl2)) hx1
    refine runL_idx (b := b2) (off := o1) (len := l.length) (cap := c_l) (ik := .i64) 40 9 1 kn1 (by first | omega | (have g_ := (good2 h1).2; have q_ := rollIn_ok g_; omega) | (have q_ := rollBinds_all hkn1 h1 hx1 h2 h3; omega)) ?_
    refine runL_ldG 41 9 (cs := [Sr x1]) 0 (Sr x1) hc1 ?_
    refine runL_b [0,0] [(0, Sl (At b2 o1) l.length c_l), (1, I ((kn1 : Int))), (2, Sr text), (3, Sl a_p p.length c_p), (8, Bo false), (9, U ((rollRoot l).1)), (11, Sl a1 (((rollIn l i).1).length) c1), (19, Bo false), (43, Bo (((B text).toList == (B x1).toList)))] ?_
    refine runL_eq (fr' := [(0, Sl (At b2 o1) l.length c_l), (1, I ((kn1 : Int))), (2, Sr text), (3, Sl a_p p.length c_p), (8, Bo false), (9, U ((rollRoot l).1)), (11, Sl a1 (((rollIn l i).1).length) c1), (19, Bo false), (43, Bo ((text == x1)))]) (L' := [[]]) (by simp only [B_toList]) (by rfl) ?_
    refine runL_nil ?_
    refine tq_then ?_
    refine tc_cond ((text == x1)) (fun h2 => ?_) (fun h2 => ?_)
    ·
      try simp only [decide_eq_true_eq, decide_eq_false_iff_not, Bool.and_eq_true, Bool.or_eq_true, Bool.and_eq_false_imp, Bool.or_eq_false_iff, Bool.not_eq_true', Bool.not_eq_false', Bool.not_eq_true, Bool.not_eq_false, beq_iff_eq, beq_eq_false_iff_ne, bne_iff_ne, ne_eq, Decidable.not_not, Int.not_lt, Int.not_le] at h2
      refine tc_rb [0] [(0, Sl (At b2 o1) l.length c_l), (1, I ((kn1 : Int))), (2, Sr text), (3, Sl a_p p.length c_p), (8, Bo true), (9, U ((rollRoot l).1)), (11, Sl a1 (((rollIn l i).1).length) c1), (19, Bo false), (43, Bo ((text == x1)))] ?_
      refine tc_ret ?_
      refine tq_then_ret ?_
      refine tq_ret [0] [Bo true] (bp_ret (Mem.le_trans hl1 hl2) ?_)
      rfl
    ·
      try simp only [decide_eq_true_eq, decide_eq_false_iff_not, Bool.and_eq_true, Bool.or_eq_true, Bool.and_eq_false_imp, Bool.or_eq_false_iff, Bool.not_eq_true', Bool.not_eq_false', Bool.not_eq_true, Bool.not_eq_false, beq_iff_eq, beq_eq_false_iff_ne, bne_iff_ne, ne_eq, Decidable.not_not, Int.not_lt, Int.not_le] at h2
      refine tc_skip ?_
      refine tq_then ?_
      refine tc_seq ?_
      refine tc_region ?_
      refine runL_b [0,0,0,0,0,0] [(0, Sl (At b2 o1) l.length c_l), (1, I ((kn1 : Int))), (2, Sr text), (3, Sl a_p p.length c_p), (8, Bo false), (11, Sl a1 (((rollIn l i).1).length) c1), (19, Bo false), (43, Bo ((text == x1))), (45, U ((rollRoot l).1)), (47, I (((l.length : Nat) : Int))), (48, I ((kn1 : Int))), (49, Sr text), (50, Sl a_p p.length c_p)] ?_
      refine runL_callV 51 (.tuple #[Bo ((rollIsIn ((rollRoot l).1) (((l.length : Nat) : Int)) ((kn1 : Int)) text p).1), I ((rollIsIn ((rollRoot l).1) (((l.length : Nat) : Int)) ((kn1 : Int)) text p).2)]) (rollIsIn_con G2 ((rollRoot l).1) (((l.length : Nat) : Int)) ((kn1 : Int)) text (by first | assumption | omega | (simp; done) | (simp; omega)) a_p c_p p (h_p.mono (Mem.le_trans hl1 hl2))) ?_
      refine runL_b [0,0,0,0,0] [(0, Sl (At b2 o1) l.length c_l), (1, I ((kn1 : Int))), (2, Sr text), (3, Sl a_p p.length c_p), (8, Bo false), (11, Sl a1 (((rollIn l i).1).length) c1), (13, Bo ((rollIsIn ((rollRoot l).1) (((l.length : Nat) : Int)) ((kn1 : Int)) text p).1)), (14, I ((rollIsIn ((rollRoot l).1) (((l.length : Nat) : Int)) ((kn1 : Int)) text p).2)), (19, Bo false), (43, Bo ((text == x1)))] ?_
      refine runL_nil ?_
      refine tq_then ?_
      refine tc_seq ?_
      refine tc_seq ?_
      refine tc_region ?_
      refine runL_b [0,0,0] [(0, Sl (At b2 o1) l.length c_l), (1, I ((kn1 : Int))), (2, Sr text), (3, Sl a_p p.length c_p), (8, Bo false), (11, Sl a1 (((rollIn l i).1).length) c1), (13, Bo ((rollIsIn ((rollRoot l).1) (((l.length : Nat) : Int)) ((kn1 : Int)) text p).1)), (14, I ((rollIsIn ((rollRoot l).1) (((l.length : Nat) : Int)) ((kn1 : Int)) text p).2)), (19, Bo false), (43, Bo ((text == x1))), (56, Bo (!decide ((rollIsIn ((rollRoot l).1) (((l.length : Nat) : Int)) ((kn1 : Int)) text p).2 = 0)))] ?_
      refine runL_b2 (!decide ((rollIsIn ((rollRoot l).1) (((l.length : Nat) : Int)) ((kn1 : Int)) text p).2 = 0)) (fun bb => [(0, Sl (At b2 o1) l.length c_l), (1, I ((kn1 : Int))), (2, Sr text), (3, Sl a_p p.length c_p), (8, Bo false), (11, Sl a1 (((rollIn l i).1).length) c1), (13, Bo ((rollIsIn ((rollRoot l).1) (((l.length : Nat) : Int)) ((kn1 : Int)) text p).1)), (14, I ((rollIsIn ((rollRoot l).1) (((l.length : Nat) : Int)) ((kn1 : Int)) text p).2)), (19, Bo false), (43, Bo ((text == x1))), (56, Bo bb)]) [1,1,0] [0,0,0] (fun bb => [(0, Sl (At b2 o1) l.length c_l), (1, I ((kn1 : Int))), (2, Sr text), (3, Sl a_p p.length c_p), (8, Bo false), (11, Sl a1 (((rollIn l i).1).length) c1), (14, I ((rollIsIn ((rollRoot l).1) (((l.length : Nat) : Int)) ((kn1 : Int)) text p).2)), (19, Bo false), (43, Bo ((text == x1))), (59, Bo (bb || (!((rollIsIn ((rollRoot l).1) (((l.length : Nat) : Int)) ((kn1 : Int)) text p).1))))]) ?_
      refine runL_nil ?_
      refine tq_then ?_
      refine tc_cond ((!decide ((rollIsIn ((rollRoot l).1) (((l.length : Nat) : Int)) ((kn1 : Int)) text p).2 = 0)) || (!((rollIsIn ((rollRoot l).1) (((l.length : Nat) : Int)) ((kn1 : Int)) text p).1))) (fun h3 => ?_) (fun h3 => ?_)
      ·
        try simp only [decide_eq_true_eq, decide_eq_false_iff_not, Bool.and_eq_true, Bool.or_eq_true, Bool.and_eq_false_imp, Bool.or_eq_false_iff, Bool.not_eq_true', Bool.not_eq_false', Bool.not_eq_true, Bool.not_eq_false, beq_iff_eq, beq_eq_false_iff_ne, bne_iff_ne, ne_eq, Decidable.not_not, Int.not_lt, Int.not_le] at h3
        refine tc_seq ?_
        refine tc_region ?_
        refine runL_b [0,0,0] [(0, Sl (At b2 o1) l.length c_l), (1, I ((kn1 : Int))), (2, Sr text), (3, Sl a_p p.length c_p), (8, Bo false), (11, Sl a1 (((rollIn l i).1).length) c1), (14, I ((rollIsIn ((rollRoot l).1) (((l.length : Nat) : Int)) ((kn1 : Int)) text p).2)), (19, Bo false), (43, Bo ((text == x1))), (59, Bo ((!decide ((rollIsIn ((rollRoot l).1) (((l.length : Nat) : Int)) ((kn1 : Int)) text p).2 = 0)) || (!((rollIsIn ((rollRoot l).1) (((l.length : Nat) : Int)) ((kn1 : Int)) text p).1)))), (62, Bo (decide ((rollIsIn ((rollRoot l).1) (((l.length : Nat) : Int)) ((kn1 : Int)) text p).2 = 0)))] ?_
        refine runL_b2 (decide ((rollIsIn ((rollRoot l).1) (((l.length : Nat) : Int)) ((kn1 : Int)) text p).2 = 0)) (fun bb => [(0, Sl (At b2 o1) l.length c_l), (1, I ((kn1 : Int))), (2, Sr text), (3, Sl a_p p.length c_p), (8, Bo false), (11, Sl a1 (((rollIn l i).1).length) c1), (14, I ((rollIsIn ((rollRoot l).1) (((l.length : Nat) : Int)) ((kn1 : Int)) text p).2)), (19, Bo false), (43, Bo ((text == x1))), (59, Bo ((!decide ((rollIsIn ((rollRoot l).1) (((l.length : Nat) : Int)) ((kn1 : Int)) text p).2 = 0)) || (!((rollIsIn ((rollRoot l).1) (((l.length : Nat) : Int)) ((kn1 : Int)) text p).1)))), (62, Bo bb)]) [1,1,0] [0,0,0] (fun bb => [(0, Sl (At b2 o1) l.length c_l), (1, I ((kn1 : Int))), (2, Sr text), (3, Sl a_p p.length c_p), (8, Bo false), (11, Sl a1 (((rollIn l i).1).length) c1), (14, I ((rollIsIn ((rollRoot l).1) (((l.length : Nat) : Int)) ((kn1 : Int)) text p).2)), (19, Bo false), (43, Bo ((text == x1))), (59, Bo ((!decide ((rollIsIn ((rollRoot l).1) (((l.length : Nat) : Int)) ((kn1 : Int)) text p).2 = 0)) || (!((rollIsIn ((rollRoot l).1) (((l.length : Nat) : Int)) ((kn1 : Int)) text p).1)))), (65, Bo (bb || (decide ((rollIsIn ((rollRoot l).1) (((l.length : Nat) : Int)) ((kn1 : Int)) text p).2 = 2))))]) ?_
        refine runL_b [0] [(0, Sl (At b2 o1) l.length c_l), (1, I ((kn1 : Int))), (2, Sr text), (3, Sl a_p p.length c_p), (8, Bo ((decide ((rollIsIn ((rollRoot l).1) (((l.length : Nat) : Int)) ((kn1 : Int)) text p).2 = 0)) || (decide ((rollIsIn ((rollRoot l).1) (((l.length : Nat) : Int)) ((kn1 : Int)) text p).2 = 2)))), (11, Sl a1 (((rollIn l i).1).length) c1), (14, I ((rollIsIn ((rollRoot l).1) (((l.length : Nat) : Int)) ((kn1 : Int)) text p).2)), (19, Bo false), (43, Bo ((text == x1))), (59, Bo ((!decide ((rollIsIn ((rollRoot l).1) (((l.length : Nat) : Int)) ((kn1 : Int)) text p).2 = 0)) || (!((rollIsIn ((rollRoot l).1) (((l.length : Nat) : Int)) ((kn1 : Int)) text p).1))))] ?_
        refine runL_nil ?_
        refine tq_then ?_
        refine tc_ret ?_
        refine tq_then_ret ?_
        refine tq_ret [0] [Bo ((decide ((rollIsIn ((rollRoot l).1) (((l.length : Nat) : Int)) ((kn1 : Int)) text p).2 = 0)) || (decide ((rollIsIn ((rollRoot l).1) (((l.length : Nat) : Int)) ((kn1 : Int)) text p).2 = 2)))] (bp_ret (Mem.le_trans hl1 hl2) ?_)
        have hf_ : ((decide ((rollIsIn ((rollRoot l).1) (((l.length : Nat) : Int)) ((kn1 : Int)) text p).2 = 0)) || (decide ((rollIsIn ((rollRoot l).1) (((l.length : Nat) : Int)) ((kn1 : Int)) text p).2 = 2))) = true := by
          first | (rw [Bool.or_eq_true, decide_eq_true_eq, decide_eq_true_eq]; exact rIsIn_err (by rw [← hkn1]; exact (good2 h1).2)) | (have q_ := rollBinds_all hkn1 h1 hx1 h2 h3; omega) | (obtain ⟨_, _, _, _, _, _, q1_, _, j_, a_, b_, e1_, e2_, e3_⟩ := rollBinds_all hkn1 h1 hx1 h2 h3; have hj_ := (List.getElem?_eq_some_iff.1 e1_).1; exact hn j_ a_ b_ (by omega) e1_ e2_ e3_)
        exact congrArg Bo hf_
      ·
        try simp only [decide_eq_true_eq, decide_eq_false_iff_not, Bool.and_eq_true, Bool.or_eq_true, Bool.and_eq_false_imp, Bool.or_eq_false_iff, Bool.not_eq_true', Bool.not_eq_false', Bool.not_eq_true, Bool.not_eq_false, beq_iff_eq, beq_eq_false_iff_ne, bne_iff_ne, ne_eq, Decidable.not_not, Int.not_lt, Int.not_le] at h3
        refine tc_skip ?_
        refine tq_then ?_
        refine tc_seq ?_
        refine tc_rb [0,0,0,0,0] [(0, Sl (At b2 o1) l.length c_l), (1, I ((kn1 : Int))), (2, Sr text), (3, Sl a_p p.length c_p), (8, Bo false), (11, Sl a1 (((rollIn l i).1).length) c1), (14, I ((rollIsIn ((rollRoot l).1) (((l.length : Nat) : Int)) ((kn1 : Int)) text p).2)), (19, Bo false), (43, Bo ((text == x1))), (59, Bo ((!decide ((rollIsIn ((rollRoot l).1) (((l.length : Nat) : Int)) ((kn1 : Int)) text p).2 = 0)) || (!((rollIsIn ((rollRoot l).1) (((l.length : Nat) : Int)) ((kn1 : Int)) text p).1)))), (70, Bo (!decide (((p.length : Nat) : Int) = ((((rollIn l i).1).length : Nat) : Int))))] ?_
        refine tc_cond (!decide (((p.length : Nat) : Int) = ((((rollIn l i).1).length : Nat) : Int))) (fun h4 => ?_) (fun h4 => ?_)
        ·
          try simp only [decide_eq_true_eq, decide_eq_false_iff_not, Bool.and_eq_true, Bool.or_eq_true, Bool.and_eq_false_imp, Bool.or_eq_false_iff, Bool.not_eq_true', Bool.not_eq_false', Bool.not_eq_true, Bool.not_eq_false, beq_iff_eq, beq_eq_false_iff_ne, bne_iff_ne, ne_eq, Decidable.not_not, Int.not_lt, Int.not_le] at h4
          refine tc_rb [0] [(0, Sl (At b2 o1) l.length c_l), (1, I ((kn1 : Int))), (2, Sr text), (3, Sl a_p p.length c_p), (8, Bo false), (11, Sl a1 (((rollIn l i).1).length) c1), (14, I ((rollIsIn ((rollRoot l).1) (((l.length : Nat) : Int)) ((kn1 : Int)) text p).2)), (19, Bo false), (43, Bo ((text == x1))), (59, Bo ((!decide ((rollIsIn ((rollRoot l).1) (((l.length : Nat) : Int)) ((kn1 : Int)) text p).2 = 0)) || (!((rollIsIn ((rollRoot l).1) (((l.length : Nat) : Int)) ((kn1 : Int)) text p).1)))), (70, Bo (!decide (((p.length : Nat) : Int) = ((((rollIn l i).1).length : Nat) : Int))))] ?_
          refine tc_ret ?_
          refine tq_then_ret ?_
          refine tq_ret [0] [Bo false] (bp_ret (Mem.le_trans hl1 hl2) ?_)
          exfalso
          first | (rw [Bool.or_eq_true, decide_eq_true_eq, decide_eq_true_eq]; exact rIsIn_err (by rw [← hkn1]; exact (good2 h1).2)) | (have q_ := rollBinds_all hkn1 h1 hx1 h2 h3; omega) | (obtain ⟨_, _, _, _, _, _, q1_, _, j_, a_, b_, e1_, e2_, e3_⟩ := rollBinds_all hkn1 h1 hx1 h2 h3; have hj_ := (List.getElem?_eq_some_iff.1 e1_).1; exact hn j_ a_ b_ (by omega) e1_ e2_ e3_)
        ·
          try simp only [decide_eq_true_eq, decide_eq_false_iff_not, Bool.and_eq_true, Bool.or_eq_true, Bool.and_eq_false_imp, Bool.or_eq_false_iff, Bool.not_eq_true', Bool.not_eq_false', Bool.not_eq_true, Bool.not_eq_false, beq_iff_eq, beq_eq_false_iff_ne, bne_iff_ne, ne_eq, Decidable.not_not, Int.not_lt, Int.not_le] at h4
          refine tc_skip ?_
          refine tq_then ?_
          refine tc_seq ?_
          refine tc_region ?_
          refine runL_b [0,0,0,0,0] [(0, Sl (At b2 o1) l.length c_l), (1, I ((kn1 : Int))), (2, Sr text), (3, Sl a_p p.length c_p), (8, Bo false), (11, Sl a1 (((rollIn l i).1).length) c1), (14, I ((rollIsIn ((rollRoot l).1) (((l.length : Nat) : Int)) ((kn1 : Int)) text p).2)), (19, Bo false), (43, Bo ((text == x1))), (59, Bo ((!decide ((rollIsIn ((rollRoot l).1) (((l.length : Nat) : Int)) ((kn1 : Int)) text p).2 = 0)) || (!((rollIsIn ((rollRoot l).1) (((l.length : Nat) : Int)) ((kn1 : Int)) text p).1)))), (70, Bo (!decide (((p.length : Nat) : Int) = ((((rollIn l i).1).length : Nat) : Int)))), (72, I (((l.length : Nat) : Int))), (73, I ((kn1 : Int))), (74, Sl (At b2 o1) l.length c_l), (75, I ((kn1 : Int)))] ?_
          refine runL_idx (b := b2) (off := o1) (len := l.length) (cap := c_l) (ik := .i64) 76 9 1 kn1 (by first | omega | (have g_ := (good2 h1).2; have q_ := rollIn_ok g_; omega) | (have q_ := rollBinds_all hkn1 h1 hx1 h2 h3; omega)) ?_
          refine runL_ldG 77 9 (cs := [Sr x1]) 0 (Sr x1) hc1 ?_
          refine runL_b [0] [(0, Sl (At b2 o1) l.length c_l), (1, I ((kn1 : Int))), (2, Sr text), (3, Sl a_p p.length c_p), (8, Bo false), (11, Sl a1 (((rollIn l i).1).length) c1), (14, I ((rollIsIn ((rollRoot l).1) (((l.length : Nat) : Int)) ((kn1 : Int)) text p).2)), (19, Bo false), (43, Bo ((text == x1))), (59, Bo ((!decide ((rollIsIn ((rollRoot l).1) (((l.length : Nat) : Int)) ((kn1 : Int)) text p).2 = 0)) || (!((rollIsIn ((rollRoot l).1) (((l.length : Nat) : Int)) ((kn1 : Int)) text p).1)))), (70, Bo (!decide (((p.length : Nat) : Int) = ((((rollIn l i).1).length : Nat) : Int)))), (72, I (((l.length : Nat) : Int))), (73, I ((kn1 : Int))), (77, Sr x1), (78, Sl a1 (((rollIn l i).1).length) c1)] ?_
          refine runL_callR 79 (saidR_con G2 (((l.length : Nat) : Int)) ((kn1 : Int)) x1 w1 a1 c1 ((rollIn l i).1) (hs1.mono hl2) (by first | assumption | omega | (simp; done) | (have q_ := rollBinds_all hkn1 h1 hx1 h2 h3; first | omega | exact q_.1 | exact q_.2.2.2.2.1 | exact q_.2.2.2.2.2.1)) (by first | assumption | omega | (simp; done) | (have q_ := rollBinds_all hkn1 h1 hx1 h2 h3; first | omega | exact q_.1 | exact q_.2.2.2.2.1 | exact q_.2.2.2.2.2.1)) (by first | assumption | omega | (simp; done) | (have q_ := rollBinds_all hkn1 h1 hx1 h2 h3; first | omega | exact q_.1 | exact q_.2.2.2.2.1 | exact q_.2.2.2.2.2.1)) (by first | assumption | omega | (simp; done) | (have q_ := rollBinds_all hkn1 h1 hx1 h2 h3; first | omega | exact q_.1 | exact q_.2.2.2.2.1 | exact q_.2.2.2.2.2.1))) (fun v G3 L1 hl3 hp => ?_)
          obtain ⟨a2, c2, r1, rfl, hr1, rfl⟩ := hp
          refine runL_b [0,0,0,0,0] [(0, Sl (At b2 o1) l.length c_l), (1, I ((kn1 : Int))), (2, Sr text), (3, Sl a_p p.length c_p), (8, Bo false), (11, Sl a1 (((rollIn l i).1).length) c1), (14, I ((rollIsIn ((rollRoot l).1) (((l.length : Nat) : Int)) ((kn1 : Int)) text p).2)), (19, Bo false), (43, Bo ((text == x1))), (59, Bo ((!decide ((rollIsIn ((rollRoot l).1) (((l.length : Nat) : Int)) ((kn1 : Int)) text p).2 = 0)) || (!((rollIsIn ((rollRoot l).1) (((l.length : Nat) : Int)) ((kn1 : Int)) text p).1)))), (70, Bo (!decide (((p.length : Nat) : Int) = ((((rollIn l i).1).length : Nat) : Int)))), (79, Sl a2 ((saidU (dirs (((l.length : Nat) : Int)) ((kn1 : Int))).reverse ((rollIn l i).1) ([4] ++ x1)).length) c2), (81, I (((l.length : Nat) : Int))), (82, I ((kn1 : Int))), (83, Sr text), (84, Sl a_p p.length c_p)] ?_
          refine runL_callR 85 (saidR_con G3 (((l.length : Nat) : Int)) ((kn1 : Int)) text (by first | assumption | omega | (simp; done) | (simp; omega)) a_p c_p p (h_p.mono (Mem.le_trans (Mem.le_trans hl1 hl2) hl3)) (by first | assumption | omega | (simp; done) | (have q_ := rollBinds_all hkn1 h1 hx1 h2 h3; first | omega | exact q_.1 | exact q_.2.2.2.2.1 | exact q_.2.2.2.2.2.1)) (by first | assumption | omega | (simp; done) | (have q_ := rollBinds_all hkn1 h1 hx1 h2 h3; first | omega | exact q_.1 | exact q_.2.2.2.2.1 | exact q_.2.2.2.2.2.1)) (by first | assumption | omega | (simp; done) | (have q_ := rollBinds_all hkn1 h1 hx1 h2 h3; first | omega | exact q_.1 | exact q_.2.2.2.2.1 | exact q_.2.2.2.2.2.1)) (by first | assumption | omega | (simp; done) | (have q_ := rollBinds_all hkn1 h1 hx1 h2 h3; first | omega | exact q_.1 | exact q_.2.2.2.2.1 | exact q_.2.2.2.2.2.1))) (fun v G4 L1 hl4 hp => ?_)
          obtain ⟨a3, c3, r2, rfl, hr2, rfl⟩ := hp
          refine runL_b [0,0] [(0, Sl (At b2 o1) l.length c_l), (1, I ((kn1 : Int))), (2, Sr text), (3, Sl a_p p.length c_p), (8, Bo false), (11, Sl a1 (((rollIn l i).1).length) c1), (14, I ((rollIsIn ((rollRoot l).1) (((l.length : Nat) : Int)) ((kn1 : Int)) text p).2)), (15, Sl a2 ((saidU (dirs (((l.length : Nat) : Int)) ((kn1 : Int))).reverse ((rollIn l i).1) ([4] ++ x1)).length) c2), (16, Sl a3 ((saidU (dirs (((l.length : Nat) : Int)) ((kn1 : Int))).reverse p ([4] ++ text)).length) c3), (19, Bo false), (43, Bo ((text == x1))), (59, Bo ((!decide ((rollIsIn ((rollRoot l).1) (((l.length : Nat) : Int)) ((kn1 : Int)) text p).2 = 0)) || (!((rollIsIn ((rollRoot l).1) (((l.length : Nat) : Int)) ((kn1 : Int)) text p).1)))), (70, Bo (!decide (((p.length : Nat) : Int) = ((((rollIn l i).1).length : Nat) : Int))))] ?_
          refine runL_nil ?_
          refine tq_then ?_
          refine tc_seq ?_
          refine tc_rb [0,0,0] [(0, Sl (At b2 o1) l.length c_l), (1, I ((kn1 : Int))), (2, Sr text), (3, Sl a_p p.length c_p), (8, Bo false), (11, Sl a1 (((rollIn l i).1).length) c1), (14, I ((rollIsIn ((rollRoot l).1) (((l.length : Nat) : Int)) ((kn1 : Int)) text p).2)), (15, Sl a2 ((saidU (dirs (((l.length : Nat) : Int)) ((kn1 : Int))).reverse ((rollIn l i).1) ([4] ++ x1)).length) c2), (16, Sl a3 ((saidU (dirs (((l.length : Nat) : Int)) ((kn1 : Int))).reverse p ([4] ++ text)).length) c3), (19, Bo false), (43, Bo ((text == x1))), (59, Bo ((!decide ((rollIsIn ((rollRoot l).1) (((l.length : Nat) : Int)) ((kn1 : Int)) text p).2 = 0)) || (!((rollIsIn ((rollRoot l).1) (((l.length : Nat) : Int)) ((kn1 : Int)) text p).1)))), (70, Bo (!decide (((p.length : Nat) : Int) = ((((rollIn l i).1).length : Nat) : Int)))), (87, I ((((saidU (dirs (((l.length : Nat) : Int)) ((kn1 : Int))).reverse ((rollIn l i).1) ([4] ++ x1)).length : Nat) : Int))), (88, I 0)] ?_
          refine tc_block ?_
          refine tc_frzR (E := ES) 1 (hr1.mono hl4) (by first | (rw [saidU_len _ _ _ (by rw [List.length_reverse]; assumption)]; simp only [ES]; omega) | (have q_ := rollBinds_all hkn1 h1 hx1 h2 h3; have d_ := dirs_len40 (i := (kn1 : Int)) q_.1; simp only [ES]; omega)) (fun G5 hl5 hs3 => ?_)
          refine tc_frzR (E := ES) 0 (hr2.mono hl5) (by first | (rw [saidU_len _ _ _ (by rw [List.length_reverse]; assumption)]; simp only [ES]; omega) | (have q_ := rollBinds_all hkn1 h1 hx1 h2 h3; have d_ := dirs_len40 (i := (kn1 : Int)) q_.1; simp only [ES]; omega)) (fun G6 hl6 hs4 => ?_)
          have hlm_h_l : l.length ≤ 9223372036854775807 := Nat.le_trans (h_l).le (h_l).max
          have hlm_h_p : p.length ≤ 9223372036854775807 := Nat.le_trans (h_p).le (h_p).max
          have hlm_hs1 : ((rollIn l i).1).length ≤ 9223372036854775807 := Nat.le_trans (hs1).le (hs1).max
          have hlm_hs3 : (saidU (dirs (((l.length : Nat) : Int)) ((kn1 : Int))).reverse ((rollIn l i).1) ([4] ++ x1)).length ≤ 9223372036854775807 := Nat.le_trans (hs3).le (hs3).max
          have hlm_hs4 : (saidU (dirs (((l.length : Nat) : Int)) ((kn1 : Int))).reverse p ([4] ++ text)).length ≤ 9223372036854775807 := Nat.le_trans (hs4).le (hs4).max
          refine tc_loop (σ := Nat) (fun q_ => (q_ ≤ (saidU (dirs (((l.length : Nat) : Int)) ((kn1 : Int))).reverse ((rollIn l i).1) ([4] ++ x1)).length) ∧ (∀ (q : Nat) (u v : List UInt8), q < q_ → (saidU (dirs (l.length : Int) (kn1 : Int)).reverse (rollIn l i).1 ([4] ++ x1))[q]? = some u → (saidU (dirs (l.length : Int) (kn1 : Int)).reverse p ([4] ++ text))[q]? = some v → ¬ (¬ u = v ∧ markOf u = markOf v))) (fun q_ => [(0, Sl (At b2 o1) l.length c_l), (1, I ((kn1 : Int))), (2, Sr text), (3, Sl a_p p.length c_p), (11, Sl a1 (((rollIn l i).1).length) c1), (14, I ((rollIsIn ((rollRoot l).1) (((l.length : Nat) : Int)) ((kn1 : Int)) text p).2)), (15, Sl a2 ((saidU (dirs (((l.length : Nat) : Int)) ((kn1 : Int))).reverse ((rollIn l i).1) ([4] ++ x1)).length) c2), (16, Sl a3 ((saidU (dirs (((l.length : Nat) : Int)) ((kn1 : Int))).reverse p ([4] ++ text)).length) c3), (19, Bo false), (43, Bo ((text == x1))), (59, Bo ((!decide ((rollIsIn ((rollRoot l).1) (((l.length : Nat) : Int)) ((kn1 : Int)) text p).2 = 0)) || (!((rollIsIn ((rollRoot l).1) (((l.length : Nat) : Int)) ((kn1 : Int)) text p).1)))), (70, Bo (!decide (((p.length : Nat) : Int) = ((((rollIn l i).1).length : Nat) : Int)))), (87, I ((((saidU (dirs (((l.length : Nat) : Int)) ((kn1 : Int))).reverse ((rollIn l i).1) ([4] ++ x1)).length : Nat) : Int))), (88, I ((q_ : Int)))]) (fun q_ => G6) (fun q_ => [[], [], []]) (fun q_ => (saidU (dirs (((l.length : Nat) : Int)) ((kn1 : Int))).reverse ((rollIn l i).1) ([4] ++ x1)).length - q_) 0 ⟨(by (try dsimp only); first | exact Nat.zero_le _ | omega | simp), (fun q u v hq => absurd hq (Nat.not_lt_zero _))⟩ (fun q_ hs => ?_)
          revert hs; revert q_; intro j hs
          obtain ⟨hi, hn⟩ := hs
          refine tc_eq (fr' := [(0, Sl (At b2 o1) l.length c_l), (1, I ((kn1 : Int))), (2, Sr text), (3, Sl a_p p.length c_p), (11, Sl a1 (((rollIn l i).1).length) c1), (14, I ((rollIsIn ((rollRoot l).1) (((l.length : Nat) : Int)) ((kn1 : Int)) text p).2)), (15, Sl a2 ((saidU (dirs (((l.length : Nat) : Int)) ((kn1 : Int))).reverse ((rollIn l i).1) ([4] ++ x1)).length) c2), (16, Sl a3 ((saidU (dirs (((l.length : Nat) : Int)) ((kn1 : Int))).reverse p ([4] ++ text)).length) c3), (19, Bo false), (43, Bo ((text == x1))), (59, Bo ((!decide ((rollIsIn ((rollRoot l).1) (((l.length : Nat) : Int)) ((kn1 : Int)) text p).2 = 0)) || (!((rollIsIn ((rollRoot l).1) (((l.length : Nat) : Int)) ((kn1 : Int)) text p).1)))), (70, Bo (!decide (((p.length : Nat) : Int) = ((((rollIn l i).1).length : Nat) : Int)))), (87, I ((((saidU (dirs (((l.length : Nat) : Int)) ((kn1 : Int))).reverse ((rollIn l i).1) ([4] ++ x1)).length : Nat) : Int))), (88, I ((j : Int)))]) (L' := [[], [], []]) rfl rfl ?_
          refine tc_rb [0] [(0, Sl (At b2 o1) l.length c_l), (1, I ((kn1 : Int))), (2, Sr text), (3, Sl a_p p.length c_p), (11, Sl a1 (((rollIn l i).1).length) c1), (14, I ((rollIsIn ((rollRoot l).1) (((l.length : Nat) : Int)) ((kn1 : Int)) text p).2)), (15, Sl a2 ((saidU (dirs (((l.length : Nat) : Int)) ((kn1 : Int))).reverse ((rollIn l i).1) ([4] ++ x1)).length) c2), (16, Sl a3 ((saidU (dirs (((l.length : Nat) : Int)) ((kn1 : Int))).reverse p ([4] ++ text)).length) c3), (19, Bo false), (43, Bo ((text == x1))), (59, Bo ((!decide ((rollIsIn ((rollRoot l).1) (((l.length : Nat) : Int)) ((kn1 : Int)) text p).2 = 0)) || (!((rollIsIn ((rollRoot l).1) (((l.length : Nat) : Int)) ((kn1 : Int)) text p).1)))), (70, Bo (!decide (((p.length : Nat) : Int) = ((((rollIn l i).1).length : Nat) : Int)))), (87, I ((((saidU (dirs (((l.length : Nat) : Int)) ((kn1 : Int))).reverse ((rollIn l i).1) ([4] ++ x1)).length : Nat) : Int))), (88, I ((j : Int))), (89, Bo (decide ((j : Int) < (((saidU (dirs (((l.length : Nat) : Int)) ((kn1 : Int))).reverse ((rollIn l i).1) ([4] ++ x1)).length : Nat) : Int))))] ?_
          refine tc_seq ?_
          refine tc_cond (decide ((j : Int) < (((saidU (dirs (((l.length : Nat) : Int)) ((kn1 : Int))).reverse ((rollIn l i).1) ([4] ++ x1)).length : Nat) : Int))) (fun h5 => ?_) (fun h5 => ?_)
          ·
            try simp only [decide_eq_true_eq, decide_eq_false_iff_not, Bool.and_eq_true, Bool.or_eq_true, Bool.and_eq_false_imp, Bool.or_eq_false_iff, Bool.not_eq_true', Bool.not_eq_false', Bool.not_eq_true, Bool.not_eq_false, beq_iff_eq, beq_eq_false_iff_ne, bne_iff_ne, ne_eq, Decidable.not_not, Int.not_lt, Int.not_le] at h5
            refine tc_skip ?_
            refine tq_then ?_
            refine tc_seq ?_
            refine tc_block ?_
            refine tc_rb [0,0] [(0, Sl (At b2 o1) l.length c_l), (1, I ((kn1 : Int))), (2, Sr text), (3, Sl a_p p.length c_p), (11, Sl a1 (((rollIn l i).1).length) c1), (14, I ((rollIsIn ((rollRoot l).1) (((l.length : Nat) : Int)) ((kn1 : Int)) text p).2)), (15, Sl a2 ((saidU (dirs (((l.length : Nat) : Int)) ((kn1 : Int))).reverse ((rollIn l i).1) ([4] ++ x1)).length) c2), (16, Sl a3 ((saidU (dirs (((l.length : Nat) : Int)) ((kn1 : Int))).reverse p ([4] ++ text)).length) c3), (17, I ((j : Int))), (19, Bo false), (43, Bo ((text == x1))), (59, Bo ((!decide ((rollIsIn ((rollRoot l).1) (((l.length : Nat) : Int)) ((kn1 : Int)) text p).2 = 0)) || (!((rollIsIn ((rollRoot l).1) (((l.length : Nat) : Int)) ((kn1 : Int)) text p).1)))), (70, Bo (!decide (((p.length : Nat) : Int) = ((((rollIn l i).1).length : Nat) : Int)))), (87, I ((((saidU (dirs (((l.length : Nat) : Int)) ((kn1 : Int))).reverse ((rollIn l i).1) ([4] ++ x1)).length : Nat) : Int))), (88, I ((j : Int))), (89, Bo (decide ((j : Int) < (((saidU (dirs (((l.length : Nat) : Int)) ((kn1 : Int))).reverse ((rollIn l i).1) ([4] ++ x1)).length : Nat) : Int))))] ?_
            refine tc_seq ?_
            obtain ⟨b3, o2, rfl⟩ := RS.addr (hs3.mono hl6) (k := j) (by first | omega | (have g_ := (good2 h1).2; have q_ := rollIn_ok g_; omega) | (have q_ := rollBinds_all hkn1 h1 hx1 h2 h3; omega))
            obtain ⟨x2, hx2⟩ := getX (l := saidU (dirs (((l.length : Nat) : Int)) ((kn1 : Int))).reverse ((rollIn l i).1) ([4] ++ x1)) (k := j) (by first | omega | (have g_ := (good2 h1).2; have q_ := rollIn_ok g_; omega) | (have q_ := rollBinds_all hkn1 h1 hx1 h2 h3; omega))
            obtain ⟨_, ⟨rfl, w2⟩, hc2⟩ := RS.get (hs3.mono hl6) hx2
            obtain ⟨b4, o3, rfl⟩ := RS.addr hs4 (k := j) (by first | omega | (have g_ := (good2 h1).2; have q_ := rollIn_ok g_; omega) | (have q_ := rollBinds_all hkn1 h1 hx1 h2 h3; omega))
            obtain ⟨x3, hx3⟩ := getX (l := saidU (dirs (((l.length : Nat) : Int)) ((kn1 : Int))).reverse p ([4] ++ text)) (k := j) (by first | omega | (have g_ := (good2 h1).2; have q_ := rollIn_ok g_; omega) | (have q_ := rollBinds_all hkn1 h1 hx1 h2 h3; omega))
            obtain ⟨_, ⟨rfl, w3⟩, hc3⟩ := RS.get hs4 hx3
            refine tc_draw [] ?_
            refine dr_V [(0, Sl (At b3 o2) ((saidU (dirs (((l.length : Nat) : Int)) ((kn1 : Int))).reverse ((rollIn l i).1) ([4] ++ x1)).length) c2), (1, I ((j : Int))), (2, Pt b3 (o2 + j * 1)), (3, Sr x2), (4, Sl (At b4 o3) ((saidU (dirs (((l.length : Nat) : Int)) ((kn1 : Int))).reverse p ([4] ++ text)).length) c3), (5, I ((j : Int))), (6, Pt b4 (o3 + j * 1)), (7, Sr x3), (8, Bo (!(x2 == x3) && decide (markOf x2 = markOf x3)))] ?_
            refine dr_end [] [(0,0), (1,0), (4,0), (5,0)] [2, 3, 6, 7, 8] [(0, Sl (At b2 o1) l.length c_l), (1, I ((kn1 : Int))), (2, Sr text), (3, Sl a_p p.length c_p), (11, Sl a1 (((rollIn l i).1).length) c1), (14, I ((rollIsIn ((rollRoot l).1) (((l.length : Nat) : Int)) ((kn1 : Int)) text p).2)), (15, Sl (At b3 o2) ((saidU (dirs (((l.length : Nat) : Int)) ((kn1 : Int))).reverse ((rollIn l i).1) ([4] ++ x1)).length) c2), (16, Sl (At b4 o3) ((saidU (dirs (((l.length : Nat) : Int)) ((kn1 : Int))).reverse p ([4] ++ text)).length) c3), (17, I ((j : Int))), (19, Bo false), (43, Bo ((text == x1))), (59, Bo ((!decide ((rollIsIn ((rollRoot l).1) (((l.length : Nat) : Int)) ((kn1 : Int)) text p).2 = 0)) || (!((rollIsIn ((rollRoot l).1) (((l.length : Nat) : Int)) ((kn1 : Int)) text p).1)))), (70, Bo (!decide (((p.length : Nat) : Int) = ((((rollIn l i).1).length : Nat) : Int)))), (87, I ((((saidU (dirs (((l.length : Nat) : Int)) ((kn1 : Int))).reverse ((rollIn l i).1) ([4] ++ x1)).length : Nat) : Int))), (88, I ((j : Int))), (89, Bo (decide ((j : Int) < (((saidU (dirs (((l.length : Nat) : Int)) ((kn1 : Int))).reverse ((rollIn l i).1) ([4] ++ x1)).length : Nat) : Int)))), (99, Bo (!(x2 == x3) && decide (markOf x2 = markOf x3)))] (List.forall_mem_cons.2 ⟨?_, (List.forall_mem_cons.2 ⟨?_, (List.forall_mem_cons.2 ⟨?_, (List.forall_mem_cons.2 ⟨?_, (List.forall_mem_cons.2 ⟨?_, List.forall_mem_nil _⟩)⟩)⟩)⟩)⟩) ?_
            · refine stab_of 2 93 (Pt b3 (o2 + j * 1)) [(91, Sl (At b3 o2) ((saidU (dirs (((l.length : Nat) : Int)) ((kn1 : Int))).reverse ((rollIn l i).1) ([4] ++ x1)).length) c2), (92, I ((j : Int)))] (fun X => ?_)
              exact runL_idx (b := b3) (off := o2) (len := (saidU (dirs (((l.length : Nat) : Int)) ((kn1 : Int))).reverse ((rollIn l i).1) ([4] ++ x1)).length) (cap := c2) (ik := .i64) 93 9 1 j (by first | omega | (have g_ := (good2 h1).2; have q_ := rollIn_ok g_; omega) | (have q_ := rollBinds_all hkn1 h1 hx1 h2 h3; omega)) stab_end
            · refine stab_of 3 94 (Sr x2) [(93, Pt b3 (o2 + j * 1))] (fun X => ?_)
              exact runL_ldG 94 9 (cs := [Sr x2]) 0 (Sr x2) hc2 stab_end
            · refine stab_of 6 97 (Pt b4 (o3 + j * 1)) [(95, Sl (At b4 o3) ((saidU (dirs (((l.length : Nat) : Int)) ((kn1 : Int))).reverse p ([4] ++ text)).length) c3), (96, I ((j : Int)))] (fun X => ?_)
              exact runL_idx (b := b4) (off := o3) (len := (saidU (dirs (((l.length : Nat) : Int)) ((kn1 : Int))).reverse p ([4] ++ text)).length) (cap := c3) (ik := .i64) 97 9 1 j (by first | omega | (have g_ := (good2 h1).2; have q_ := rollIn_ok g_; omega) | (have q_ := rollBinds_all hkn1 h1 hx1 h2 h3; omega)) stab_end
            · refine stab_of 7 98 (Sr x3) [(97, Pt b4 (o3 + j * 1))] (fun X => ?_)
              exact runL_ldG 98 9 (cs := [Sr x3]) 0 (Sr x3) hc3 stab_end
            · refine stab_of 8 99 (Bo (!(x2 == x3) && decide (markOf x2 = markOf x3))) [(94, Sr x2), (98, Sr x3)] (fun X => ?_)
              exact runL_callV 99 (Bo (!(x2 == x3) && decide (markOf x2 = markOf x3))) (markAlike_con x2 x3 (le48r w2) (le48r w3) G6) stab_end
            refine tq_then ?_
            refine tc_cond (!(x2 == x3) && decide (markOf x2 = markOf x3)) (fun h6 => ?_) (fun h6 => ?_)
            ·
              try simp only [decide_eq_true_eq, decide_eq_false_iff_not, Bool.and_eq_true, Bool.or_eq_true, Bool.and_eq_false_imp, Bool.or_eq_false_iff, Bool.not_eq_true', Bool.not_eq_false', Bool.not_eq_true, Bool.not_eq_false, beq_iff_eq, beq_eq_false_iff_ne, bne_iff_ne, ne_eq, Decidable.not_not, Int.not_lt, Int.not_le] at h6
              refine tc_rb [0] [(0, Sl (At b2 o1) l.length c_l), (1, I ((kn1 : Int))), (2, Sr text), (3, Sl a_p p.length c_p), (8, Bo true), (11, Sl a1 (((rollIn l i).1).length) c1), (14, I ((rollIsIn ((rollRoot l).1) (((l.length : Nat) : Int)) ((kn1 : Int)) text p).2)), (15, Sl (At b3 o2) ((saidU (dirs (((l.length : Nat) : Int)) ((kn1 : Int))).reverse ((rollIn l i).1) ([4] ++ x1)).length) c2), (16, Sl (At b4 o3) ((saidU (dirs (((l.length : Nat) : Int)) ((kn1 : Int))).reverse p ([4] ++ text)).length) c3), (17, I ((j : Int))), (19, Bo false), (43, Bo ((text == x1))), (59, Bo ((!decide ((rollIsIn ((rollRoot l).1) (((l.length : Nat) : Int)) ((kn1 : Int)) text p).2 = 0)) || (!((rollIsIn ((rollRoot l).1) (((l.length : Nat) : Int)) ((kn1 : Int)) text p).1)))), (70, Bo (!decide (((p.length : Nat) : Int) = ((((rollIn l i).1).length : Nat) : Int)))), (87, I ((((saidU (dirs (((l.length : Nat) : Int)) ((kn1 : Int))).reverse ((rollIn l i).1) ([4] ++ x1)).length : Nat) : Int))), (88, I ((j : Int))), (89, Bo (decide ((j : Int) < (((saidU (dirs (((l.length : Nat) : Int)) ((kn1 : Int))).reverse ((rollIn l i).1) ([4] ++ x1)).length : Nat) : Int)))), (99, Bo (!(x2 == x3) && decide (markOf x2 = markOf x3)))] ?_
              refine tc_ret ?_
              refine tq_block_ret ?_
              refine tq_then_ret ?_
              refine tq_rnd_ret ?_
              refine tq_block_ret ?_
              refine tq_then_ret ?_
              refine tq_ret [0] [Bo true] (bp_ret (Mem.le_trans (Mem.le_trans (Mem.le_trans (Mem.le_trans (Mem.le_trans hl1 hl2) hl3) hl4) hl5) hl6) ?_)
              rfl
            ·
              try simp only [decide_eq_true_eq, decide_eq_false_iff_not, Bool.and_eq_true, Bool.or_eq_true, Bool.and_eq_false_imp, Bool.or_eq_false_iff, Bool.not_eq_true', Bool.not_eq_false', Bool.not_eq_true, Bool.not_eq_false, beq_iff_eq, beq_eq_false_iff_ne, bne_iff_ne, ne_eq, Decidable.not_not, Int.not_lt, Int.not_le] at h6
              refine tc_skip ?_
              refine tq_block ?_
              refine tq_then ?_
              refine tc_region ?_
              refine runL_b [0,0] [(0, Sl (At b2 o1) l.length c_l), (1, I ((kn1 : Int))), (2, Sr text), (3, Sl a_p p.length c_p), (11, Sl a1 (((rollIn l i).1).length) c1), (14, I ((rollIsIn ((rollRoot l).1) (((l.length : Nat) : Int)) ((kn1 : Int)) text p).2)), (15, Sl (At b3 o2) ((saidU (dirs (((l.length : Nat) : Int)) ((kn1 : Int))).reverse ((rollIn l i).1) ([4] ++ x1)).length) c2), (16, Sl (At b4 o3) ((saidU (dirs (((l.length : Nat) : Int)) ((kn1 : Int))).reverse p ([4] ++ text)).length) c3), (17, I ((j : Int))), (19, Bo false), (43, Bo ((text == x1))), (59, Bo ((!decide ((rollIsIn ((rollRoot l).1) (((l.length : Nat) : Int)) ((kn1 : Int)) text p).2 = 0)) || (!((rollIsIn ((rollRoot l).1) (((l.length : Nat) : Int)) ((kn1 : Int)) text p).1)))), (70, Bo (!decide (((p.length : Nat) : Int) = ((((rollIn l i).1).length : Nat) : Int)))), (87, I ((((saidU (dirs (((l.length : Nat) : Int)) ((kn1 : Int))).reverse ((rollIn l i).1) ([4] ++ x1)).length : Nat) : Int))), (88, I (IntKind.i64.wrap (((j : Int)) + 1))), (89, Bo (decide ((j : Int) < (((saidU (dirs (((l.length : Nat) : Int)) ((kn1 : Int))).reverse ((rollIn l i).1) ([4] ++ x1)).length : Nat) : Int)))), (99, Bo (!(x2 == x3) && decide (markOf x2 = markOf x3)))] ?_
              have e2 : IntKind.i64.wrap (((j : Int)) + 1) = ((j : Int)) + 1 := IntWalk.i64_in _ (by first | omega | (have g_ := (good2 h1).2; have q_ := rollIn_ok g_; omega) | (have q_ := rollBinds_all hkn1 h1 hx1 h2 h3; omega))
              refine runL_eq (fr' := [(0, Sl (At b2 o1) l.length c_l), (1, I ((kn1 : Int))), (2, Sr text), (3, Sl a_p p.length c_p), (11, Sl a1 (((rollIn l i).1).length) c1), (14, I ((rollIsIn ((rollRoot l).1) (((l.length : Nat) : Int)) ((kn1 : Int)) text p).2)), (15, Sl (At b3 o2) ((saidU (dirs (((l.length : Nat) : Int)) ((kn1 : Int))).reverse ((rollIn l i).1) ([4] ++ x1)).length) c2), (16, Sl (At b4 o3) ((saidU (dirs (((l.length : Nat) : Int)) ((kn1 : Int))).reverse p ([4] ++ text)).length) c3), (17, I ((j : Int))), (19, Bo false), (43, Bo ((text == x1))), (59, Bo ((!decide ((rollIsIn ((rollRoot l).1) (((l.length : Nat) : Int)) ((kn1 : Int)) text p).2 = 0)) || (!((rollIsIn ((rollRoot l).1) (((l.length : Nat) : Int)) ((kn1 : Int)) text p).1)))), (70, Bo (!decide (((p.length : Nat) : Int) = ((((rollIn l i).1).length : Nat) : Int)))), (87, I ((((saidU (dirs (((l.length : Nat) : Int)) ((kn1 : Int))).reverse ((rollIn l i).1) ([4] ++ x1)).length : Nat) : Int))), (88, I (((j : Int)) + 1)), (89, Bo (decide ((j : Int) < (((saidU (dirs (((l.length : Nat) : Int)) ((kn1 : Int))).reverse ((rollIn l i).1) ([4] ++ x1)).length : Nat) : Int)))), (99, Bo (!(x2 == x3) && decide (markOf x2 = markOf x3)))]) (L' := [[], [], []]) (by simp only [e2]) (by rfl) ?_
              clear e2
              refine runL_nil ?_
              exact tq_rnd (j + 1) ⟨(by omega), (ncl_step hn hx2 hx3 (by intro hc; simp_all))⟩ (by (try dsimp only); omega)
          ·
            try simp only [decide_eq_true_eq, decide_eq_false_iff_not, Bool.and_eq_true, Bool.or_eq_true, Bool.and_eq_false_imp, Bool.or_eq_false_iff, Bool.not_eq_true', Bool.not_eq_false', Bool.not_eq_true, Bool.not_eq_false, beq_iff_eq, beq_eq_false_iff_ne, bne_iff_ne, ne_eq, Decidable.not_not, Int.not_lt, Int.not_le] at h5
            refine tc_exit ?_
            refine tq_then_exit ?_
            refine tq_rnd_exit ?_
            refine tq_block_here ?_
            refine tq_then ?_
            refine tc_rb [0] [(0, Sl (At b2 o1) l.length c_l), (1, I ((kn1 : Int))), (2, Sr text), (3, Sl a_p p.length c_p), (8, Bo false), (11, Sl a1 (((rollIn l i).1).length) c1), (14, I ((rollIsIn ((rollRoot l).1) (((l.length : Nat) : Int)) ((kn1 : Int)) text p).2)), (15, Sl a2 ((saidU (dirs (((l.length : Nat) : Int)) ((kn1 : Int))).reverse ((rollIn l i).1) ([4] ++ x1)).length) c2), (16, Sl a3 ((saidU (dirs (((l.length : Nat) : Int)) ((kn1 : Int))).reverse p ([4] ++ text)).length) c3), (19, Bo false), (43, Bo ((text == x1))), (59, Bo ((!decide ((rollIsIn ((rollRoot l).1) (((l.length : Nat) : Int)) ((kn1 : Int)) text p).2 = 0)) || (!((rollIsIn ((rollRoot l).1) (((l.length : Nat) : Int)) ((kn1 : Int)) text p).1)))), (70, Bo (!decide (((p.length : Nat) : Int) = ((((rollIn l i).1).length : Nat) : Int)))), (87, I ((((saidU (dirs (((l.length : Nat) : Int)) ((kn1 : Int))).reverse ((rollIn l i).1) ([4] ++ x1)).length : Nat) : Int))), (88, I ((j : Int))), (89, Bo (decide ((j : Int) < (((saidU (dirs (((l.length : Nat) : Int)) ((kn1 : Int))).reverse ((rollIn l i).1) ([4] ++ x1)).length : Nat) : Int))))] ?_
            refine tc_ret ?_
            refine tq_ret [0] [Bo false] (bp_ret (Mem.le_trans (Mem.le_trans (Mem.le_trans (Mem.le_trans (Mem.le_trans hl1 hl2) hl3) hl4) hl5) hl6) ?_)
            exfalso
            first | (rw [Bool.or_eq_true, decide_eq_true_eq, decide_eq_true_eq]; exact rIsIn_err (by rw [← hkn1]; exact (good2 h1).2)) | (have q_ := rollBinds_all hkn1 h1 hx1 h2 h3; omega) | (obtain ⟨_, _, _, _, _, _, q1_, _, j_, a_, b_, e1_, e2_, e3_⟩ := rollBinds_all hkn1 h1 hx1 h2 h3; have hj_ := (List.getElem?_eq_some_iff.1 e1_).1; exact hn j_ a_ b_ (by omega) e1_ e2_ e3_)
end Go.Proofs.Ytggljibhfbgmpaa
