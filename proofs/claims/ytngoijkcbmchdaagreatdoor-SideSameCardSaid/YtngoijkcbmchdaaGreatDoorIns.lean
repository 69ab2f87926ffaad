import Derived.Test.YtngoijkcbmchdaaGreatDoorTree
import Derived.Test.YtngoijkcbmchdaaGreatDoorRow
namespace Go.Proofs.YtngoijkcbmchdaaGreatDoor
open Go.Tx
set_option linter.unusedVariables false
set_option linter.unusedSimpArgs false

def insL (l : List EntD) (i : Nat) (x : EntD) : List EntD := l.take i ++ [x] ++ l.drop i
theorem insL_len {l : List EntD} {i : Nat} {x : EntD} (h : i ≤ l.length) : (insL l i x).length = l.length + 1 := by unfold insL; simp; omega
theorem insL_end {l : List EntD} {i : Nat} {x : EntD} (h : i = l.length) : l ++ [x] = insL l i x := by subst h; simp [insL]
theorem one2 {a b : Value} (ha : a.oneCell' = true) (hb : b.oneCell' = true) : ∀ u ∈ [a, b], u.oneCell' = true := by
  intro u hu
  rcases List.mem_cons.1 hu with rfl | hu
  · exact ha
  · rw [List.mem_singleton.1 hu]; exact hb
def treeSetE (l : List EntD) (name value : List UInt8) : Int := if (treeFind l name).2.2 ≠ 0 then (treeFind l name).2.2 else if treeRight name value ≠ 0 then treeRight name value else if (treeFind l name).2.1 = false ∧ (l.length : Int) = 24 then 7 else 0
def treeSet (l : List EntD) (name value : List UInt8) : List EntD × Int := if treeSetE l name value ≠ 0 then ([], treeSetE l name value) else (if (treeFind l name).2.1 = true then l.set (treeFind l name).1.toNat ⟨name, value⟩ else (insL l (treeFind l name).1.toNat ⟨[], []⟩).set (treeFind l name).1.toNat ⟨name, value⟩, 0)
theorem insL_set {l : List EntD} {i : Nat} {x y : EntD} (h : i ≤ l.length) : (insL l i x).set i y = insL l i y := by
  unfold insL
  rw [List.append_assoc, List.set_append_right _ _ (by rw [List.length_take]; omega), List.length_take, Nat.min_eq_left h, Nat.sub_self]
  simp
theorem insL_get {l : List EntD} {i : Nat} {x : EntD} (h : i ≤ l.length) (p : Nat) : (insL l i x)[p]? = if p < i then l[p]? else if p = i then some x else l[p - 1]? := by
  unfold insL
  rw [List.append_assoc]
  by_cases h1 : p < i
  · rw [if_pos h1, List.getElem?_append_left (by rw [List.length_take]; omega), List.getElem?_take, if_pos h1]
  · rw [if_neg h1, List.getElem?_append_right (by rw [List.length_take]; omega), List.length_take, Nat.min_eq_left h]
    by_cases h2 : p = i
    · rw [if_pos h2, h2, Nat.sub_self]; rfl
    · rw [if_neg h2]
      obtain ⟨m, hm⟩ : ∃ m, p - i = m + 1 := ⟨p - i - 1, by omega⟩
      rw [hm]
      show (l.drop i)[m]? = _
      rw [List.getElem?_drop]; congr 1; omega
theorem treeFind_ok {l : List EntD} {name : List UInt8} (h : (treeFind l name).2.2 = 0) : TreeOk l ∧ pathName name = true ∧ treeFind l name = ((bsF l name entOrd).1, (bsF l name entOrd).2, 0) := by
  unfold treeFind at h ⊢
  split at h
  · contradiction
  split at h
  · cases h
  · rename_i h1 h2
    rw [if_neg h1, if_neg h2]
    exact ⟨treeCheck_iff.1 (Decidable.not_not.1 h1), by simpa using h2, rfl⟩
theorem treeFind_le {l : List EntD} {name : List UInt8} (h : (treeFind l name).2.2 = 0) : 0 ≤ (treeFind l name).1 ∧ (treeFind l name).1 ≤ l.length ∧ l.length ≤ 24 := by
  obtain ⟨h1, _, h3⟩ := treeFind_ok h
  have := bsI_bd (fun x => entOrd x name) l
  have := h1.len
  rw [h3]; unfold bsF; simp only; omega
theorem treeSet_e {l : List EntD} {name value : List UInt8} (h : (treeSet l name value).2 = 0) : (treeFind l name).2.2 = 0 ∧ treeRight name value = 0 ∧ ((treeFind l name).2.1 = true ∨ l.length < 24) := by
  have h1 : treeSetE l name value = 0 := by
    unfold treeSet at h; split at h
    · contradiction
    · rename_i h1; exact Decidable.not_not.1 h1
  unfold treeSetE at h1
  by_cases e1 : (treeFind l name).2.2 = 0
  · rw [if_neg (by omega)] at h1
    by_cases e2 : treeRight name value = 0
    · rw [if_neg (by omega)] at h1
      refine ⟨e1, e2, ?_⟩
      by_cases e3 : (treeFind l name).2.1 = false ∧ (l.length : Int) = 24
      · rw [if_pos e3] at h1; cases h1
      · cases hb : (treeFind l name).2.1 with
        | true => exact .inl rfl
        | false =>
          refine .inr ?_
          have := (treeFind_le e1).2.2
          have : ¬ (l.length : Int) = 24 := fun hc => e3 ⟨hb, hc⟩
          omega
    · rw [if_pos e2] at h1; exact absurd h1 e2
  · rw [if_pos e1] at h1; exact absurd h1 e1
theorem treeSet_err {l : List EntD} {name value : List UInt8} (h : ¬ (treeSet l name value).2 = 0) : (treeSet l name value).1 = [] := by
  revert h; unfold treeSet; split <;> simp
/-- what Set does to a book that is right -/
theorem treeSet_ok {l : List EntD} {name value : List UInt8} (h : (treeSet l name value).2 = 0) : TreeOk l ∧ pathName name = true ∧ TreeOk (treeSet l name value).1 ∧ (∀ y, y ∈ (treeSet l name value).1 ↔ y = ⟨name, value⟩ ∨ (y ∈ l ∧ y.name ≠ name)) := by
  obtain ⟨e1, e2, e3⟩ := treeSet_e h
  obtain ⟨hok, hp, hf⟩ := treeFind_ok e1
  have hs := place_spec hok name
  have hbd := bsI_bd (fun x => entOrd x name) l
  have hi : (treeFind l name).1.toNat = bsI (fun x => entOrd x name) l := by rw [hf]; unfold bsF; simp
  have hE : treeSetE l name value = 0 := by
    unfold treeSet at h; split at h
    · contradiction
    · rename_i h1; exact Decidable.not_not.1 h1
  have hval : treeSet l name value = (if (treeFind l name).2.1 = true then l.set (treeFind l name).1.toNat ⟨name, value⟩ else (insL l (treeFind l name).1.toNat ⟨[], []⟩).set (treeFind l name).1.toNat ⟨name, value⟩, 0) := by
    unfold treeSet; rw [if_neg (by omega)]
  rw [hval, hi]
  generalize hk : bsI (fun x => entOrd x name) l = k at *
  refine ⟨hok, hp, ?_⟩
  cases hb : (treeFind l name).2.1 with
  | true =>
    rw [if_pos rfl]
    have hb2 : (bsF l name entOrd).2 = true := by rw [hf] at hb; exact hb
    obtain ⟨x, hx, hxn⟩ := bsF_at hb2
    rw [hk] at hx
    have hkl := (List.getElem?_eq_some_iff.1 hx).1
    have huni : ∀ p y, l[p]? = some y → y.name = name → p = k := by
      intro p y hy hyn
      rcases Nat.lt_trichotomy p k with hc | hc | hc
      · have := hok.ord p k y x hc hy hx; rw [hyn, ← hxn, ordN_zero.2 rfl] at this; omega
      · exact hc
      · have := hok.ord k p x y hc hx hy; rw [hyn, hxn, ordN_zero.2 rfl] at this; omega
    refine ⟨⟨by rw [List.length_set]; exact hok.len, fun y hy => ?_, fun p q y z hpq hy hz => ?_⟩, fun y => ?_⟩
    · rcases List.mem_or_eq_of_mem_set hy with hy | rfl
      · exact hok.ok y hy
      · exact e2
    · rw [List.getElem?_set] at hy hz
      have gy : ∃ y', l[p]? = some y' ∧ y'.name = y.name := by
        split at hy
        · rename_i e; subst e
          (try rw [if_pos hkl] at hy)
          exact ⟨x, hx, by rw [← Option.some.inj hy]; exact hxn⟩
        · exact ⟨y, hy, rfl⟩
      have gz : ∃ z', l[q]? = some z' ∧ z'.name = z.name := by
        split at hz
        · rename_i e; subst e
          (try rw [if_pos hkl] at hz)
          exact ⟨x, hx, by rw [← Option.some.inj hz]; exact hxn⟩
        · exact ⟨z, hz, rfl⟩
      obtain ⟨y', gy1, gy2⟩ := gy
      obtain ⟨z', gz1, gz2⟩ := gz
      rw [← gy2, ← gz2]; exact hok.ord p q y' z' hpq gy1 gz1
    · constructor
      · intro hy
        obtain ⟨p, hp2⟩ := List.getElem?_of_mem hy
        rw [List.getElem?_set] at hp2
        split at hp2
        · rename_i e; subst e; (try rw [if_pos hkl] at hp2); exact .inl (Option.some.inj hp2).symm
        · rename_i e
          exact .inr ⟨List.mem_of_getElem? hp2, fun hc => e (huni p y hp2 hc).symm⟩
      · rintro (rfl | ⟨hy, hne⟩)
        · exact List.mem_of_getElem? (i := k) (by rw [List.getElem?_set, if_pos rfl, if_pos hkl])
        · obtain ⟨p, hp2⟩ := List.getElem?_of_mem hy
          exact List.mem_of_getElem? (i := p) (by rw [List.getElem?_set, if_neg (fun e => hne (by subst e; rw [hx] at hp2; rw [← Option.some.inj hp2]; exact hxn))]; exact hp2)
  | false =>
    rw [if_neg (by simp), insL_set hbd]
    have hb3 : (bsF l name entOrd).2 = false := by rw [hf] at hb; exact hb
    have hb2 : ¬ (bsF l name entOrd).2 = true := by rw [hb3]; simp
    have hno : ∀ y ∈ l, y.name ≠ name := fun y hy hc => hb2 ((bsF_is hok name).2 ⟨y, hy, hc⟩)
    have hlt : ∀ p y, p < k → l[p]? = some y → ordN y.name name < 0 := hs.1
    have hgt : ∀ p y, k ≤ p → l[p]? = some y → ordN name y.name < 0 := by
      intro p y hp2 hy
      have h1 := hs.2 p y hp2 hy
      have h2 : ordN y.name name ≠ 0 := fun hc => hno y (List.mem_of_getElem? hy) (ordN_zero.1 hc)
      exact ordN_gt.1 (by omega)
    have hl24 : l.length < 24 := by rcases e3 with e3 | e3; rw [e3] at hb; cases hb; exact e3
    refine ⟨⟨by rw [insL_len hbd]; omega, fun y hy => ?_, fun p q y z hpq hy hz => ?_⟩, fun y => ?_⟩
    · unfold insL at hy
      simp only [List.mem_append, List.mem_singleton] at hy
      rcases hy with (hy | rfl) | hy
      · exact hok.ok y (List.mem_of_mem_take hy)
      · exact e2
      · exact hok.ok y (List.mem_of_mem_drop hy)
    · rw [insL_get hbd] at hy hz
      by_cases p1 : p < k
      · rw [if_pos p1] at hy
        by_cases q1 : q < k
        · rw [if_pos q1] at hz; exact hok.ord p q y z hpq hy hz
        · rw [if_neg q1] at hz
          by_cases q2 : q = k
          · rw [if_pos q2] at hz; rw [← Option.some.inj hz]; exact hlt p y p1 hy
          · rw [if_neg q2] at hz; exact hok.ord p (q - 1) y z (by omega) hy hz
      · rw [if_neg p1] at hy
        rw [if_neg (by omega), if_neg (by omega)] at hz
        by_cases p2 : p = k
        · rw [if_pos p2] at hy; rw [← Option.some.inj hy]; exact hgt (q - 1) z (by omega) hz
        · rw [if_neg p2] at hy; exact hok.ord (p - 1) (q - 1) y z (by omega) hy hz
    · unfold insL
      simp only [List.mem_append, List.mem_singleton]
      constructor
      · rintro ((hy | rfl) | hy)
        · exact .inr ⟨List.mem_of_mem_take hy, hno y (List.mem_of_mem_take hy)⟩
        · exact .inl rfl
        · exact .inr ⟨List.mem_of_mem_drop hy, hno y (List.mem_of_mem_drop hy)⟩
      · rintro (rfl | ⟨hy, _⟩)
        · exact .inl (.inr rfl)
        · rw [← List.take_append_drop k l] at hy
          rcases List.mem_append.1 hy with hy | hy
          · exact .inl (.inl hy)
          · exact .inr hy
theorem treeGet_in {l : List EntD} (h : TreeOk l) {x : EntD} (hx : x ∈ l) (hp : pathName x.name = true) : treeGet l x.name = (x.value, true, 0) := by
  have hb : (bsF l x.name entOrd).2 = true := (bsF_is h x.name).2 ⟨x, hx, rfl⟩
  have hf : treeFind l x.name = ((bsF l x.name entOrd).1, true, 0) := by
    unfold treeFind; rw [if_neg (by have := treeCheck_iff.2 h; omega), if_neg (by rw [hp]; simp), hb]
  obtain ⟨y, hy, hyn⟩ := bsF_at hb
  have hyx : y = x := by
    obtain ⟨p, hp2⟩ := List.getElem?_of_mem hx
    have := (List.getElem?_eq_some_iff.1 hy).1
    rcases Nat.lt_trichotomy p (bsI (fun z => entOrd z x.name) l) with hc | hc | hc
    · have := h.ord _ _ x y hc hp2 hy; rw [hyn, ordN_zero.2 rfl] at this; omega
    · rw [← hc, hp2] at hy; exact (Option.some.inj hy).symm
    · have := h.ord _ _ y x hc hy hp2; rw [hyn, ordN_zero.2 rfl] at this; omega
  unfold treeGet
  rw [hf, if_neg (by simp)]
  unfold bsF
  simp only [Int.toNat_natCast]
  rw [hy, hyx]; rfl
theorem treeGet_no {l : List EntD} (h : TreeOk l) {m : List UInt8} (hp : pathName m = true) (hn : ∀ y ∈ l, y.name ≠ m) : treeGet l m = ([], false, 0) := by
  have hb : (bsF l m entOrd).2 = false := by
    cases hb : (bsF l m entOrd).2 with
    | false => rfl
    | true => obtain ⟨y, hy, e⟩ := (bsF_is h m).1 hb; exact absurd e (hn y hy)
  have hf : treeFind l m = ((bsF l m entOrd).1, false, 0) := by
    unfold treeFind; rw [if_neg (by have := treeCheck_iff.2 h; omega), if_neg (by rw [hp]; simp), hb]
  unfold treeGet; rw [hf, if_pos rfl]
theorem treeGet_bad {l : List EntD} (h : TreeOk l) {m : List UInt8} (hp : pathName m = false) : treeGet l m = ([], false, 3) := by
  have hf : treeFind l m = (0, false, 3) := by
    unfold treeFind; rw [if_neg (by have := treeCheck_iff.2 h; omega), if_pos hp]
  unfold treeGet; rw [hf, if_pos rfl]
theorem treeGet_eq {l l' : List EntD} (h : TreeOk l) (h' : TreeOk l') {m : List UInt8} (hm : ∀ y, y.name = m → (y ∈ l ↔ y ∈ l')) : treeGet l m = treeGet l' m := by
  cases hp : pathName m with
  | false => rw [treeGet_bad h hp, treeGet_bad h' hp]
  | true =>
    by_cases hx : ∃ x ∈ l, x.name = m
    · obtain ⟨x, hx, rfl⟩ := hx
      rw [treeGet_in h hx hp, treeGet_in h' ((hm x rfl).1 hx) hp]
    · rw [treeGet_no h hp (fun y hy e => hx ⟨y, hy, e⟩), treeGet_no h' hp (fun y hy e => hx ⟨y, (hm y e).2 hy, e⟩)]
theorem treeSets_law {l : List EntD} {name value other : List UInt8} (h : (treeSet l name value).2 = 0) : treeGet (treeSet l name value).1 name = (value, true, 0) ∧ (other = name ∨ treeGet (treeSet l name value).1 other = treeGet l other) ∧ (treeGet (treeSet l name value).1 other).2.2 = (treeGet l other).2.2 ∧ treeCheck (treeSet l name value).1 = 0 := by
  obtain ⟨h1, h2, h3, h4⟩ := treeSet_ok h
  have g1 : treeGet (treeSet l name value).1 name = (value, true, 0) := treeGet_in h3 (x := ⟨name, value⟩) ((h4 _).2 (.inl rfl)) h2
  have hne : other ≠ name → treeGet (treeSet l name value).1 other = treeGet l other := fun hn => (treeGet_eq h1 h3 (fun y hy => by
    rw [h4]
    constructor
    · intro hyl; exact .inr ⟨hyl, fun hc => hn (hy ▸ hc)⟩
    · rintro (rfl | ⟨hyl, _⟩)
      · exact absurd hy.symm hn
      · exact hyl)).symm
  refine ⟨g1, ?_, ?_, treeCheck_iff.2 h3⟩
  · by_cases e : other = name
    · exact .inl e
    · exact .inr (hne e)
  · by_cases e : other = name
    · subst e
      rw [g1]
      by_cases hx : ∃ x ∈ l, x.name = other
      · obtain ⟨x, hx, rfl⟩ := hx; rw [treeGet_in h1 hx h2]
      · rw [treeGet_no h1 h2 (fun y hy e => hx ⟨y, hy, e⟩)]
    · rw [hne e]
theorem treeSet_len (l : List EntD) (name value : List UInt8) : (treeSet l name value).1.length ≤ 24 := by
  by_cases h : (treeSet l name value).2 = 0
  · exact (treeSet_ok h).2.2.1.len
  · rw [treeSet_err h]; simp
theorem treeSet_a {l : List EntD} {name value : List UInt8} (h : ¬ (treeFind l name).2.2 = 0) : treeSet l name value = ([], (treeFind l name).2.2) := by
  have : treeSetE l name value = (treeFind l name).2.2 := by unfold treeSetE; rw [if_pos h]
  unfold treeSet; rw [if_pos (by omega), this]
theorem treeSet_b {l : List EntD} {name value : List UInt8} (h0 : (treeFind l name).2.2 = 0) (h : ¬ treeRight name value = 0) : treeSet l name value = ([], treeRight name value) := by
  have : treeSetE l name value = treeRight name value := by unfold treeSetE; rw [if_neg (by omega), if_pos h]
  unfold treeSet; rw [if_pos (by omega), this]
theorem treeSet_c {l : List EntD} {name value : List UInt8} (h0 : (treeFind l name).2.2 = 0) (h1 : treeRight name value = 0) (h : (treeFind l name).2.1 = false ∧ (l.length : Int) = 24) : treeSet l name value = ([], 7) := by
  have : treeSetE l name value = 7 := by unfold treeSetE; rw [if_neg (by omega), if_neg (by omega), if_pos h]
  unfold treeSet; rw [if_pos (by omega), this]
theorem treeSet_d {l : List EntD} {name value : List UInt8} {k : Nat} (h0 : (treeFind l name).2.2 = 0) (h1 : treeRight name value = 0) (h : (treeFind l name).2.1 = true) (hk : (treeFind l name).1 = (k : Int)) : treeSet l name value = (l.set k ⟨name, value⟩, 0) := by
  have : treeSetE l name value = 0 := by unfold treeSetE; rw [if_neg (by omega), if_neg (by omega), if_neg (by rw [h]; simp)]
  unfold treeSet; rw [if_neg (by omega), if_pos h, hk, Int.toNat_natCast]
theorem treeSet_f {l : List EntD} {name value : List UInt8} {k : Nat} (h0 : (treeFind l name).2.2 = 0) (h1 : treeRight name value = 0) (h : (treeFind l name).2.1 = false) (h2 : (treeFind l name).2.1 = false → ¬ (l.length : Int) = 24) (hk : (treeFind l name).1 = (k : Int)) : treeSet l name value = ((insL l k ⟨[], []⟩).set k ⟨name, value⟩, 0) := by
  have : treeSetE l name value = 0 := by unfold treeSetE; rw [if_neg (by omega), if_neg (by omega), if_neg (fun hc => h2 hc.1 hc.2)]
  unfold treeSet; rw [if_neg (by omega), if_neg (by rw [h]; simp), hk, Int.toNat_natCast]
theorem trees_ok : (treeSet [] [97] [98]).2 = 0 ∧ (treeSet [] [97] [98]).1 = [⟨[97], [98]⟩] := by decide +kernel


end Go.Proofs.YtngoijkcbmchdaaGreatDoor
