import Derived.Test.YtpofnmobbbcpgaaGreatDoorZaTree
import Derived.Test.YtpofnmobbbcpgaaGreatDoorZaRow
namespace Go.Proofs.YtpofnmobbbcpgaaGreatDoor
open Go.Tx
set_option linter.unusedVariables false
set_option linter.unusedSimpArgs false
def insL (l : List EntD) (i : Nat) (x : EntD) : List EntD := l.take i ++ [x] ++ l.drop i
theorem insL_len {l : List EntD} {i : Nat} {x : EntD} (h : i ≤ l.length) : (insL l i x).length = l.length + 1 := by unfold insL; simp; omega
theorem insL_end {l : List EntD} {i : Nat} {x : EntD} (h : i = l.length) : l ++ [x] = insL l i x := by subst h; simp [insL]
theorem one2 {a b : Value} (ha : a.oneCell' = true) (hb : b.oneCell' = true) : ∀ u ∈ [a, b], u.oneCell' = true := by
  intro u hu
  rcases List.mem_cons.1 hu with rfl | hu
  · exact ha
  · rw [List.mem_singleton.1 hu]; exact hb
def treeSetE (l : List EntD) (name value : List UInt8) : Int := if (treeFind l name).2.2 ≠ 0 then (treeFind l name).2.2 else if treeRight name value ≠ 0 then treeRight name value else if (treeFind l name).2.1 = false ∧ (l.length : Int) = 24 then 7 else 0
def treeSet (l : List EntD) (name value : List UInt8) : List EntD × Int := if treeSetE l name value ≠ 0 then ([], treeSetE l name value) else (if (treeFind l name).2.1 = true then l.set (treeFind l name).1.toNat ⟨name, value⟩ else (insL l (treeFind l name).1.toNat ⟨[], []⟩).set (treeFind l name).1.toNat ⟨name, value⟩, 0)
theorem insL_set {l : List EntD} {i : Nat} {x y : EntD} (h : i ≤ l.length) : (insL l i x).set i y = insL l i y := by
  unfold insL
  rw [List.append_assoc, List.set_append_right _ _ (by rw [List.length_take]; omega), List.length_take, Nat.min_eq_left h, Nat.sub_self]
  simp
theorem insL_get {l : List EntD} {i : Nat} {x : EntD} (h : i ≤ l.length) (p : Nat) : (insL l i x)[p]? = if p < i then l[p]? else if p = i then some x else l[p - 1]? := by
  unfold insL
  rw [List.append_assoc]
  by_cases h1 : p < i
  · rw [if_pos h1, List.getElem?_append_left (by rw [List.length_take]; omega), List.getElem?_take, if_pos h1]
  · rw [if_neg h1, List.getElem?_append_right (by rw [List.length_take]; omega), List.length_take, Nat.min_eq_left h]
    by_cases h2 : p = i
    · rw [if_pos h2, h2, Nat.sub_self]; rfl
    · rw [if_neg h2]
      obtain ⟨m, hm⟩ : ∃ m, p - i = m + 1 := ⟨p - i - 1, by omega⟩
      rw [hm]
      show (l.drop i)[m]? = _
      rw [List.getElem?_drop]; congr 1; omega
theorem treeFind_ok {l : List EntD} {name : List UInt8} (h : (treeFind l name).2.2 = 0) : TreeOk l ∧ pathName name = true ∧ treeFind l name = ((bsF l name entOrd).1, (bsF l name entOrd).2, 0) := by
  unfold treeFind at h ⊢
  split at h
  · contradiction
  split at h
  · cases h
  · rename_i h1 h2
    rw [if_neg h1, if_neg h2]
    exact ⟨treeCheck_iff.1 (Decidable.not_not.1 h1), by simpa using h2, rfl⟩
theorem treeFind_le {l : List EntD} {name : List UInt8} (h : (treeFind l name).2.2 = 0) : 0 ≤ (treeFind l name).1 ∧ (treeFind l name).1 ≤ l.length ∧ l.length ≤ 24 := by
  obtain ⟨h1, _, h3⟩ := treeFind_ok h
  have := bsI_bd (fun x => entOrd x name) l
  have := h1.len
  rw [h3]; unfold bsF; simp only; omega
theorem treeSet_e {l : List EntD} {name value : List UInt8} (h : (treeSet l name value).2 = 0) : (treeFind l name).2.2 = 0 ∧ treeRight name value = 0 ∧ ((treeFind l name).2.1 = true ∨ l.length < 24) := by
  have h1 : treeSetE l name value = 0 := by
    unfold treeSet at h; split at h
    · contradiction
    · rename_i h1; exact Decidable.not_not.1 h1
  unfold treeSetE at h1
  by_cases e1 : (treeFind l name).2.2 = 0
  · rw [if_neg (by omega)] at h1
    by_cases e2 : treeRight name value = 0
    · rw [if_neg (by omega)] at h1
      refine ⟨e1, e2, ?_⟩
      by_cases e3 : (treeFind l name).2.1 = false ∧ (l.length : Int) = 24
      · rw [if_pos e3] at h1; cases h1
      · cases hb : (treeFind l name).2.1 with
        | true => exact .inl rfl
        | false =>
          refine .inr ?_
          have := (treeFind_le e1).2.2
          have : ¬ (l.length : Int) = 24 := fun hc => e3 ⟨hb, hc⟩
          omega
    · rw [if_pos e2] at h1; exact absurd h1 e2
  · rw [if_pos e1] at h1; exact absurd h1 e1
theorem treeSet_err {l : List EntD} {name value : List UInt8} (h : ¬ (treeSet l name value).2 = 0) : (treeSet l name value).1 = [] := by
  revert h; unfold treeSet; split <;> simp
theorem treeSet_ok {l : List EntD} {name value : List UInt8} (h : (treeSet l name value).2 = 0) : TreeOk l ∧ pathName name = true ∧ TreeOk (treeSet l name value).1 ∧ (∀ y, y ∈ (treeSet l name value).1 ↔ y = ⟨name, value⟩ ∨ (y ∈ l ∧ y.name ≠ name)) := by
  obtain ⟨e1, e2, e3⟩ := treeSet_e h
  obtain ⟨hok, hp, hf⟩ := treeFind_ok e1
  have hs := place_spec hok name
  have hbd := bsI_bd (fun x => entOrd x name) l
  have hi : (treeFind l name).1.toNat = bsI (fun x => entOrd x name) l := by rw [hf]; unfold bsF; simp
  have hE : treeSetE l name value = 0 := by
    unfold treeSet at h; split at h
    · contradiction
    · rename_i h1; exact Decidable.not_not.1 h1
  have hval : treeSet l name value = (if (treeFind l name).2.1 = true then l.set (treeFind l name).1.toNat ⟨name, value⟩ else (insL l (treeFind l name).1.toNat ⟨[], []⟩).set (treeFind l name).1.toNat ⟨name, value⟩, 0) := by
    unfold treeSet; rw [if_neg (by omega)]
  rw [hval, hi]
  generalize hk : bsI (fun x => entOrd x name) l = k at *
  refine ⟨hok, hp, ?_⟩
  cases hb : (treeFind l name).2.1 with
  | true =>
    rw [if_pos rfl]
    have hb2 : (bsF l name entOrd).2 = true := by rw [hf] at hb; exact hb
    obtain ⟨x, hx, hxn⟩ := bsF_at hb2
    rw [hk] at hx
    have hkl := (List.getElem?_eq_some_iff.1 hx).1
    have huni : ∀ p y, l[p]? = some y → y.name = name → p = k := by
      intro p y hy hyn
      rcases Nat.lt_trichotomy p k with hc | hc | hc
      · have := hok.ord p k y x hc hy hx; rw [hyn, ← hxn, ordN_zero.2 rfl] at this; omega
      · exact hc
      · have := hok.ord k p x y hc hx hy; rw [hyn, hxn, ordN_zero.2 rfl] at this; omega
    refine ⟨⟨by rw [List.length_set]; exact hok.len, fun y hy => ?_, fun p q y z hpq hy hz => ?_⟩, fun y => ?_⟩
    · rcases List.mem_or_eq_of_mem_set hy with hy | rfl
      · exact hok.ok y hy
      · exact e2
    · rw [List.getElem?_set] at hy hz
      have gy : ∃ y', l[p]? = some y' ∧ y'.name = y.name := by
        split at hy
        · rename_i e; subst e
          (try rw [if_pos hkl] at hy)
          exact ⟨x, hx, by rw [← Option.some.inj hy]; exact hxn⟩
        · exact ⟨y, hy, rfl⟩
      have gz : ∃ z', l[q]? = some z' ∧ z'.name = z.name := by
        split at hz
        · rename_i e; subst e
          (try rw [if_pos hkl] at hz)
          exact ⟨x, hx, by rw [← Option.some.inj hz]; exact hxn⟩
        · exact ⟨z, hz, rfl⟩
      obtain ⟨y', gy1, gy2⟩ := gy
      obtain ⟨z', gz1, gz2⟩ := gz
      rw [← gy2, ← gz2]; exact hok.ord p q y' z' hpq gy1 gz1
    · constructor
      · intro hy
        obtain ⟨p, hp2⟩ := List.getElem?_of_mem hy
        rw [List.getElem?_set] at hp2
        split at hp2
        · rename_i e; subst e; (try rw [if_pos hkl] at hp2); exact .inl (Option.some.inj hp2).symm
        · rename_i e
          exact .inr ⟨List.mem_of_getElem? hp2, fun hc => e (huni p y hp2 hc).symm⟩
      · rintro (rfl | ⟨hy, hne⟩)
        · exact List.mem_of_getElem? (i := k) (by rw [List.getElem?_set, if_pos rfl, if_pos hkl])
        · obtain ⟨p, hp2⟩ := List.getElem?_of_mem hy
          exact List.mem_of_getElem? (i := p) (by rw [List.getElem?_set, if_neg (fun e => hne (by subst e; rw [hx] at hp2; rw [← Option.some.inj hp2]; exact hxn))]; exact hp2)
  | false =>
    rw [if_neg (by simp), insL_set hbd]
    have hb3 : (bsF l name entOrd).2 = false := by rw [hf] at hb; exact hb
    have hb2 : ¬ (bsF l name entOrd).2 = true := by rw [hb3]; simp
    have hno : ∀ y ∈ l, y.name ≠ name := fun y hy hc => hb2 ((bsF_is hok name).2 ⟨y, hy, hc⟩)
    have hlt : ∀ p y, p < k → l[p]? = some y → ordN y.name name < 0 := hs.1
    have hgt : ∀ p y, k ≤ p → l[p]? = some y → ordN name y.name < 0 := by
      intro p y hp2 hy
      have h1 := hs.2 p y hp2 hy
      have h2 : ordN y.name name ≠ 0 := fun hc => hno y (List.mem_of_getElem? hy) (ordN_zero.1 hc)
      exact ordN_gt.1 (by omega)
    have hl24 : l.length < 24 := by rcases e3 with e3 | e3; rw [e3] at hb; cases hb; exact e3
    refine ⟨⟨by rw [insL_len hbd]; omega, fun y hy => ?_, fun p q y z hpq hy hz => ?_⟩, fun y => ?_⟩
    · unfold insL at hy
      simp only [List.mem_append, List.mem_singleton] at hy
      rcases hy with (hy | rfl) | hy
      · exact hok.ok y (List.mem_of_mem_take hy)
      · exact e2
      · exact hok.ok y (List.mem_of_mem_drop hy)
    · rw [insL_get hbd] at hy hz
      by_cases p1 : p < k
      · rw [if_pos p1] at hy
        by_cases q1 : q < k
        · rw [if_pos q1] at hz; exact hok.ord p q y z hpq hy hz
        · rw [if_neg q1] at hz
          by_cases q2 : q = k
          · rw [if_pos q2] at hz; rw [← Option.some.inj hz]; exact hlt p y p1 hy
          · rw [if_neg q2] at hz; exact hok.ord p (q - 1) y z (by omega) hy hz
      · rw [if_neg p1] at hy
        rw [if_neg (by omega), if_neg (by omega)] at hz
        by_cases p2 : p = k
        · rw [if_pos p2] at hy; rw [← Option.some.inj hy]; exact hgt (q - 1) z (by omega) hz
        · rw [if_neg p2] at hy; exact hok.ord (p - 1) (q - 1) y z (by omega) hy hz
    · unfold insL
      simp only [List.mem_append, List.mem_singleton]
      constructor
      · rintro ((hy | rfl) | hy)
        · exact .inr ⟨List.mem_of_mem_take hy, hno y (List.mem_of_mem_take hy)⟩
        · exact .inl rfl
        · exact .inr ⟨List.mem_of_mem_drop hy, hno y (List.mem_of_mem_drop hy)⟩
      · rintro (rfl | ⟨hy, _⟩)
        · exact .inl (.inr rfl)
        · rw [← List.take_append_drop k l] at hy
          rcases List.mem_append.1 hy with hy | hy
          · exact .inl (.inl hy)
          · exact .inr hy
theorem treeSet_len (l : List EntD) (name value : List UInt8) : (treeSet l name value).1.length ≤ 24 := by
  by_cases h : (treeSet l name value).2 = 0
  · exact (treeSet_ok h).2.2.1.len
  · rw [treeSet_err h]; simp
theorem treeSet_a {l : List EntD} {name value : List UInt8} (h : ¬ (treeFind l name).2.2 = 0) : treeSet l name value = ([], (treeFind l name).2.2) := by
  have : treeSetE l name value = (treeFind l name).2.2 := by unfold treeSetE; rw [if_pos h]
  unfold treeSet; rw [if_pos (by omega), this]
theorem treeSet_b {l : List EntD} {name value : List UInt8} (h0 : (treeFind l name).2.2 = 0) (h : ¬ treeRight name value = 0) : treeSet l name value = ([], treeRight name value) := by
  have : treeSetE l name value = treeRight name value := by unfold treeSetE; rw [if_neg (by omega), if_pos h]
  unfold treeSet; rw [if_pos (by omega), this]
theorem treeSet_c {l : List EntD} {name value : List UInt8} (h0 : (treeFind l name).2.2 = 0) (h1 : treeRight name value = 0) (h : (treeFind l name).2.1 = false ∧ (l.length : Int) = 24) : treeSet l name value = ([], 7) := by
  have : treeSetE l name value = 7 := by unfold treeSetE; rw [if_neg (by omega), if_neg (by omega), if_pos h]
  unfold treeSet; rw [if_pos (by omega), this]
theorem treeSet_d {l : List EntD} {name value : List UInt8} {k : Nat} (h0 : (treeFind l name).2.2 = 0) (h1 : treeRight name value = 0) (h : (treeFind l name).2.1 = true) (hk : (treeFind l name).1 = (k : Int)) : treeSet l name value = (l.set k ⟨name, value⟩, 0) := by
  have : treeSetE l name value = 0 := by unfold treeSetE; rw [if_neg (by omega), if_neg (by omega), if_neg (by rw [h]; simp)]
  unfold treeSet; rw [if_neg (by omega), if_pos h, hk, Int.toNat_natCast]
theorem treeSet_f {l : List EntD} {name value : List UInt8} {k : Nat} (h0 : (treeFind l name).2.2 = 0) (h1 : treeRight name value = 0) (h : (treeFind l name).2.1 = false) (h2 : (treeFind l name).2.1 = false → ¬ (l.length : Int) = 24) (hk : (treeFind l name).1 = (k : Int)) : treeSet l name value = ((insL l k ⟨[], []⟩).set k ⟨name, value⟩, 0) := by
  have : treeSetE l name value = 0 := by unfold treeSetE; rw [if_neg (by omega), if_neg (by omega), if_neg (fun hc => h2 hc.1 hc.2)]
  unfold treeSet; rw [if_neg (by omega), if_neg (by rw [h]; simp), hk, Int.toNat_natCast]
set_option maxRecDepth 4000 in
theorem sins_EEnt (G : Mem) (a : Option Addr) (c : Nat) (l : List EntD) (r : List Seg) (hr : TRow EEnt G a c l r) (bv : Nat) (x : EntD) (hx0 : (x.name).length ≤ 140737488351232) (hx1 : (x.value).length ≤ 140737488351232) (i : Nat) (hi : i ≤ l.length) (hsm : l.length ≤ 1000) : ConL Tryz.prog 59 #[Sl a l.length c, I (i : Int), Sl (At bv 0) 1 1] G [r, [SgT 58 bv 0 [Sr x.name, Sr x.value]]] (fun u G' L' => ∃ a' c' r', u = Sl a' (insL l i x).length c' ∧ TRow EEnt G' a' c' (insL l i x) r' ∧ L' = [r']) := by
 intro Lr
 have hlc := TRow.lec hr
 have hcm := TRow.mx hr
 refine con_of Tryz.func59 95 [(0, Sl a l.length c), (1, I (i : Int)), (2, Sl (At bv 0) 1 1)] rfl (fun w0 G0 => ?_)
 show TC _ _ _ _ _ (r :: [SgT 58 bv 0 [Sr x.name, Sr x.value]] :: Lr)
 refine tc_rbn [0] [] (tc_seq (tc_region ?_))
 refine runL_bn [0,0] [(10, Sl a l.length c), (11, I (i : Int))] ?_
 refine runL_slU (a := a) (len := l.length) (cap := c) 12 2 (some (I (i : Int))) none i l.length (.inr ⟨_, rfl⟩) (.inl ⟨rfl, rfl⟩) hi hlc (fun a9 => ?_)
 refine runL_nil (tq_then ?_)
 refine tc_rbn [0,0,0] [(7, I (1 : Int))] (tc_seq ?_)
 refine tc_rbn [0,0] [(16, Bo (decide ((1 : Int) = 0)))] ?_
 refine tc_condP (decide ((1 : Int) = 0)) (fun h1 => ?_) (fun h1 => ?_)
 ·
  exfalso; omega
 ·
  refine tc_skip (tq_then ?_)
  refine tc_rbn [0,0,0] [(8, I (l.length : Int))] (tc_seq ?_)
  refine tc_rbn [0,0,0] [(22, Bo (decide ((i : Int) = (l.length : Int))))] ?_
  refine tc_condP (decide ((i : Int) = (l.length : Int))) (fun h2 => ?_) (fun h2 => ?_)
  ·
   refine tc_untype 1 ?_
   refine tc_seq (tc_region ?_)
   refine runL_bn [0,0] [(23, Sl a l.length c), (24, Sl (At bv 0) 1 1)] ?_
   refine runL_app1' (b := bv) (cs := [Sr x.name, Sr x.value]) 25 58 0 1 (E := EEnt) x hr ⟨rfl, (by first | assumption | omega | (simp; done) | (simp; omega)), (by first | assumption | omega | (simp; done) | (simp; omega))⟩ (by omega) (by simp only [EEnt]; omega) (fun a1 c1 r1 hr1 => ?_)
   refine runL_bn [0] [(6, Sl a1 ((l ++ [x]).length) c1)] (runL_nil (tq_then (tc_ret (tq_then_ret ?_))))
   have e_ : l ++ [x] = insL l i x := insL_end (by omega)
   have en_ : (l ++ [x]).length = (insL l i x).length := by first | (rw [insL_len hi]; done) | (rw [insL_len hi]; (try simp only [List.length_append, List.length_cons, List.length_nil]) <;> omega)
   refine tq_ret [0] [Sl a1 ((l ++ [x]).length) c1] (bp_ownA (Lr := Lr) [r1] (Mem.le_refl _) ?_)
   exact ⟨_, _, _, congrArg (fun n => Sl a1 n c1) en_, (by rw [← e_]; exact hr1), rfl⟩
  ·
   refine tc_skip (tq_then (tc_seq ?_))
   obtain ⟨b, off, css, spare, rfl, rfl, hc1, hc2, hc3, hsp, _, hmax, hone⟩ := TRow.opened hr (by omega)
   refine tc_rbn [0,0,0,0,0,0] [(31, Bo (decide (IntKind.i64.wrap ((l.length : Int) + (1 : Int)) > (c : Int))))] ?_
   have e1 : IntKind.i64.wrap ((l.length : Int) + (1 : Int)) = (l.length : Int) + (1 : Int) := IntWalk.i64_in _ (by omega)
   refine tc_put 31 (Bo (decide ((l.length : Int) + (1 : Int) > (c : Int)))) (show (Bo (decide (IntKind.i64.wrap ((l.length : Int) + (1 : Int)) > (c : Int))) : Value) = Bo (decide ((l.length : Int) + (1 : Int) > (c : Int))) by simp only [e1]) ?_
   clear e1
   refine tc_condP (decide ((l.length : Int) + (1 : Int) > (c : Int))) (fun h3 => ?_) (fun h3 => ?_)
   ·
    refine tc_untype 1 ?_
    refine tc_seq (tc_region ?_)
    refine runL_bn [0,0] [(32, Sl (At b off) l.length c), (33, I (i : Int))] ?_
    refine runL_slT0 (b := b) (off := off) (len := l.length) (cap := c) 34 2 (some (I (i : Int))) i (.inr ⟨_, rfl⟩) (by omega) ?_
    refine runL_bn [0,0,0,0,0] [(39, I (IntKind.i64.wrap ((IntKind.i64.wrap ((l.length : Int) + (1 : Int))) - (i : Int))))] ?_
    have e2 : IntKind.i64.wrap ((l.length : Int) + (1 : Int)) = (l.length : Int) + (1 : Int) := IntWalk.i64_in _ (by omega)
    have e3 : IntKind.i64.wrap (((l.length : Int) + (1 : Int)) - (i : Int)) = ((l.length + 1 - i : Nat) : Int) := (IntWalk.i64_in _ (by omega)).trans (show ((l.length : Int) + (1 : Int)) - (i : Int) = ((l.length + 1 - i : Nat) : Int) by omega)
    refine runL_put 39 (I ((l.length + 1 - i : Nat) : Int)) (show (I (IntKind.i64.wrap ((IntKind.i64.wrap ((l.length : Int) + (1 : Int))) - (i : Int))) : Value) = I ((l.length + 1 - i : Nat) : Int) by simp only [e2, e3]) ?_
    clear e3 e2
    refine runL_appZb (b := b) (off := off) (cap := c) (F := (css.flatten ++ spare)) 40 0 58 2 32 (l.length + 1 - i) i (hr.sp _ (List.mem_singleton.2 rfl)) (by omega) (by omega) (by omega) (by omega) (by rw [List.length_append, flatten_len hc3, hc1]; simp only [EEnt]; omega) (by omega) (fun b9 c9 zs hz1 hz2 hz3 hz5 => ?_)
    refine runL_bn [0] [(9, Sl (At b9 0) (i + (l.length + 1 - i)) c9)] (runL_nil (tq_then (tc_seq (tc_region ?_))))
    refine runL_bn [0,0] [(41, Sl (At b9 0) (i + (l.length + 1 - i)) c9), (42, I (i : Int))] ?_
    refine runL_slB (b := b9) (off := 0) (len := (i + (l.length + 1 - i))) (cap := c9) 43 2 (some (I (i : Int))) none i (i + (l.length + 1 - i)) (.inr ⟨_, rfl⟩) (.inl ⟨rfl, rfl⟩) (by omega) (by omega) (by omega) ?_
    refine runL_bn [0] [(44, Sl (At bv 0) 1 1)] ?_
    refine runL_cpy (b := b9) (off := 0) (p := (i * 2)) (nd := (i + (l.length + 1 - i) - i)) (cd := (c9 - i)) (bs := bv) (os := 0) (ns := 1) (cs := 1) (F := ((css.flatten ++ spare).take (i * 2) ++ zs)) 45 0 2 [Sr x.name, Sr x.value] (by rw [show Nat.min 1 (i + (l.length + 1 - i) - i) = 1 from by simp only [Nat.min_def]; split <;> omega]; rfl) (by rw [hz3]; simp only [List.length_cons, List.length_nil]; omega) (one2 rfl rfl) (.inr ⟨2, 0, [Sr x.name, Sr x.value], 0, rfl, rfl, fun j v hv => by rw [Nat.zero_add]; exact hv⟩) ?_
    refine runL_nil (tq_then (tc_seq ?_))
    have e4 : IntKind.i64.wrap ((i : Int) + (1 : Int)) = ((i + 1 : Nat) : Int) := (IntWalk.i64_in _ (by omega)).trans (show (i : Int) + (1 : Int) = ((i + 1 : Nat) : Int) by omega)
    refine tc_draw [8] ?_
    refine dr_V [(0, Sl (At b9 0) (i + (l.length + 1 - i)) c9), (1, I (i : Int)), (2, I (1 : Int)), (3, I ((i + 1 : Nat) : Int)), (4, Sl (At b9 (0 + (i + 1) * 2)) ((i + (l.length + 1 - i)) - (i + 1)) (c9 - (i + 1))), (5, Sl (At b off) l.length c), (6, I (i : Int)), (7, Sl (At b (off + i * 2)) (l.length - i) (c - i))] ?_
    refine dr_mid [] [(0,0), (1,0), (2,0), (5,0), (6,0)] [3, 4, 7] [8] (fmc ?_ (fmc ?_ (fmc ?_ fm0))) (fmc ?_ fm0)
    ·
     refine stab_of 3 49 (I ((i + 1 : Nat) : Int)) [(47, I (i : Int)), (48, I (1 : Int))] (fun X => ?_)
     exact runL_p1 49 (I (IntKind.i64.wrap ((i : Int) + (1 : Int)))) (I ((i + 1 : Nat) : Int)) (by simp only [e4]) stab_end
    ·
     refine stab_of 4 50 (Sl (At b9 (0 + (i + 1) * 2)) ((i + (l.length + 1 - i)) - (i + 1)) (c9 - (i + 1))) [(46, Sl (At b9 0) (i + (l.length + 1 - i)) c9), (49, I ((i + 1 : Nat) : Int))] (fun X => ?_)
     exact runL_slB (b := b9) (off := 0) (len := (i + (l.length + 1 - i))) (cap := c9) 50 2 (some (I ((i + 1 : Nat) : Int))) none (i + 1) (i + (l.length + 1 - i)) (.inr ⟨_, rfl⟩) (.inl ⟨rfl, rfl⟩) (by omega) (by omega) (by omega) stab_end
    ·
     refine stab_of 7 53 (Sl (At b (off + i * 2)) (l.length - i) (c - i)) [(51, Sl (At b off) l.length c), (52, I (i : Int))] (fun X => ?_)
     exact runL_slB (b := b) (off := off) (len := l.length) (cap := c) 53 2 (some (I (i : Int))) none i l.length (.inr ⟨_, rfl⟩) (.inl ⟨rfl, rfl⟩) (by omega) (by omega) (by omega) stab_end
    refine act_of 8 [(50, Sl (At b9 (0 + (i + 1) * 2)) ((i + (l.length + 1 - i)) - (i + 1)) (c9 - (i + 1))), (53, Sl (At b (off + i * 2)) (l.length - i) (c - i))] (fun X => ?_)
    refine runL_cpy (b := b9) (off := 0) (p := ((i + 1) * 2)) (nd := (i + (l.length + 1 - i) - (i + 1))) (cd := (c9 - (i + 1))) (bs := b) (os := (off + i * 2)) (ns := (l.length - i)) (cs := (c - i)) (F := (splice ((css.flatten ++ spare).take (i * 2) ++ zs) (i * 2) [Sr x.name, Sr x.value])) 54 0 2 (css.drop i).flatten (by rw [css_drop_len hc3, hc1, show Nat.min (l.length - i) (i + (l.length + 1 - i) - (i + 1)) = l.length - i from by simp only [Nat.min_def]; split <;> omega]; rfl) (by rw [splice_length (by rw [hz3]; simp only [List.length_cons, List.length_nil]; omega), hz3, css_drop_len hc3, hc1]; simp only [EEnt]; omega) (css_one i hone) (.inr ⟨1, off, (css.flatten ++ spare), i * 2, rfl, rfl, css_src (sz := 2) hc3 (by omega)⟩) ?_
    refine act_endN [(8, I ((Nat.min (l.length - i) (i + (l.length + 1 - i) - (i + 1)) : Nat) : Int))] ?_
    refine dr_end [0, 1, 2, 3, 4, 5, 6, 7] [] [] [(9, Sl (At b9 0) (i + (l.length + 1 - i)) c9)] (List.forall_mem_nil _) ?_
    refine tq_then ?_
    refine tc_rbn [0,0] [(6, Sl (At b9 0) (i + (l.length + 1 - i)) c9)] (tc_ret (tq_then_ret ?_))
    have en_ : i + (l.length + 1 - i) = (insL l i x).length := by first | (rw [insL_len hi]; done) | (rw [insL_len hi]; (try simp only [List.length_append, List.length_cons, List.length_nil]) <;> omega)
    refine tq_ret [0] [Sl (At b9 0) (i + (l.length + 1 - i)) c9] (bp_ownA (Lr := Lr) [[Sg b9 0 (splice (splice ((css.flatten ++ spare).take (i * 2) ++ zs) (i * 2) [Sr x.name, Sr x.value]) ((i + 1) * 2) (css.drop i).flatten)]] (Mem.le_refl _) ?_)
    exact ⟨_, _, _, congrArg (fun n => Sl (At b9 0) n c9) en_, (TRow.insG (spare := spare) i hi hc1 hc2 ⟨rfl, hx0, hx1⟩ hz3 (by omega) hz2 hz5), rfl⟩
   ·
    refine tc_skip (tq_then (tc_seq (tc_region ?_)))
    refine runL_bn [0,0,0,0] [(56, Sl (At b off) l.length c), (59, I (IntKind.i64.wrap ((l.length : Int) + (1 : Int))))] ?_
    have e5 : IntKind.i64.wrap ((l.length : Int) + (1 : Int)) = ((l.length + 1 : Nat) : Int) := (IntWalk.i64_in _ (by omega)).trans (show (l.length : Int) + (1 : Int) = ((l.length + 1 : Nat) : Int) by omega)
    refine runL_put 59 (I ((l.length + 1 : Nat) : Int)) (congrArg I e5) ?_
    clear e5
    refine runL_slT0 (b := b) (off := off) (len := l.length) (cap := c) 60 2 (some (I ((l.length + 1 : Nat) : Int))) (l.length + 1) (.inr ⟨_, rfl⟩) (by omega) ?_
    refine runL_bn [0] [(0, Sl (At b off) (l.length + 1) c)] (runL_nil (tq_then (tc_seq (tc_seq (tc_region ?_)))))
    refine runL_bn [0,0,0,0,0] [(61, Sl (At bv 0) 1 1), (62, Sl (At b off) (l.length + 1) c), (65, I (IntKind.i64.wrap ((i : Int) + (1 : Int))))] ?_
    have e6 : IntKind.i64.wrap ((i : Int) + (1 : Int)) = ((i + 1 : Nat) : Int) := (IntWalk.i64_in _ (by omega)).trans (show (i : Int) + (1 : Int) = ((i + 1 : Nat) : Int) by omega)
    refine runL_put 65 (I ((i + 1 : Nat) : Int)) (congrArg I e6) ?_
    clear e6
    refine runL_slB (b := b) (off := off) (len := (l.length + 1)) (cap := c) 66 2 (some (I ((i + 1 : Nat) : Int))) none (i + 1) (l.length + 1) (.inr ⟨_, rfl⟩) (.inl ⟨rfl, rfl⟩) (by omega) (by omega) (by omega) ?_
    refine runL_extW (f := 82) (args := #[Sl (At bv 0) 1 1, Sl (At b (off + (i + 1) * 2)) ((l.length + 1) - (i + 1)) (c - (i + 1))]) 67 (Bo false) (fun w hw => ?_) ?_
    ·
     rw [run_callFunc_extern (e := Extern.SlicesOverlaps.overlaps #[25, 25] #[4]) Tryz.func82 (by kernel_rfl) (by kernel_rfl) (by kernel_rfl) (by kernel_rfl), ovl_false hw (i := 1) (j := 0) rfl (by simp) rfl (by rw [List.length_append, flatten_len hc3, hc1, hsp]; simp only [EEnt]; omega) (by decide) 25 4 58 2 (by kernel_rfl) (fun w => by kernel_rfl)]
     rfl
    refine runL_bn [0] [(68, Bo true)] (runL_nil (tq_then ?_))
    refine tc_cond_true ?_
    refine tc_untype 1 ?_
    refine tc_seq ?_
    have e7 : IntKind.i64.wrap ((i : Int) + (1 : Int)) = ((i + 1 : Nat) : Int) := (IntWalk.i64_in _ (by omega)).trans (show (i : Int) + (1 : Int) = ((i + 1 : Nat) : Int) by omega)
    refine tc_draw [8] ?_
    refine dr_V [(0, Sl (At b off) (l.length + 1) c), (1, I (i : Int)), (2, I (1 : Int)), (3, I ((i + 1 : Nat) : Int)), (4, Sl (At b (off + (i + 1) * 2)) ((l.length + 1) - (i + 1)) (c - (i + 1))), (5, Sl (At b off) (l.length + 1) c), (6, I (i : Int)), (7, Sl (At b (off + i * 2)) ((l.length + 1) - i) (c - i))] ?_
    refine dr_mid [] [(0,0), (1,0), (2,0), (5,0), (6,0)] [3, 4, 7] [8] (fmc ?_ (fmc ?_ (fmc ?_ fm0))) (fmc ?_ fm0)
    ·
     refine stab_of 3 72 (I ((i + 1 : Nat) : Int)) [(70, I (i : Int)), (71, I (1 : Int))] (fun X => ?_)
     exact runL_p1 72 (I (IntKind.i64.wrap ((i : Int) + (1 : Int)))) (I ((i + 1 : Nat) : Int)) (by simp only [e7]) stab_end
    ·
     refine stab_of 4 73 (Sl (At b (off + (i + 1) * 2)) ((l.length + 1) - (i + 1)) (c - (i + 1))) [(69, Sl (At b off) (l.length + 1) c), (72, I ((i + 1 : Nat) : Int))] (fun X => ?_)
     exact runL_slB (b := b) (off := off) (len := (l.length + 1)) (cap := c) 73 2 (some (I ((i + 1 : Nat) : Int))) none (i + 1) (l.length + 1) (.inr ⟨_, rfl⟩) (.inl ⟨rfl, rfl⟩) (by omega) (by omega) (by omega) stab_end
    ·
     refine stab_of 7 76 (Sl (At b (off + i * 2)) ((l.length + 1) - i) (c - i)) [(74, Sl (At b off) (l.length + 1) c), (75, I (i : Int))] (fun X => ?_)
     exact runL_slB (b := b) (off := off) (len := (l.length + 1)) (cap := c) 76 2 (some (I (i : Int))) none i (l.length + 1) (.inr ⟨_, rfl⟩) (.inl ⟨rfl, rfl⟩) (by omega) (by omega) (by omega) stab_end
    refine act_of 8 [(73, Sl (At b (off + (i + 1) * 2)) ((l.length + 1) - (i + 1)) (c - (i + 1))), (76, Sl (At b (off + i * 2)) ((l.length + 1) - i) (c - i))] (fun X => ?_)
    refine runL_cpy (b := b) (off := off) (p := ((i + 1) * 2)) (nd := (l.length + 1 - (i + 1))) (cd := (c - (i + 1))) (bs := b) (os := (off + i * 2)) (ns := (l.length + 1 - i)) (cs := (c - i)) (F := (css.flatten ++ spare)) 77 0 2 (css.drop i).flatten (by rw [css_drop_len hc3, hc1, show Nat.min (l.length + 1 - i) (l.length + 1 - (i + 1)) = l.length - i from by simp only [Nat.min_def]; split <;> omega]; rfl) (by rw [List.length_append, flatten_len hc3, hc1, hsp]; simp only [EEnt]; rw [css_drop_len hc3, hc1]; simp only [EEnt]; omega) (css_one i hone) (.inr ⟨0, off, (css.flatten ++ spare), i * 2, rfl, rfl, css_src (sz := 2) hc3 (by omega)⟩) ?_
    refine act_endN [(8, I ((Nat.min (l.length + 1 - i) (l.length + 1 - (i + 1)) : Nat) : Int))] ?_
    refine dr_end [0, 1, 2, 3, 4, 5, 6, 7] [] [] [(0, Sl (At b off) (l.length + 1) c), (1, I (i : Int)), (2, Sl (At bv 0) 1 1)] (List.forall_mem_nil _) ?_
    refine tq_then (tc_seq (tc_region ?_))
    refine runL_bn [0,0] [(78, Sl (At b off) (l.length + 1) c), (79, I (i : Int))] ?_
    refine runL_slB (b := b) (off := off) (len := (l.length + 1)) (cap := c) 80 2 (some (I (i : Int))) none i (l.length + 1) (.inr ⟨_, rfl⟩) (.inl ⟨rfl, rfl⟩) (by omega) (by omega) (by omega) ?_
    refine runL_bn [0] [(81, Sl (At bv 0) 1 1)] ?_
    refine runL_cpy (b := b) (off := off) (p := (i * 2)) (nd := (l.length + 1 - i)) (cd := (c - i)) (bs := bv) (os := 0) (ns := 1) (cs := 1) (F := (splice (css.flatten ++ spare) ((i + 1) * 2) (css.drop i).flatten)) 82 0 2 [Sr x.name, Sr x.value] (by rw [show Nat.min 1 (l.length + 1 - i) = 1 from by simp only [Nat.min_def]; split <;> omega]; rfl) (by rw [splice_length (by rw [List.length_append, flatten_len hc3, hc1, hsp]; simp only [EEnt]; rw [css_drop_len hc3, hc1]; simp only [EEnt]; omega)]; rw [List.length_append, flatten_len hc3, hc1, hsp]; simp only [EEnt]; simp only [List.length_cons, List.length_nil]; omega) (one2 rfl rfl) (.inr ⟨1, 0, [Sr x.name, Sr x.value], 0, rfl, rfl, fun j v hv => by rw [Nat.zero_add]; exact hv⟩) ?_
    refine runL_nil (tq_then ?_)
    refine tc_rbn [0,0] [(6, Sl (At b off) (l.length + 1) c)] (tc_ret (tq_then_ret ?_))
    have en_ : l.length + 1 = (insL l i x).length := by first | (rw [insL_len hi]; done) | (rw [insL_len hi]; (try simp only [List.length_append, List.length_cons, List.length_nil]) <;> omega)
    refine tq_ret [0] [Sl (At b off) (l.length + 1) c] (bp_ownA (Lr := Lr) [[Sg b off (splice (splice (css.flatten ++ spare) ((i + 1) * 2) (css.drop i).flatten) (i * 2) [Sr x.name, Sr x.value])]] (Mem.le_refl _) ?_)
    exact ⟨_, _, _, congrArg (fun n => Sl (At b off) n c) en_, (TRow.insP i hi hc1 hc2 ⟨rfl, hx0, hx1⟩ hsp (by omega) hcm (hr.sp _ (List.mem_singleton.2 rfl))), rfl⟩
theorem treeSet_con (G : Mem) (a_l : Option Addr) (c_l : Nat) (l : List EntD) (h_l : RS EEnt G a_l c_l l) (name : List UInt8) (hw_name : (name).length ≤ 140737488351232) (value : List UInt8) (hw_value : (value).length ≤ 140737488351232)  : ConP 30 #[Sl a_l l.length c_l, Sr name, Sr value] G [] (fun u G' L' => ∃ (a1 : Option Addr) (c2 : Nat) (r3 : List Seg), u = .tuple #[Sl a1 (((treeSet l name value).1).length) c2, I ((treeSet l name value).2)] ∧ (TRow EEnt G' a1 c2 ((treeSet l name value).1) r3) ∧ L' = [r3]) := by
 refine con_of Tryz.func30 52 [(0, Sl a_l l.length c_l), (1, Sr name), (2, Sr value)] rfl (fun w0 G0 => ?_)
 refine tc_rbn [0,0] [] (tc_seq (tc_region ?_))
 refine runL_bn [0,0] [(13, Sl a_l l.length c_l), (14, Sr name)] ?_
 refine runL_callV 15 (.tuple #[I ((treeFind l name).1), Bo ((treeFind l name).2.1), I ((treeFind l name).2.2)]) (treeFind_con G a_l c_l l h_l name hw_name) ?_
 refine runL_bn [0,0,0,0,0,0,0] [(8, I ((treeFind l name).1)), (9, Bo ((treeFind l name).2.1)), (10, I ((treeFind l name).2.2))] (runL_nil (tq_then (tc_seq ?_)))
 refine tc_rbn [0,0] [(20, Bo (decide ((treeFind l name).2.2 = 0)))] ?_
 refine tc_condP (decide ((treeFind l name).2.2 = 0)) (fun h1 => ?_) (fun h1 => ?_)
 ·
  refine tc_region ?_
  refine runL_bn [0,0] [(21, Sr name), (22, Sr value)] ?_
  refine runL_callV 23 (I (treeRight name value)) (treeRight_con G name value) ?_
  refine runL_bn [0] [(10, I (treeRight name value))] (runL_nil (tq_then (tc_seq (tc_block ?_))))
  refine tc_rbn [0,0,0] [(24, Bo (!decide (treeRight name value = 0)))] ?_
  refine tc_condP (!decide (treeRight name value = 0)) (fun h2 => ?_) (fun h2 => ?_)
  ·
   refine tc_rbn [0,0,0] [(6, Sl none 0 0), (7, I (treeRight name value))] (tc_ret (tq_block_ret (tq_then_ret ?_)))
   refine tq_empty ?_
   refine tq_front 0 ?_
   have hf1 : treeSet l name value = ([], treeRight name value) := by
    first | exact treeSet_a (by assumption) | exact treeSet_b (by assumption) (by assumption) | exact treeSet_c (by assumption) (by assumption) (by assumption) | exact treeSet_d (by assumption) (by assumption) (by assumption) (by assumption) | exact treeSet_f (by assumption) (by assumption) (by assumption) (by assumption) (by assumption) | (exfalso; omega)
   refine tq_ret [0, 0] [Sl none 0 0, I (treeRight name value)] (bp_rowsA [[]] (Mem.le_refl _) ?_)
   rw [hf1]
   try dsimp only
   exact ⟨none, 0, ([]), rfl, (TRow.none EEnt _), rfl⟩
  ·
   refine tc_seq (tc_region ?_)
   refine runL_bn [0,0,0] [(31, Bo (!((treeFind l name).2.1)))] ?_
   refine runL_b2n (!((treeFind l name).2.1)) [31] [0,0,0,0] [1,1,1,0] (fun bb => [(35, Bo (bb && (decide ((l.length : Int) = 24))))]) ?_
   refine runL_bn [0] [(28, Bo ((!((treeFind l name).2.1)) && (decide ((l.length : Int) = 24))))] (runL_nil (tq_then ?_))
   refine tc_condP ((!((treeFind l name).2.1)) && (decide ((l.length : Int) = 24))) (fun h3 => ?_) (fun h3 => ?_)
   ·
    refine tc_rbn [0,0] [(6, Sl none 0 0), (7, I 7)] (tc_ret (tq_block_ret (tq_then_ret ?_)))
    refine tq_empty ?_
    refine tq_front 0 ?_
    have hf2 : treeSet l name value = ([], 7) := by
     first | exact treeSet_a (by assumption) | exact treeSet_b (by assumption) (by assumption) | exact treeSet_c (by assumption) (by assumption) (by assumption) | exact treeSet_d (by assumption) (by assumption) (by assumption) (by assumption) | exact treeSet_f (by assumption) (by assumption) (by assumption) (by assumption) (by assumption) | (exfalso; omega)
    refine tq_ret [0, 0] [Sl none 0 0, I 7] (bp_rowsA [[]] (Mem.le_refl _) ?_)
    rw [hf2]
    try dsimp only
    exact ⟨none, 0, ([]), rfl, (TRow.none EEnt _), rfl⟩
   ·
    refine tc_skip (tq_block (tq_then (tc_seq (tc_region ?_))))
    refine runL_bn [0] [(36, Sl a_l l.length c_l)] ?_
    refine runL_callR 37 (sclone_EEnt G a_l c_l l h_l) (fun v G1 L1 hl1 hp => ?_)
    obtain ⟨a1, c1, r1, rfl, hr1, rfl⟩ := hp
    refine runL_bn [0] [(11, Sl a1 l.length c1)] (runL_nil (tq_then (tc_seq ?_)))
    refine tc_rbn [0,0] [(39, Bo (!((treeFind l name).2.1)))] ?_
    refine tc_condP (!((treeFind l name).2.1)) (fun h4 => ?_) (fun h4 => ?_)
    ·
     refine tc_region ?_
     refine runL_bn [0,0,0] [(40, Sl a1 l.length c1), (41, I ((treeFind l name).1)), (42, .agg #[Sr ([]), Sr ([])])] ?_
     refine runL_bslT 43 1 #[Sr ([]), Sr ([])] 58 (fun b1 => ?_)
     obtain ⟨kn1, hkn1⟩ : ∃ k_ : Nat, (treeFind l name).1 = (k_ : Int) := ⟨((treeFind l name).1).toNat, by first | omega | (have q_ := treeFind_le (l := l) (name := name) (by assumption); first | omega | (have q1_ := treeFind_bd (l := l) (name := name) (by assumption); omega) | (rw [insL_len (by omega)]; omega))⟩
     have e1 : (treeFind l name).1 = (kn1 : Int) := hkn1
     refine runL_put 8 (I (kn1 : Int)) (congrArg I e1) ?_
     refine runL_put 41 (I (kn1 : Int)) (congrArg I e1) ?_
     refine runL_front 0 ?_
     refine runL_front 1 ?_
     refine runL_callL (Ls := [r1, [SgT 58 b1 0 [Sr ([]), Sr ([])]]]) (Lr := []) 44 (sins_EEnt G1 a1 c1 l r1 hr1 b1 (⟨[], []⟩ : EntD) (Nat.le_of_ble_eq_true rfl) (Nat.le_of_ble_eq_true rfl) kn1 (by first | omega | (have q_ := treeFind_le (l := l) (name := name) (by assumption); first | omega | (have q1_ := treeFind_bd (l := l) (name := name) (by assumption); omega) | (rw [insL_len (by omega)]; omega))) (by first | omega | (have q_ := treeFind_le (l := l) (name := name) (by assumption); first | omega | (have q1_ := treeFind_bd (l := l) (name := name) (by assumption); omega) | (rw [insL_len (by omega)]; omega)))) (fun v G2 L1 hl2 hp => ?_)
     obtain ⟨a2, c2, r2, rfl, hr2, rfl⟩ := hp
     refine runL_bn [0] [(11, Sl a2 ((insL l kn1 (⟨[], []⟩ : EntD)).length) c2)] (runL_nil (tq_then (tc_seq (tc_region ?_))))
     refine runL_bn [0,0,0,0,0] [(45, Sl a2 ((insL l kn1 (⟨[], []⟩ : EntD)).length) c2), (46, I (kn1 : Int)), (49, .agg #[Sr name, Sr value])] ?_
     obtain ⟨x1, hx1⟩ := getX (l := insL l kn1 (⟨[], []⟩ : EntD)) (k := kn1) (by first | omega | (have q_ := treeFind_le (l := l) (name := name) (by assumption); first | omega | (have q1_ := treeFind_bd (l := l) (name := name) (by assumption); omega) | (rw [insL_len (by omega)]; omega)))
     obtain ⟨b2, o1, fu1, _, ⟨rfl, w1, w2⟩, ha1, hre1, hc1⟩ := TRow.ix hr2 hx1
     refine runL_idxR (b := b2) (off := o1) (len := (insL l kn1 (⟨[], []⟩ : EntD)).length) (cap := c2) (ik := .i64) 50 58 2 kn1 ha1 (by first | omega | (have q_ := treeFind_le (l := l) (name := name) (by assumption); first | omega | (have q1_ := treeFind_bd (l := l) (name := name) (by assumption); omega) | (rw [insL_len (by omega)]; omega))) ?_
     refine runL_stR (b := b2) (off := o1) 0 hr2 kn1 (⟨name, value⟩ : EntD) ha1 (by first | omega | (have q_ := treeFind_le (l := l) (name := name) (by assumption); first | omega | (have q1_ := treeFind_bd (l := l) (name := name) (by assumption); omega) | (rw [insL_len (by omega)]; omega))) (.agg #[Sr name, Sr value]) [Sr name, Sr value] ⟨rfl, hw_name, hw_value⟩ (fun r3 hr3 => ?_)
     have e2 : (insL l kn1 (⟨[], []⟩ : EntD)).length = ((insL l kn1 (⟨[], []⟩ : EntD)).set kn1 (⟨name, value⟩ : EntD)).length := (List.length_set ..).symm
     refine runL_put 11 (Sl a2 (((insL l kn1 (⟨[], []⟩ : EntD)).set kn1 (⟨name, value⟩ : EntD)).length) c2) (congrArg (Sl a2 · c2) e2) ?_
     refine runL_nil (tq_then ?_)
     refine tc_rbn [0,0,0] [(6, Sl a2 (((insL l kn1 (⟨[], []⟩ : EntD)).set kn1 (⟨name, value⟩ : EntD)).length) c2), (7, I 0)] (tc_ret ?_)
     refine tq_front 0 ?_
     have hf3 : treeSet l name value = ((insL l kn1 (⟨[], []⟩ : EntD)).set kn1 (⟨name, value⟩ : EntD), 0) := by
      first | exact treeSet_a (by assumption) | exact treeSet_b (by assumption) (by assumption) | exact treeSet_c (by assumption) (by assumption) (by assumption) | exact treeSet_d (by assumption) (by assumption) (by assumption) (by assumption) | exact treeSet_f (by assumption) (by assumption) (by assumption) (by assumption) (by assumption) | (exfalso; omega)
     refine tq_ret [0, 0] [Sl a2 (((insL l kn1 (⟨[], []⟩ : EntD)).set kn1 (⟨name, value⟩ : EntD)).length) c2, I 0] (bp_rowsA [r3] (Mem.le_trans hl1 hl2) ?_)
     rw [hf3]
     try dsimp only
     exact ⟨a2, c2, r3, rfl, hr3, rfl⟩
    ·
     refine tc_skip (tq_then (tc_seq (tc_region ?_)))
     refine runL_bn [0,0,0,0,0] [(45, Sl a1 l.length c1), (46, I ((treeFind l name).1)), (49, .agg #[Sr name, Sr value])] ?_
     obtain ⟨kn2, hkn2⟩ : ∃ k_ : Nat, (treeFind l name).1 = (k_ : Int) := ⟨((treeFind l name).1).toNat, by first | omega | (have q_ := treeFind_le (l := l) (name := name) (by assumption); first | omega | (have q1_ := treeFind_bd (l := l) (name := name) (by assumption); omega) | (rw [insL_len (by omega)]; omega))⟩
     have e3 : (treeFind l name).1 = (kn2 : Int) := hkn2
     refine runL_put 46 (I (kn2 : Int)) (congrArg I e3) ?_
     obtain ⟨x2, hx2⟩ := getX (l := l) (k := kn2) (by first | omega | (have q_ := treeFind_le (l := l) (name := name) (by assumption); first | omega | (have q1_ := treeFind_bd (l := l) (name := name) (by assumption); omega) | (rw [insL_len (by omega)]; omega)))
     obtain ⟨b3, o2, fu2, _, ⟨rfl, w3, w4⟩, ha2, hre2, hc2⟩ := TRow.ix hr1 hx2
     refine runL_idxR (b := b3) (off := o2) (len := l.length) (cap := c1) (ik := .i64) 50 58 2 kn2 ha2 (by first | omega | (have q_ := treeFind_le (l := l) (name := name) (by assumption); first | omega | (have q1_ := treeFind_bd (l := l) (name := name) (by assumption); omega) | (rw [insL_len (by omega)]; omega))) ?_
     refine runL_stR (b := b3) (off := o2) 0 hr1 kn2 (⟨name, value⟩ : EntD) ha2 (by first | omega | (have q_ := treeFind_le (l := l) (name := name) (by assumption); first | omega | (have q1_ := treeFind_bd (l := l) (name := name) (by assumption); omega) | (rw [insL_len (by omega)]; omega))) (.agg #[Sr name, Sr value]) [Sr name, Sr value] ⟨rfl, hw_name, hw_value⟩ (fun r4 hr4 => ?_)
     have e4 : l.length = (l.set kn2 (⟨name, value⟩ : EntD)).length := (List.length_set ..).symm
     refine runL_put 11 (Sl a1 ((l.set kn2 (⟨name, value⟩ : EntD)).length) c1) (congrArg (Sl a1 · c1) e4) ?_
     refine runL_nil (tq_then ?_)
     refine tc_rbn [0,0,0] [(6, Sl a1 ((l.set kn2 (⟨name, value⟩ : EntD)).length) c1), (7, I 0)] (tc_ret ?_)
     refine tq_front 0 ?_
     have hf4 : treeSet l name value = (l.set kn2 (⟨name, value⟩ : EntD), 0) := by
      first | exact treeSet_a (by assumption) | exact treeSet_b (by assumption) (by assumption) | exact treeSet_c (by assumption) (by assumption) (by assumption) | exact treeSet_d (by assumption) (by assumption) (by assumption) (by assumption) | exact treeSet_f (by assumption) (by assumption) (by assumption) (by assumption) (by assumption) | (exfalso; omega)
     refine tq_ret [0, 0] [Sl a1 ((l.set kn2 (⟨name, value⟩ : EntD)).length) c1, I 0] (bp_rowsA [r4] hl1 ?_)
     rw [hf4]
     try dsimp only
     exact ⟨a1, c1, r4, rfl, hr4, rfl⟩
 ·
  refine tc_skip (tq_then (tc_seq (tc_block ?_)))
  refine tc_rbn [0,0,0] [(24, Bo (!decide ((treeFind l name).2.2 = 0)))] ?_
  refine tc_condP (!decide ((treeFind l name).2.2 = 0)) (fun h5 => ?_) (fun h5 => ?_)
  ·
   refine tc_rbn [0,0,0] [(6, Sl none 0 0), (7, I ((treeFind l name).2.2))] (tc_ret (tq_block_ret (tq_then_ret ?_)))
   refine tq_empty ?_
   refine tq_front 0 ?_
   have hf5 : treeSet l name value = ([], (treeFind l name).2.2) := by
    first | exact treeSet_a (by assumption) | exact treeSet_b (by assumption) (by assumption) | exact treeSet_c (by assumption) (by assumption) (by assumption) | exact treeSet_d (by assumption) (by assumption) (by assumption) (by assumption) | exact treeSet_f (by assumption) (by assumption) (by assumption) (by assumption) (by assumption) | (exfalso; omega)
   refine tq_ret [0, 0] [Sl none 0 0, I ((treeFind l name).2.2)] (bp_rowsA [[]] (Mem.le_refl _) ?_)
   rw [hf5]
   try dsimp only
   exact ⟨none, 0, ([]), rfl, (TRow.none EEnt _), rfl⟩
  ·
   refine tc_seq (tc_region ?_)
   refine runL_bn [0,0,0] [(31, Bo (!((treeFind l name).2.1)))] ?_
   refine runL_b2n (!((treeFind l name).2.1)) [31] [0,0,0,0] [1,1,1,0] (fun bb => [(35, Bo (bb && (decide ((l.length : Int) = 24))))]) ?_
   refine runL_bn [0] [(28, Bo ((!((treeFind l name).2.1)) && (decide ((l.length : Int) = 24))))] (runL_nil (tq_then ?_))
   refine tc_condP ((!((treeFind l name).2.1)) && (decide ((l.length : Int) = 24))) (fun h6 => ?_) (fun h6 => ?_)
   ·
    refine tc_rbn [0,0] [(6, Sl none 0 0), (7, I 7)] (tc_ret (tq_block_ret (tq_then_ret ?_)))
    refine tq_empty ?_
    refine tq_front 0 ?_
    have hf6 : treeSet l name value = ([], 7) := by
     first | exact treeSet_a (by assumption) | exact treeSet_b (by assumption) (by assumption) | exact treeSet_c (by assumption) (by assumption) (by assumption) | exact treeSet_d (by assumption) (by assumption) (by assumption) (by assumption) | exact treeSet_f (by assumption) (by assumption) (by assumption) (by assumption) (by assumption) | (exfalso; omega)
    refine tq_ret [0, 0] [Sl none 0 0, I 7] (bp_rowsA [[]] (Mem.le_refl _) ?_)
    rw [hf6]
    try dsimp only
    exact ⟨none, 0, ([]), rfl, (TRow.none EEnt _), rfl⟩
   ·
    refine tc_skip (tq_block (tq_then (tc_seq (tc_region ?_))))
    refine runL_bn [0] [(36, Sl a_l l.length c_l)] ?_
    refine runL_callR 37 (sclone_EEnt G a_l c_l l h_l) (fun v G3 L1 hl3 hp => ?_)
    obtain ⟨a3, c3, r5, rfl, hr5, rfl⟩ := hp
    refine runL_bn [0] [(11, Sl a3 l.length c3)] (runL_nil (tq_then (tc_seq ?_)))
    refine tc_rbn [0,0] [(39, Bo (!((treeFind l name).2.1)))] ?_
    refine tc_condP (!((treeFind l name).2.1)) (fun h7 => ?_) (fun h7 => ?_)
    ·
     refine tc_region ?_
     refine runL_bn [0,0,0] [(40, Sl a3 l.length c3), (41, I ((treeFind l name).1)), (42, .agg #[Sr ([]), Sr ([])])] ?_
     refine runL_bslT 43 1 #[Sr ([]), Sr ([])] 58 (fun b4 => ?_)
     obtain ⟨kn3, hkn3⟩ : ∃ k_ : Nat, (treeFind l name).1 = (k_ : Int) := ⟨((treeFind l name).1).toNat, by first | omega | (have q_ := treeFind_le (l := l) (name := name) (by assumption); first | omega | (have q1_ := treeFind_bd (l := l) (name := name) (by assumption); omega) | (rw [insL_len (by omega)]; omega))⟩
     have e5 : (treeFind l name).1 = (kn3 : Int) := hkn3
     refine runL_put 8 (I (kn3 : Int)) (congrArg I e5) ?_
     refine runL_put 41 (I (kn3 : Int)) (congrArg I e5) ?_
     refine runL_front 0 ?_
     refine runL_front 1 ?_
     refine runL_callL (Ls := [r5, [SgT 58 b4 0 [Sr ([]), Sr ([])]]]) (Lr := []) 44 (sins_EEnt G3 a3 c3 l r5 hr5 b4 (⟨[], []⟩ : EntD) (Nat.le_of_ble_eq_true rfl) (Nat.le_of_ble_eq_true rfl) kn3 (by first | omega | (have q_ := treeFind_le (l := l) (name := name) (by assumption); first | omega | (have q1_ := treeFind_bd (l := l) (name := name) (by assumption); omega) | (rw [insL_len (by omega)]; omega))) (by first | omega | (have q_ := treeFind_le (l := l) (name := name) (by assumption); first | omega | (have q1_ := treeFind_bd (l := l) (name := name) (by assumption); omega) | (rw [insL_len (by omega)]; omega)))) (fun v G4 L1 hl4 hp => ?_)
     obtain ⟨a4, c4, r6, rfl, hr6, rfl⟩ := hp
     refine runL_bn [0] [(11, Sl a4 ((insL l kn3 (⟨[], []⟩ : EntD)).length) c4)] (runL_nil (tq_then (tc_seq (tc_region ?_))))
     refine runL_bn [0,0,0,0,0] [(45, Sl a4 ((insL l kn3 (⟨[], []⟩ : EntD)).length) c4), (46, I (kn3 : Int)), (49, .agg #[Sr name, Sr value])] ?_
     obtain ⟨x3, hx3⟩ := getX (l := insL l kn3 (⟨[], []⟩ : EntD)) (k := kn3) (by first | omega | (have q_ := treeFind_le (l := l) (name := name) (by assumption); first | omega | (have q1_ := treeFind_bd (l := l) (name := name) (by assumption); omega) | (rw [insL_len (by omega)]; omega)))
     obtain ⟨b5, o3, fu3, _, ⟨rfl, w5, w6⟩, ha3, hre3, hc3⟩ := TRow.ix hr6 hx3
     refine runL_idxR (b := b5) (off := o3) (len := (insL l kn3 (⟨[], []⟩ : EntD)).length) (cap := c4) (ik := .i64) 50 58 2 kn3 ha3 (by first | omega | (have q_ := treeFind_le (l := l) (name := name) (by assumption); first | omega | (have q1_ := treeFind_bd (l := l) (name := name) (by assumption); omega) | (rw [insL_len (by omega)]; omega))) ?_
     refine runL_stR (b := b5) (off := o3) 0 hr6 kn3 (⟨name, value⟩ : EntD) ha3 (by first | omega | (have q_ := treeFind_le (l := l) (name := name) (by assumption); first | omega | (have q1_ := treeFind_bd (l := l) (name := name) (by assumption); omega) | (rw [insL_len (by omega)]; omega))) (.agg #[Sr name, Sr value]) [Sr name, Sr value] ⟨rfl, hw_name, hw_value⟩ (fun r7 hr7 => ?_)
     have e6 : (insL l kn3 (⟨[], []⟩ : EntD)).length = ((insL l kn3 (⟨[], []⟩ : EntD)).set kn3 (⟨name, value⟩ : EntD)).length := (List.length_set ..).symm
     refine runL_put 11 (Sl a4 (((insL l kn3 (⟨[], []⟩ : EntD)).set kn3 (⟨name, value⟩ : EntD)).length) c4) (congrArg (Sl a4 · c4) e6) ?_
     refine runL_nil (tq_then ?_)
     refine tc_rbn [0,0,0] [(6, Sl a4 (((insL l kn3 (⟨[], []⟩ : EntD)).set kn3 (⟨name, value⟩ : EntD)).length) c4), (7, I 0)] (tc_ret ?_)
     refine tq_front 0 ?_
     have hf7 : treeSet l name value = ((insL l kn3 (⟨[], []⟩ : EntD)).set kn3 (⟨name, value⟩ : EntD), 0) := by
      first | exact treeSet_a (by assumption) | exact treeSet_b (by assumption) (by assumption) | exact treeSet_c (by assumption) (by assumption) (by assumption) | exact treeSet_d (by assumption) (by assumption) (by assumption) (by assumption) | exact treeSet_f (by assumption) (by assumption) (by assumption) (by assumption) (by assumption) | (exfalso; omega)
     refine tq_ret [0, 0] [Sl a4 (((insL l kn3 (⟨[], []⟩ : EntD)).set kn3 (⟨name, value⟩ : EntD)).length) c4, I 0] (bp_rowsA [r7] (Mem.le_trans hl3 hl4) ?_)
     rw [hf7]
     try dsimp only
     exact ⟨a4, c4, r7, rfl, hr7, rfl⟩
    ·
     refine tc_skip (tq_then (tc_seq (tc_region ?_)))
     refine runL_bn [0,0,0,0,0] [(45, Sl a3 l.length c3), (46, I ((treeFind l name).1)), (49, .agg #[Sr name, Sr value])] ?_
     obtain ⟨kn4, hkn4⟩ : ∃ k_ : Nat, (treeFind l name).1 = (k_ : Int) := ⟨((treeFind l name).1).toNat, by first | omega | (have q_ := treeFind_le (l := l) (name := name) (by assumption); first | omega | (have q1_ := treeFind_bd (l := l) (name := name) (by assumption); omega) | (rw [insL_len (by omega)]; omega))⟩
     have e7 : (treeFind l name).1 = (kn4 : Int) := hkn4
     refine runL_put 46 (I (kn4 : Int)) (congrArg I e7) ?_
     obtain ⟨x4, hx4⟩ := getX (l := l) (k := kn4) (by first | omega | (have q_ := treeFind_le (l := l) (name := name) (by assumption); first | omega | (have q1_ := treeFind_bd (l := l) (name := name) (by assumption); omega) | (rw [insL_len (by omega)]; omega)))
     obtain ⟨b6, o4, fu4, _, ⟨rfl, w7, w8⟩, ha4, hre4, hc4⟩ := TRow.ix hr5 hx4
     refine runL_idxR (b := b6) (off := o4) (len := l.length) (cap := c3) (ik := .i64) 50 58 2 kn4 ha4 (by first | omega | (have q_ := treeFind_le (l := l) (name := name) (by assumption); first | omega | (have q1_ := treeFind_bd (l := l) (name := name) (by assumption); omega) | (rw [insL_len (by omega)]; omega))) ?_
     refine runL_stR (b := b6) (off := o4) 0 hr5 kn4 (⟨name, value⟩ : EntD) ha4 (by first | omega | (have q_ := treeFind_le (l := l) (name := name) (by assumption); first | omega | (have q1_ := treeFind_bd (l := l) (name := name) (by assumption); omega) | (rw [insL_len (by omega)]; omega))) (.agg #[Sr name, Sr value]) [Sr name, Sr value] ⟨rfl, hw_name, hw_value⟩ (fun r8 hr8 => ?_)
     have e8 : l.length = (l.set kn4 (⟨name, value⟩ : EntD)).length := (List.length_set ..).symm
     refine runL_put 11 (Sl a3 ((l.set kn4 (⟨name, value⟩ : EntD)).length) c3) (congrArg (Sl a3 · c3) e8) ?_
     refine runL_nil (tq_then ?_)
     refine tc_rbn [0,0,0] [(6, Sl a3 ((l.set kn4 (⟨name, value⟩ : EntD)).length) c3), (7, I 0)] (tc_ret ?_)
     refine tq_front 0 ?_
     have hf8 : treeSet l name value = (l.set kn4 (⟨name, value⟩ : EntD), 0) := by
      first | exact treeSet_a (by assumption) | exact treeSet_b (by assumption) (by assumption) | exact treeSet_c (by assumption) (by assumption) (by assumption) | exact treeSet_d (by assumption) (by assumption) (by assumption) (by assumption) | exact treeSet_f (by assumption) (by assumption) (by assumption) (by assumption) (by assumption) | (exfalso; omega)
     refine tq_ret [0, 0] [Sl a3 ((l.set kn4 (⟨name, value⟩ : EntD)).length) c3, I 0] (bp_rowsA [r8] hl3 ?_)
     rw [hf8]
     try dsimp only
     exact ⟨a3, c3, r8, rfl, hr8, rfl⟩
end Go.Proofs.YtpofnmobbbcpgaaGreatDoor
