import Derived.Test.YtpofnmobbbcpgaaDoorIns
namespace Go.Proofs.YtpofnmobbbcpgaaDoor
open Go.Tx
set_option linter.unusedVariables false
set_option linter.unusedSimpArgs false

theorem sorted_ext {R : EntD → EntD → Prop} (hi : ∀ x, ¬ R x x) (ha : ∀ x y, R x y → ¬ R y x) : ∀ (l m : List EntD), l.Pairwise R → m.Pairwise R → (∀ y, y ∈ l ↔ y ∈ m) → l = m
  | [], m, _, _, h => by
    cases m with
    | nil => rfl
    | cons y m => exact absurd ((h y).2 (List.mem_cons_self ..)) (List.not_mem_nil)
  | x :: l, [], _, _, h => absurd ((h x).1 (List.mem_cons_self ..)) (List.not_mem_nil)
  | x :: l, y :: m, h1, h2, h => by
    rw [List.pairwise_cons] at h1 h2
    have e : x = y := by
      rcases List.mem_cons.1 ((h x).1 (List.mem_cons_self ..)) with e | e
      · exact e
      rcases List.mem_cons.1 ((h y).2 (List.mem_cons_self ..)) with e' | e'
      · exact e'.symm
      · exact absurd (h1.1 _ e') (ha _ _ (h2.1 _ e))
    subst e
    congr 1
    refine sorted_ext hi ha l m h1.2 h2.2 fun z => ⟨fun hz => ?_, fun hz => ?_⟩
    · rcases List.mem_cons.1 ((h z).1 (List.mem_cons_of_mem _ hz)) with e | e
      · subst e; exact absurd (h1.1 _ hz) (hi _)
      · exact e
    · rcases List.mem_cons.1 ((h z).2 (List.mem_cons_of_mem _ hz)) with e | e
      · subst e; exact absurd (h2.1 _ hz) (hi _)
      · exact e
theorem TreeOk.pair {l : List EntD} (h : TreeOk l) : l.Pairwise fun x y => ordN x.name y.name < 0 := by
  rw [List.pairwise_iff_getElem]
  intro i j hi hj hij
  exact h.ord i j _ _ hij (List.getElem?_eq_getElem hi) (List.getElem?_eq_getElem hj)
theorem TreeOk.ext {l m : List EntD} (h1 : TreeOk l) (h2 : TreeOk m) (h : ∀ y, y ∈ l ↔ y ∈ m) : l = m := by
  refine sorted_ext (R := fun x y => ordN x.name y.name < 0) (fun x hx => ?_) (fun x y hx hy => ?_) l m h1.pair h2.pair h
  · have := ordN_zero.2 (rfl : x.name = x.name); omega
  · have := ordN_trans hx hy; have := ordN_zero.2 (rfl : x.name = x.name); omega
theorem treeOk_sub {l m : List EntD} (h : TreeOk l) (hs : m.Sublist l) : TreeOk m := by
  have hp := h.pair.sublist hs
  rw [List.pairwise_iff_getElem] at hp
  refine ⟨by have := hs.length_le; have := h.len; omega, fun x hx => h.ok x (hs.subset hx), fun i j x y hij hx hy => ?_⟩
  obtain ⟨hi, rfl⟩ := List.getElem?_eq_some_iff.1 hx
  obtain ⟨hj, rfl⟩ := List.getElem?_eq_some_iff.1 hy
  exact hp i j hi hj hij
theorem treeOk_uni {l : List EntD} (h : TreeOk l) {p q : Nat} {x y : EntD} (hx : l[p]? = some x) (hy : l[q]? = some y) (e : x.name = y.name) : p = q := by
  rcases Nat.lt_trichotomy p q with hc | hc | hc
  · have := h.ord p q x y hc hx hy; rw [ordN_zero.2 e] at this; omega
  · exact hc
  · have := h.ord q p y x hc hy hx; rw [ordN_zero.2 e.symm] at this; omega
def treeDrop (l : List EntD) (name : List UInt8) : List EntD × Int := if ¬ (treeFind l name).2.2 = 0 then ([], (treeFind l name).2.2) else if (treeFind l name).2.1 = false then ([], 5) else (l.take (treeFind l name).1.toNat ++ l.drop ((treeFind l name).1.toNat + 1), 0)
theorem treeDrop_in {l : List EntD} {name : List UInt8} (h : TreeOk l) (hp : pathName name = true) (hx : ∃ x ∈ l, x.name = name) : (treeDrop l name).2 = 0 ∧ TreeOk (treeDrop l name).1 ∧ ∀ y, y ∈ (treeDrop l name).1 ↔ y ∈ l ∧ y.name ≠ name := by
  have hb := (bsF_is h name).2 hx
  have hf : treeFind l name = ((bsF l name entOrd).1, true, 0) := by
    unfold treeFind
    rw [if_neg (fun hc => hc (treeCheck_iff.2 h)), if_neg (by rw [hp]; simp), hb]
  obtain ⟨x, hk, hxn⟩ := bsF_at hb
  have hi : (treeFind l name).1.toNat = bsI (fun x => entOrd x name) l := by rw [hf]; unfold bsF; simp
  have hval : treeDrop l name = (l.take (treeFind l name).1.toNat ++ l.drop ((treeFind l name).1.toNat + 1), 0) := by
    unfold treeDrop; rw [if_neg (by rw [hf]; simp), if_neg (by rw [hf]; simp)]
  rw [hval, hi]
  generalize bsI (fun x => entOrd x name) l = k at *
  have hkl := (List.getElem?_eq_some_iff.1 hk).1
  have hsub : (l.take k ++ l.drop (k + 1)).Sublist l := by
    conv => rhs; rw [← List.take_append_drop k l]
    exact List.Sublist.append (List.Sublist.refl _) (by rw [← List.drop_drop]; exact List.drop_sublist _ _)
  refine ⟨rfl, treeOk_sub h hsub, fun y => ?_⟩
  simp only
  constructor
  · intro hy
    refine ⟨hsub.subset hy, fun e => ?_⟩
    rcases List.mem_append.1 hy with hy | hy
    · obtain ⟨p, hpy⟩ := List.getElem?_of_mem hy
      rw [List.getElem?_take] at hpy
      split at hpy
      · have := treeOk_uni h hpy hk (e.trans hxn.symm); omega
      · cases hpy
    · obtain ⟨p, hpy⟩ := List.getElem?_of_mem hy
      rw [List.getElem?_drop] at hpy
      have := treeOk_uni h hpy hk (e.trans hxn.symm); omega
  · rintro ⟨hy, hne⟩
    obtain ⟨p, hpy⟩ := List.getElem?_of_mem hy
    rcases Nat.lt_trichotomy p k with hc | hc | hc
    · exact List.mem_append.2 (.inl (List.mem_of_getElem? (i := p) (by rw [List.getElem?_take, if_pos hc]; exact hpy)))
    · subst hc; rw [hk] at hpy; exact absurd (Option.some.inj hpy ▸ hxn) hne
    · exact List.mem_append.2 (.inr (List.mem_of_getElem? (i := p - (k + 1)) (by rw [List.getElem?_drop, show k + 1 + (p - (k + 1)) = p by omega]; exact hpy)))
theorem treeDrop_no {l : List EntD} {name : List UInt8} (h : TreeOk l) (hp : pathName name = true) (hx : ¬ ∃ x ∈ l, x.name = name) : treeDrop l name = ([], 5) := by
  have hb : (bsF l name entOrd).2 = false := by
    cases e : (bsF l name entOrd).2 with
    | false => rfl
    | true => exact absurd ((bsF_is h name).1 e) hx
  have hf : treeFind l name = ((bsF l name entOrd).1, false, 0) := by
    unfold treeFind
    rw [if_neg (fun hc => hc (treeCheck_iff.2 h)), if_neg (by rw [hp]; simp), hb]
  unfold treeDrop; rw [if_neg (by rw [hf]; simp), if_pos (by rw [hf])]
theorem treeDrop_len (l : List EntD) (name : List UInt8) : (treeDrop l name).1.length ≤ 24 := by
  unfold treeDrop
  split
  · simp
  split
  · simp
  · rename_i h _
    have h1 := (treeFind_le (Decidable.not_not.1 h)).2.2
    simp; omega
theorem treeBack_law {l : List EntD} {name value : List UInt8} (h : (treeSet l name value).2 = 0) : (treeDrop (treeSet l name value).1 name).2 = 0 ∧ treeCheck (treeDrop (treeSet l name value).1 name).1 = 0 ∧
    (((treeDrop l name).2 = 5 ∧ (treeDrop (treeSet l name value).1 name).1 = l) ∨ ((treeDrop l name).2 = 0 ∧ (treeDrop (treeSet l name value).1 name).1 = (treeDrop l name).1)) := by
  obtain ⟨h1, h2, h3, h4⟩ := treeSet_ok h
  obtain ⟨a1, a2, a3⟩ := treeDrop_in h3 h2 ⟨⟨name, value⟩, (h4 _).2 (.inl rfl), rfl⟩
  have key : ∀ y, y ∈ (treeDrop (treeSet l name value).1 name).1 ↔ y ∈ l ∧ y.name ≠ name := by
    intro y
    rw [a3, h4]
    constructor
    · rintro ⟨rfl | hy, hn⟩
      · exact absurd rfl hn
      · exact hy
    · intro hy; exact ⟨.inr hy, hy.2⟩
  refine ⟨a1, treeCheck_iff.2 a2, ?_⟩
  by_cases hx : ∃ x ∈ l, x.name = name
  · obtain ⟨b1, b2, b3⟩ := treeDrop_in h1 h2 hx
    exact .inr ⟨b1, a2.ext b2 fun y => (key y).trans (b3 y).symm⟩
  · refine .inl ⟨by rw [treeDrop_no h1 h2 hx], a2.ext h1 fun y => (key y).trans ⟨fun hy => hy.1, fun hy => ⟨hy, fun e => hx ⟨y, hy, e⟩⟩⟩⟩

set_option maxRecDepth 4000 in
theorem sdel_EEnt (G : Mem) (a : Option Addr) (c : Nat) (l : List EntD) (r : List Seg) (hr : TRow EEnt G a c l r) (i j : Nat) (hij : i ≤ j) (hj : j ≤ l.length) : ConL Tryd.prog 14 #[Sl a l.length c, I (i : Int), I (j : Int)] G [r] (fun u G' L' => ∃ a' c' r', u = Sl a' (l.take i ++ l.drop j).length c' ∧ TRow EEnt G' a' c' (l.take i ++ l.drop j) r' ∧ L' = [r']) := by
  intro Lr
  have hlc := TRow.lec hr
  have hcm := TRow.mx hr
  refine con_of Tryd.func14 33 [(0, Sl a l.length c), (1, I ((i : Int))), (2, I ((j : Int)))] rfl (fun w0 G0 => ?_)
  show TC _ _ _ _ _ (r :: Lr)
  refine tc_rbn [0] [] ?_
  refine tc_seq ?_
  refine tc_region ?_
  refine runL_bn [0,0,0,0,0] [(8, Sl a l.length c), (9, I ((i : Int))), (10, I ((j : Int))), (12, I (((l.length : Nat) : Int)))] ?_
  refine runL_sl3U (k1 := .i64) (k2 := .i64) (k3 := .i64) (a := a) (len := l.length) (cap := c) 13 2 i j l.length hij hj hlc (fun a9 => ?_)
  refine runL_nil ?_
  refine tq_then ?_
  refine tc_seq ?_
  refine tc_rbn [0,0,0] [(16, Bo (decide ((i : Int) = (j : Int))))] ?_
  refine tc_condP (decide ((i : Int) = (j : Int))) (fun h1 => ?_) (fun h1 => ?_)
  ·
    refine tc_rbn [0,0] [(6, Sl a l.length c)] ?_
    refine tc_ret ?_
    refine tq_then_ret ?_
    have e_ : l = (l.take i ++ l.drop j) := by have q_ : i = j := (by omega); subst q_; exact (List.take_append_drop _ _).symm
    have en_ : l.length = (l.take i ++ l.drop j).length := congrArg List.length e_
    refine tq_ret [0] [Sl a l.length c] (bp_ownA (Lr := Lr) [r] (Mem.le_refl _) ?_)
    exact ⟨_, _, _, congrArg (fun n => Sl a n c) en_, (e_ ▸ hr), rfl⟩
  ·
    refine tc_skip ?_
    refine tq_then ?_
    refine tc_rbn [0,0,0] [(7, I (((l.length : Nat) : Int)))] ?_
    obtain ⟨b, off, css, spare, rfl, rfl, hc1, hc2, hc3, hsp, _, hmax, hone⟩ := TRow.opened hr (by omega)
    refine tc_seq ?_
    refine tc_draw [6] ?_
    refine dr_V [(0, Sl (At b off) l.length c), (1, I ((i : Int))), (2, Sl (At b off) ((l.take i).length) c), (3, Sl (At b off) l.length c), (4, I ((j : Int))), (5, Sl ((if c = j then At b off else At b (off + j * 2))) ((l.drop j).length) (c - j))] ?_
    refine dr_mid [] [(0,0), (1,0), (3,0), (4,0)] [2, 5] [6] (fmc ?_ (fmc ?_ fm0)) (fmc ?_ fm0)
    · refine stab_of 2 22 (Sl (At b off) ((l.take i).length) c) [(20, Sl (At b off) l.length c), (21, I ((i : Int)))] (fun X => ?_)
      exact runL_reslE (a := At b off) (a' := At b off) (len := l.length) (cap := c) (c' := c) (n := (l.take i).length) 22 2 none (some (I (i : Int))) 0 i (.inl ⟨rfl, rfl⟩) (.inr ⟨_, rfl⟩) (Nat.zero_le _) (by split <;> simp [addr_add]) (Nat.sub_zero _).symm (by rw [List.length_take]; omega) (by omega) stab_end
    · refine stab_of 5 25 (Sl ((if c = j then At b off else At b (off + j * 2))) ((l.drop j).length) (c - j)) [(23, Sl (At b off) l.length c), (24, I ((j : Int)))] (fun X => ?_)
      exact runL_reslE (a := At b off) (a' := (if c = j then At b off else At b (off + j * 2))) (len := l.length) (cap := c) (c' := c - j) (n := (l.drop j).length) 25 2 (some (I (j : Int))) none j l.length (.inr ⟨_, rfl⟩) (.inl ⟨rfl, rfl⟩) hj (by split <;> simp [addr_add]) rfl List.length_drop (by omega) stab_end
    refine act_of 6 [(22, Sl (At b off) ((l.take i).length) c), (25, Sl ((if c = j then At b off else At b (off + j * 2))) ((l.drop j).length) (c - j))] (fun X => ?_)
    refine runL_appS2 (capx := c - j) (ax := (if c = j then At b off else At b (off + j * 2))) 26 26 0 (TRow.tk hr i (by omega)) (css.drop j) (by rw [List.length_drop, List.length_drop, hc1]) (fun k y hy => by rw [List.getElem?_drop] at hy ⊢; exact hc2 _ _ hy) (fun h0 => ⟨b, off + j * 2, by rw [List.length_drop] at h0; rw [if_neg (by omega)], .inr ⟨0, off, (css.flatten ++ spare), j * 2, rfl, rfl, css_src (sz := 2) hc3 (by omega)⟩⟩) (by rw [List.length_take, List.length_drop]; omega) (fun r9 hr9 => ?_)
    refine act_endN [(6, Sl (At b off) ((l.take i).length + (l.drop j).length) c), (7, Sl (At b off) ((l.take i).length + (l.drop j).length) c)] ?_
    refine dr_end [0, 1, 2, 3, 4, 5] [(7,0)] [] [(0, Sl (At b off) ((l.take i).length + (l.drop j).length) c), (7, I (((l.length : Nat) : Int)))] (List.forall_mem_nil _) ?_
    refine tq_then ?_
    have hln : (l.take i).length + (l.drop j).length = l.length - (j - i) := by rw [List.length_take, List.length_drop]; omega
    refine tc_seq ?_
    refine tc_region ?_
    refine runL_bn [0,0,0,0] [(27, Sl (At b off) ((l.take i).length + (l.drop j).length) c), (29, I ((((l.take i).length + (l.drop j).length : Nat) : Int))), (30, I (((l.length : Nat) : Int)))] ?_
    refine runL_reslE (a := At b off) (a' := At b (off + (l.take i ++ l.drop j).length * 2)) (len := (l.take i).length + (l.drop j).length) (cap := c) (c' := c - (l.take i ++ l.drop j).length) (n := l.length - (l.take i ++ l.drop j).length) 31 2 (some (I (((l.take i).length + (l.drop j).length : Nat) : Int))) (some (I (l.length : Int))) ((l.take i).length + (l.drop j).length) l.length (.inr ⟨_, rfl⟩) (.inr ⟨_, rfl⟩) (by omega) (by rw [if_neg (by omega), List.length_append]; simp [addr_add]) (by rw [List.length_append]) (by rw [List.length_append]) (by omega) ?_
    refine runL_clr (b := b) (off := off) (m := l.length - (l.take i ++ l.drop j).length) (c' := c - (l.take i ++ l.drop j).length) 0 hr9 rfl (by rw [List.length_append]; omega) (by rw [List.length_append]; omega) (fun r8 hr8 => ?_)
    refine runL_nil ?_
    refine tq_then ?_
    refine tc_rbn [0,0] [(6, Sl (At b off) ((l.take i).length + (l.drop j).length) c)] ?_
    refine tc_ret ?_
    have en_ : (l.take i).length + (l.drop j).length = (l.take i ++ l.drop j).length := List.length_append.symm
    refine tq_ret [0] [Sl (At b off) ((l.take i).length + (l.drop j).length) c] (bp_ownA (Lr := Lr) [r8] (Mem.le_refl _) ?_)
    exact ⟨_, _, _, congrArg (fun n => Sl (At b off) n c) en_, hr8, rfl⟩

theorem treeDrop_con (G : Mem) (a_l : Option Addr) (c_l : Nat) (l : List EntD) (h_l : RS EEnt G a_l c_l l) (name : List UInt8) (hw_name : (name).length ≤ 140737488351232)  : ConP 7 #[Sl a_l l.length c_l, Sr name] G [] (fun u G' L' => ∃ (a1 : Option Addr) (c2 : Nat) (r3 : List Seg), u = .tuple #[Sl a1 (((treeDrop l name).1).length) c2, I ((treeDrop l name).2)] ∧ (TRow EEnt G' a1 c2 ((treeDrop l name).1) r3) ∧ L' = [r3]) := by
  refine con_of Tryd.func7 29 [(0, Sl a_l l.length c_l), (1, Sr name)] rfl (fun w0 G0 => ?_)
  refine tc_rbn [0,0] [] ?_
  refine tc_seq ?_
  refine tc_region ?_
  refine runL_bn [0,0] [(10, Sl a_l l.length c_l), (11, Sr name)] ?_
  refine runL_callV 12 (.tuple #[I ((treeFind l name).1), Bo ((treeFind l name).2.1), I ((treeFind l name).2.2)]) (treeFind_con G a_l c_l l h_l name hw_name) ?_
  refine runL_bn [0,0,0,0,0,0,0] [(6, I ((treeFind l name).1)), (7, Bo ((treeFind l name).2.1)), (8, I ((treeFind l name).2.2))] ?_
  refine runL_nil ?_
  refine tq_then ?_
  refine tc_seq ?_
  refine tc_block ?_
  refine tc_rbn [0,0,0] [(16, Bo (!decide ((treeFind l name).2.2 = 0)))] ?_
  refine tc_condP (!decide ((treeFind l name).2.2 = 0)) (fun h1 => ?_) (fun h1 => ?_)
  ·
    refine tc_rbn [0,0,0] [(4, Sl none 0 0), (5, I ((treeFind l name).2.2))] ?_
    refine tc_ret ?_
    refine tq_block_ret ?_
    refine tq_then_ret ?_
    refine tq_empty ?_
    refine tq_front 0 ?_
    have hf1 : treeDrop l name = ([], (treeFind l name).2.2) := by
      unfold treeDrop; first | (rw [if_pos (by assumption)]; done) | (rw [if_neg (by omega)]; first | (rw [if_pos (by assumption)]; done) | (rw [if_neg (by simp_all), show (treeFind l name).1.toNat = kn1 by omega, show kn2 = kn1 + 1 by omega]; done))
    refine tq_ret [0, 0] [Sl none 0 0, I ((treeFind l name).2.2)] (bp_rowsA [[]] (Mem.le_refl _) ?_)
    rw [hf1]
    try dsimp only
    exact ⟨none, 0, ([]), rfl, (TRow.none EEnt _), rfl⟩
  ·
    refine tc_rbn [0,0,0] [(20, Bo (!((treeFind l name).2.1)))] ?_
    refine tc_condP (!((treeFind l name).2.1)) (fun h2 => ?_) (fun h2 => ?_)
    ·
      refine tc_rbn [0,0] [(4, Sl none 0 0), (5, I 5)] ?_
      refine tc_ret ?_
      refine tq_block_ret ?_
      refine tq_then_ret ?_
      refine tq_empty ?_
      refine tq_front 0 ?_
      have hf2 : treeDrop l name = ([], 5) := by
        unfold treeDrop; first | (rw [if_pos (by assumption)]; done) | (rw [if_neg (by omega)]; first | (rw [if_pos (by assumption)]; done) | (rw [if_neg (by simp_all), show (treeFind l name).1.toNat = kn1 by omega, show kn2 = kn1 + 1 by omega]; done))
      refine tq_ret [0, 0] [Sl none 0 0, I 5] (bp_rowsA [[]] (Mem.le_refl _) ?_)
      rw [hf2]
      try dsimp only
      exact ⟨none, 0, ([]), rfl, (TRow.none EEnt _), rfl⟩
    ·
      refine tc_skip ?_
      refine tq_block ?_
      refine tq_then ?_
      refine tc_seq ?_
      refine tc_region ?_
      refine runL_bn [0] [(23, Sl a_l l.length c_l)] ?_
      refine runL_callR 24 (sclone_EEnt G a_l c_l l h_l) (fun v G1 L1 hl1 hp => ?_)
      obtain ⟨a1, c1, r1, rfl, hr1, rfl⟩ := hp
      refine runL_bn [0,0,0] [(25, I ((treeFind l name).1)), (27, I (IntKind.i64.wrap (((treeFind l name).1) + 1)))] ?_
      refine runL_wi64 27 (((treeFind l name).1) + 1) (by first | omega | (have q_ := treeFind_bd (l := l) (name := name) (by assumption); omega) | (have q_ := treeFind_le (l := l) (name := name) (by assumption); omega)) ?_
      obtain ⟨kn1, hkn1⟩ : ∃ k_ : Nat, (treeFind l name).1 = (k_ : Int) := ⟨((treeFind l name).1).toNat, by first | omega | (have q_ := treeFind_bd (l := l) (name := name) (by assumption); omega) | (have q_ := treeFind_le (l := l) (name := name) (by assumption); omega)⟩
      have e1 : (treeFind l name).1 = (kn1 : Int) := hkn1
      refine runL_put 25 (I ((kn1 : Int))) (congrArg I e1) ?_
      obtain ⟨kn2, hkn2⟩ : ∃ k_ : Nat, ((treeFind l name).1) + 1 = (k_ : Int) := ⟨(((treeFind l name).1) + 1).toNat, by first | omega | (have q_ := treeFind_bd (l := l) (name := name) (by assumption); omega) | (have q_ := treeFind_le (l := l) (name := name) (by assumption); omega)⟩
      have e2 : ((treeFind l name).1) + 1 = (kn2 : Int) := hkn2
      refine runL_put 27 (I ((kn2 : Int))) (congrArg I e2) ?_
      refine runL_front 0 ?_
      refine runL_callL (Ls := [r1]) (Lr := []) 28 (sdel_EEnt G1 a1 c1 l r1 hr1 kn1 kn2 (by omega) (by first | omega | (have q_ := treeFind_bd (l := l) (name := name) (by assumption); omega) | (have q_ := treeFind_le (l := l) (name := name) (by assumption); omega))) (fun v G2 L1 hl2 hp => ?_)
      obtain ⟨a2, c2, r2, rfl, hr2, rfl⟩ := hp
      refine runL_bn [0,0] [(4, Sl a2 ((l.take kn1 ++ l.drop kn2).length) c2), (5, I 0)] ?_
      refine runL_nil ?_
      refine tq_then ?_
      refine tc_ret ?_
      refine tq_front 0 ?_
      have hf3 : treeDrop l name = (l.take kn1 ++ l.drop kn2, 0) := by
        unfold treeDrop; first | (rw [if_pos (by assumption)]; done) | (rw [if_neg (by omega)]; first | (rw [if_pos (by assumption)]; done) | (rw [if_neg (by simp_all), show (treeFind l name).1.toNat = kn1 by omega, show kn2 = kn1 + 1 by omega]; done))
      refine tq_ret [0, 0] [Sl a2 ((l.take kn1 ++ l.drop kn2).length) c2, I 0] (bp_rowsA [r2] (Mem.le_trans hl1 hl2) ?_)
      rw [hf3]
      try dsimp only
      exact ⟨a2, c2, r2, rfl, hr2, rfl⟩
end Go.Proofs.YtpofnmobbbcpgaaDoor
