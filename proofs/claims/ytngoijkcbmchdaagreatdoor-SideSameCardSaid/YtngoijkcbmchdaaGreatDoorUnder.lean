import Derived.Test.YtngoijkcbmchdaaGreatDoorIns
import Derived.Test.YtngoijkcbmchdaaGreatDoorBit
import Derived.Test.YtngoijkcbmchdaaGreatDoorLeaf
namespace Go.Proofs.YtngoijkcbmchdaaGreatDoor
open Go.Tx
set_option linter.unusedVariables false
set_option linter.unusedSimpArgs false

theorem filt_step {l xo : List EntD} {p : EntD → Bool} {i j : Nat} {x : EntD} (h1 : xo.take i = (l.take j).filter (fun y => !p y)) (hx : l[j]? = some x) (hp : p x = true) : xo.take i = (l.take (j + 1)).filter (fun y => !p y) := by
  rw [List.take_add_one, hx, List.filter_append, ← h1]; simp [hp]
theorem filt_put {l xo : List EntD} {p : EntD → Bool} {i j : Nat} {x : EntD} (h1 : xo.take i = (l.take j).filter (fun y => !p y)) (hx : l[j]? = some x) (hp : p x = false) (hi : i < xo.length) : (xo.set i x).take (i + 1) = (l.take (j + 1)).filter (fun y => !p y) := by
  have e : l.take (j + 1) = l.take j ++ [x] := by rw [List.take_add_one, hx]; rfl
  rw [e, List.filter_append, ← h1, List.take_add_one, List.getElem?_set_self hi, List.take_set_of_le (Nat.le_refl _)]; simp [hp]
theorem drop_put {l xo : List EntD} {i j : Nat} {x : EntD} (h : xo.drop j = l.drop j) (hij : i < j) : (xo.set i x).drop (j + 1) = l.drop (j + 1) := by
  rw [List.drop_set_of_lt (by omega), ← List.drop_drop, h, List.drop_drop]
theorem drop_next {l xo : List EntD} {j : Nat} (h : xo.drop j = l.drop j) : xo.drop (j + 1) = l.drop (j + 1) := by
  rw [← List.drop_drop, h, List.drop_drop]
theorem drop_get {l xo : List EntD} {j : Nat} {x : EntD} (h : xo.drop j = l.drop j) (hx : xo[j]? = some x) : l[j]? = some x := by
  have := congrArg (fun z => z[0]?) h
  simp only [List.getElem?_drop, Nat.add_zero] at this
  rw [← this]; exact hx
theorem idx_first {l : List EntD} {p : EntD → Bool} {k : Nat} (h : idxF p l = (k : Int)) : l.take k = (l.take (k + 1)).filter (fun y => !p y) := by
  unfold idxF at h
  cases hh : l.findIdx? p with
  | none => rw [hh] at h; simp at h
  | some m =>
    rw [hh] at h
    have : m = k := by simp at h; omega
    subst this
    rw [List.findIdx?_eq_some_iff_getElem] at hh
    obtain ⟨h1, h2, h3⟩ := hh
    rw [List.take_add_one, List.getElem?_eq_getElem h1, List.filter_append]
    have e1 : (l.take m).filter (fun y => !p y) = l.take m := by
      rw [List.filter_eq_self]
      intro y hy
      obtain ⟨n, hn⟩ := List.getElem?_of_mem hy
      rw [List.getElem?_take] at hn
      split at hn
      · rename_i hlt
        have := h3 n hlt
        obtain ⟨hn', e⟩ := List.getElem?_eq_some_iff.1 hn
        rw [e] at this; simpa using this
      · cases hn
    rw [e1]; simp [h2]
theorem idx_none {l : List EntD} {p : EntD → Bool} (h : idxF p l = -1) : l = l.filter (fun y => !p y) := by
  unfold idxF at h
  cases hh : l.findIdx? p with
  | some m => rw [hh] at h; simp at h
  | none =>
    rw [List.findIdx?_eq_none_iff] at hh
    symm
    rw [List.filter_eq_self]
    intro y hy; simpa using hh y hy
theorem idxF_bd (p : EntD → Bool) (l : List EntD) : -1 ≤ idxF p l ∧ idxF p l ≤ l.length ∧ (0 ≤ idxF p l → idxF p l < l.length) := by
  by_cases h : idxF p l < 0
  · refine ⟨?_, by omega, by omega⟩
    unfold idxF; split <;> omega
  · obtain ⟨k, hk⟩ : ∃ k : Nat, idxF p l = k := ⟨_, (Int.toNat_of_nonneg (by omega)).symm⟩
    obtain ⟨x, hx, _⟩ := idxF_ge hk
    have := (List.getElem?_eq_some_iff.1 hx).1
    omega
def under1 (x : EntD) (q : List UInt8) : Bool := !decide (q <+: way x.name)
def treeUnder (l : List EntD) (q : List UInt8) : List EntD := l.filter fun x => !under1 x q
theorem treeUnder_le (l : List EntD) (q : List UInt8) : (treeUnder l q).length ≤ l.length := List.length_filter_le ..
def noneM : Int := markOf (treeSaid [])
def atG : Nat → List EntD → List UInt8 → Int
  | 0, l, _ => markOf (treeSaid l)
  | n + 1, l, q => if l.length = 0 then markOf (treeSaid l) else if atG n (treeUnder l (q ++ [48])) (q ++ [48]) = noneM ∧ atG n (treeUnder l (q ++ [49])) (q ++ [49]) = noneM then noneM else markOf (markSaid 2 (atG n (treeUnder l (q ++ [48])) (q ++ [48])) (atG n (treeUnder l (q ++ [49])) (q ++ [49])))
def treeAt (l : List EntD) (q : List UInt8) : Int := atG (16 - q.length) l q
theorem treeAt_leaf {l : List EntD} {q : List UInt8} (h : (l.length : Int) = 0 ∨ (q.length : Int) = 16) : treeAt l q = markOf (treeSaid l) := by
  unfold treeAt
  rcases h with h | h
  · cases hn : 16 - q.length with
    | zero => rfl
    | succ n => rw [atG, if_pos (by omega)]
  · rw [show 16 - q.length = 0 by omega]; rfl
theorem treeAt_fork {l : List EntD} {q : List UInt8} (h1 : ¬ (l.length : Int) = 0) (h2 : q.length < 16) : treeAt l q = if treeAt (treeUnder l (q ++ [48])) (q ++ [48]) = noneM ∧ treeAt (treeUnder l (q ++ [49])) (q ++ [49]) = noneM then noneM else markOf (markSaid 2 (treeAt (treeUnder l (q ++ [48])) (q ++ [48])) (treeAt (treeUnder l (q ++ [49])) (q ++ [49]))) := by
  have e : 16 - q.length = (16 - (q ++ [48]).length) + 1 := by simp; omega
  have e2 : 16 - (q ++ [49]).length = 16 - (q ++ [48]).length := by simp
  conv => lhs; unfold treeAt; rw [e, atG, if_neg (by omega)]
  unfold treeAt; rw [e2]
theorem treeAt_bd (l : List EntD) (q : List UInt8) : 0 ≤ treeAt l q ∧ treeAt l q < 18446744073709551616 := by
  unfold treeAt
  generalize 16 - q.length = n
  cases n with
  | zero => exact (by have := markOf_bd (treeSaid l); unfold atG; omega)
  | succ n =>
    rw [atG]
    have h1 := markOf_bd (treeSaid l); have h2 := markOf_bd (treeSaid []); have h3 := fun a b => markOf_bd (markSaid 2 a b)
    split
    · omega
    split
    · unfold noneM; omega
    · have := h3 (atG n (treeUnder l (q ++ [48])) (q ++ [48])) (atG n (treeUnder l (q ++ [49])) (q ++ [49])); omega
def treeAtE (l : List EntD) (q : List UInt8) : Int × Int := if ¬ treeCheck l = 0 then (0, treeCheck l) else if (q.length : Int) > 16 ∨ ¬ trimS q = [] then (0, 3) else (treeAt (treeUnder l q) q, 0)
theorem treeAtE_bd (l : List EntD) (q : List UInt8) : 0 ≤ (treeAtE l q).1 ∧ (treeAtE l q).1 < 18446744073709551616 := by
  unfold treeAtE; split
  · simp
  split
  · simp
  · exact treeAt_bd _ _

set_option maxRecDepth 4000 in
theorem sdelf_EEnt (G : Mem) (a : Option Addr) (c : Nat) (l : List EntD) (r : List Seg) (hr : TRow EEnt G a c l r) (hsm : l.length ≤ 1000) (k_f : FuncId) (caps_f : Array Value) (p_f : EntD → Bool) (hk_f : isFn Tryz.prog k_f) (h_f : ∀ (vs0 : List Value) (x0 : EntD) (hx0 : EEnt.R G vs0 x0), Con Tryz.prog k_f (#[.agg vs0.toArray] ++ caps_f) G [] (fun u _ _ => u = Bo (p_f x0))) : ConL Tryz.prog 66 #[Sl a l.length c, .func (.func k_f) #[] caps_f] G [r] (fun u G' L' => ∃ a' c' r', u = Sl a' (l.filter fun y => !p_f y).length c' ∧ TRow EEnt G' a' c' (l.filter fun y => !p_f y) r' ∧ L' = [r']) := by
  intro Lr
  have hlc := TRow.lec hr
  have hcm := TRow.mx hr
  refine con_of Tryz.func66 42 [(0, Sl a l.length c), (1, Fv k_f caps_f)] rfl (fun w0 G0 => ?_)
  show TC _ _ _ _ _ (r :: Lr)
  refine tc_rbn [0] [] ?_
  refine tc_seq ?_
  refine tc_region ?_
  refine runL_bn [0,0] [(8, Sl a l.length c), (9, Fv k_f caps_f)] ?_
  refine runL_callVr (E := EEnt) 10 0 hr (by simp only [EEnt]; omega) (I (idxF p_f l)) (fun G9 hle9 hs9 => sidxF_EEnt G9 a c l hs9 k_f caps_f p_f hk_f (fun vs0 x0 hx0 => Con.up hle9 (h_f vs0 x0 hx0))) ?_
  refine runL_bn [0] [(5, I (idxF p_f l))] ?_
  refine runL_nil ?_
  refine tq_then ?_
  refine tc_seq ?_
  refine tc_rbn [0,0] [(12, Bo (decide (idxF p_f l = (-1))))] ?_
  refine tc_condP (decide (idxF p_f l = (-1))) (fun h1 => ?_) (fun h1 => ?_)
  ·
    refine tc_rbn [0,0] [(4, Sl a l.length c)] ?_
    refine tc_ret ?_
    refine tq_then_ret ?_
    have e_ : l = (l.filter fun y => !p_f y) := idx_none (by omega)
    have en_ : l.length = (l.filter fun y => !p_f y).length := congrArg List.length e_
    refine tq_ret [0] [Sl a l.length c] (bp_ownA (Lr := Lr) [r] (Mem.le_refl _) ?_)
    exact ⟨_, _, _, congrArg (fun n => Sl a n c) en_, (e_ ▸ hr), rfl⟩
  ·
    refine tc_skip ?_
    refine tq_then ?_
    refine tc_seq ?_
    have hib_ := idxF_bd p_f l
    obtain ⟨kn1, hkn1⟩ : ∃ k_ : Nat, idxF p_f l = (k_ : Int) := ⟨(idxF p_f l).toNat, by first | omega | (have q_ := hxo.1; omega)⟩
    have e1 : idxF p_f l = (kn1 : Int) := hkn1
    refine tc_put 5 (I ((kn1 : Int))) (congrArg I e1) ?_
    have hfi_ := idx_first hkn1
    refine tc_rbn [0,0,0] [(6, I (IntKind.i64.wrap (((kn1 : Int)) + 1)))] ?_
    refine tc_wi64 6 (((kn1 : Int)) + 1) (by first | omega | (have q_ := hxo.1; omega)) ?_
    refine tc_block ?_
    refine tc_loop (σ := Nat × Nat × Option Addr × Nat × List Seg × List EntD) (fun q_ => (q_.1 < q_.2.1 ∧ q_.2.1 ≤ l.length) ∧ (TRow EEnt G q_.2.2.1 q_.2.2.2.1 q_.2.2.2.2.2 q_.2.2.2.2.1) ∧ (q_.2.2.2.2.2.length = l.length ∧ q_.2.2.2.2.2.drop q_.2.1 = l.drop q_.2.1 ∧ q_.2.2.2.2.2.take q_.1 = (l.take q_.2.1).filter (fun y => !p_f y))) (fun q_ => [(0, Sl q_.2.2.1 q_.2.2.2.2.2.length q_.2.2.2.1), (1, Fv k_f caps_f), (5, I ((q_.1 : Int))), (6, I ((q_.2.1 : Int)))]) (fun q_ => G) (fun q_ => (q_.2.2.2.2.1 :: Lr)) (fun q_ => l.length - q_.2.1) ((kn1, (kn1 + 1), a, c, r, l)) ⟨(by (try dsimp only); omega), hr, ⟨rfl, rfl, hfi_⟩⟩ (fun q_ hs => ?_)
    obtain ⟨i, j, ao, co, ro, xo⟩ := q_
    obtain ⟨hj, hro, hxo⟩ := hs
    dsimp only at hj hro hxo
    refine tc_eq (fr' := [(0, Sl ao xo.length co), (1, Fv k_f caps_f), (5, I ((i : Int))), (6, I ((j : Int)))]) (L' := (ro :: Lr)) rfl rfl ?_
    refine tc_seq ?_
    refine tc_rbn [0,0,0,0] [(19, Bo (decide ((j : Int) < ((xo.length : Nat) : Int))))] ?_
    refine tc_condP (decide ((j : Int) < ((xo.length : Nat) : Int))) (fun h2 => ?_) (fun h2 => ?_)
    ·
      refine tc_skip ?_
      refine tq_then ?_
      refine tc_seq ?_
      refine tc_block ?_
      refine tc_seq ?_
      refine tc_region ?_
      refine runL_bn [0,0] [(22, Sl ao xo.length co), (23, I ((j : Int)))] ?_
      obtain ⟨x1, hx1⟩ := getX (l := xo) (k := j) (by first | omega | (have q_ := hxo.1; omega))
      obtain ⟨b1, o1, fu1, _, ⟨rfl, w1, w2⟩, ha1, hre1, hc1⟩ := TRow.ix hro hx1
      refine runL_idxR (b := b1) (off := o1) (len := xo.length) (cap := co) (ik := .i64) 24 106 2 j ha1 (by first | omega | (have q_ := hxo.1; omega)) ?_
      refine runL_ldR (off := o1) (p := j * 2) (cs := [Sr x1.name, Sr x1.value]) 25 106 0 0 (.agg #[Sr x1.name, Sr x1.value]) hre1 hc1 ?_
      refine runL_box 7 #[Sr ([]), Sr ([])] 106 (fun b2 => ?_)
      refine runL_bsn [3] [] ([Sg b2 0 [Sr x1.name, Sr x1.value]] :: ro :: Lr) ?_
      refine runL_nil ?_
      refine tq_then ?_
      refine tc_seq ?_
      refine tc_region ?_
      refine runL_bn [0,2] [(26, Fv k_f caps_f), (27, .agg #[Sr x1.name, Sr x1.value])] ?_
      refine runL_callF (k := k_f) (caps := caps_f) (args := #[.agg #[Sr x1.name, Sr x1.value]]) 28 (Bo (p_f x1)) hk_f (h_f [Sr x1.name, Sr x1.value] x1 (⟨rfl, w1, w2⟩)) ?_
      refine runL_bn [0] [(29, Bo (!(p_f x1)))] ?_
      refine runL_nil ?_
      refine tq_then ?_
      refine tc_condP (!(p_f x1)) (fun h3 => ?_) (fun h3 => ?_)
      ·
        refine tc_seq ?_
        refine tc_region ?_
        refine runL_bn [0,0,2] [(30, Sl ao xo.length co), (31, I ((i : Int))), (32, .agg #[Sr x1.name, Sr x1.value])] ?_
        obtain ⟨x2, hx2⟩ := getX (l := xo) (k := i) (by first | omega | (have q_ := hxo.1; omega))
        obtain ⟨b3, o2, fu2, _, ⟨rfl, w3, w4⟩, ha2, hre2, hc2⟩ := TRow.ix hro hx2
        refine runL_idxR (b := b3) (off := o2) (len := xo.length) (cap := co) (ik := .i64) 33 106 2 i ha2 (by first | omega | (have q_ := hxo.1; omega)) ?_
        refine runL_stR (b := b3) (off := o2) 1 hro i x1 ha2 (by first | omega | (have q_ := hxo.1; omega)) (.agg #[Sr x1.name, Sr x1.value]) [Sr x1.name, Sr x1.value] ⟨rfl, w1, w2⟩ (fun r1 hr1 => ?_)
        have e2 : xo.length = (xo.set i x1).length := (List.length_set ..).symm
        refine runL_put 0 (Sl ao ((xo.set i x1).length) co) (congrArg (Sl ao · co) e2) ?_
        refine runL_put 30 (Sl ao ((xo.set i x1).length) co) (congrArg (Sl ao · co) e2) ?_
        refine runL_nil ?_
        refine tq_then ?_
        refine tc_region ?_
        refine runL_bn [0,0,0] [(5, I (IntKind.i64.wrap (((i : Int)) + 1)))] ?_
        refine runL_wi64 5 (((i : Int)) + 1) (by first | omega | (have q_ := hxo.1; omega)) ?_
        refine runL_nil ?_
        refine tq_block ?_
        refine tq_then ?_
        refine tc_region ?_
        refine runL_bn [0,0,0] [(6, I (IntKind.i64.wrap (((j : Int)) + 1)))] ?_
        refine runL_wi64 6 (((j : Int)) + 1) (by first | omega | (have q_ := hxo.1; omega)) ?_
        refine runL_nil ?_
        refine tq_ownsA (r1 :: Lr) ?_
        exact tq_rnd ((i + 1, j + 1, ao, co, r1, xo.set i x1)) ⟨(by (try dsimp only); omega), hr1, (by (try dsimp only); first | exact ⟨hxo.1, drop_next hxo.2.1, filt_step hxo.2.2 (drop_get hxo.2.1 hx1) (by assumption)⟩ | exact ⟨by rw [List.length_set]; exact hxo.1, drop_put hxo.2.1 hj.1, filt_put hxo.2.2 (drop_get hxo.2.1 hx1) (by assumption) (by omega)⟩)⟩ (by (try dsimp only); omega)
      ·
        refine tc_skip ?_
        refine tq_block ?_
        refine tq_then ?_
        refine tc_region ?_
        refine runL_bn [0,0,0] [(6, I (IntKind.i64.wrap (((j : Int)) + 1)))] ?_
        refine runL_wi64 6 (((j : Int)) + 1) (by first | omega | (have q_ := hxo.1; omega)) ?_
        refine runL_nil ?_
        refine tq_ownsA (ro :: Lr) ?_
        exact tq_rnd ((i, j + 1, ao, co, ro, xo)) ⟨(by (try dsimp only); omega), hro, (by (try dsimp only); first | exact ⟨hxo.1, drop_next hxo.2.1, filt_step hxo.2.2 (drop_get hxo.2.1 hx1) (by assumption)⟩ | exact ⟨by rw [List.length_set]; exact hxo.1, drop_put hxo.2.1 hj.1, filt_put hxo.2.2 (drop_get hxo.2.1 hx1) (by assumption) (by omega)⟩)⟩ (by (try dsimp only); omega)
    ·
      refine tc_exit ?_
      refine tq_then_exit ?_
      refine tq_rnd_exit ?_
      refine tq_block_here ?_
      refine tq_then ?_
      obtain ⟨b, off, css, spare, rfl, rfl, hc1, hc2, hc3, hsp, hle9, hmax, hone⟩ := TRow.opened hro (by omega)
      refine tc_seq ?_
      refine tc_region ?_
      refine runL_bn [0,0] [(36, Sl (At b off) xo.length co), (37, I ((i : Int)))] ?_
      refine runL_reslE (a := At b off) (a' := At b (off + (xo.take i).length * 2)) (len := xo.length) (cap := co) (c' := co - (xo.take i).length) (n := xo.length - (xo.take i).length) 38 2 (some (I (i : Int))) none i xo.length (.inr ⟨_, rfl⟩) (.inl ⟨rfl, rfl⟩) (by omega) (by rw [if_neg (by omega), List.length_take, Nat.min_eq_left (by omega)]; simp [addr_add]) (by rw [List.length_take, Nat.min_eq_left (by omega)]) (by rw [List.length_take, Nat.min_eq_left (by omega)]) (by omega) ?_
      refine runL_clr (b := b) (off := off) (m := xo.length - (xo.take i).length) (c' := co - (xo.take i).length) 0 (TRow.tk hro i (by omega)) rfl (by rw [List.length_take]; omega) (by rw [List.length_take]; omega) (fun r8 hr8 => ?_)
      refine runL_nil ?_
      refine tq_then ?_
      refine tc_seq ?_
      refine tc_region ?_
      refine runL_bn [0,0] [(39, Sl (At b off) xo.length co), (40, I ((i : Int)))] ?_
      refine runL_reslE (a := At b off) (a' := At b off) (len := xo.length) (cap := co) (c' := co) (n := (xo.take i).length) 41 2 none (some (I (i : Int))) 0 i (.inl ⟨rfl, rfl⟩) (.inr ⟨_, rfl⟩) (Nat.zero_le _) (by split <;> simp [addr_add]) (Nat.sub_zero _).symm (by rw [List.length_take]; omega) (by omega) ?_
      refine runL_bn [0] [(4, Sl (At b off) ((xo.take i).length) co)] ?_
      refine runL_nil ?_
      refine tq_then ?_
      refine tc_ret ?_
      have e_ : xo.take i = (l.filter fun y => !p_f y) := by have q_ := hxo.2.2; rwa [List.take_of_length_le (by omega : l.length ≤ j)] at q_
      have en_ : (xo.take i).length = (l.filter fun y => !p_f y).length := congrArg List.length e_
      refine tq_ret [0] [Sl (At b off) ((xo.take i).length) co] (bp_ownA (Lr := Lr) [r8] (Mem.le_refl _) ?_)
      exact ⟨_, _, _, congrArg (fun n => Sl (At b off) n co) en_, (e_ ▸ hr8), rfl⟩

theorem under1_con (G : Mem) (vs_x : List Value) (x : EntD) (h_x : EEnt.R G vs_x x) (vs_q : List Value) (q : (List UInt8)) (h_q : ES.R G vs_q q) (b_q : Nat) (hz_q : ∀ j v, (vs_q : List Value)[j]? = some v → G b_q (0 + j) = some v)  : ConV 68 #[.agg vs_x.toArray, Pt b_q 0] G (Bo (under1 x q)) := by
  obtain ⟨rfl, w1, w2⟩ := h_x
  obtain ⟨rfl, w3⟩ := h_q
  refine con_of Tryz.func68 10 [(0, .agg #[Sr x.name, Sr x.value]), (1, Pt b_q 0)] rfl (fun w0 G0 => ?_)
  refine tc_seq ?_
  refine tc_region ?_
  refine runL_box 2 #[Sr x.name, Sr x.value] 106 (fun b1 => ?_)
  refine runL_bn [0] [] ?_
  refine runL_nil ?_
  refine tq_then ?_
  refine tc_seq ?_
  refine tc_draw [] ?_
  refine dr_V [(0, Pt b1 0), (1, Sr x.name), (2, Sr (way x.name)), (3, Sr q), (4, Bo (decide (q <+: way x.name))), (5, Bo (!(decide (q <+: way x.name)))), (6, Bo (!(decide (q <+: way x.name))))] ?_
  refine dr_end [] [(0,0), (1,2), (5,0), (6,0)] [2, 3, 4] [(3, Bo (!(decide (q <+: way x.name))))] (fmc ?_ (fmc ?_ (fmc ?_ fm0))) ?_
  · refine stab_of 2 6 (Sr (way x.name)) [(5, Sr x.name)] (fun X => ?_)
    exact runL_callV 6 (Sr (way x.name)) (way_con G x.name w1) stab_end
  · refine stab_of 3 7 (Sr q) [(1, Pt b_q 0)] (fun X => ?_)
    exact runL_ldG (o' := 0) 7 9 (cs := [Sr q]) 0 (Sr q) hz_q stab_end
  · refine stab_of 4 8 (Bo (decide (q <+: way x.name))) [(6, Sr (way x.name)), (7, Sr q)] (fun X => ?_)
    exact runL_callV 8 (Bo (decide (q <+: way x.name))) (hasPrefix_con G (way x.name) q) stab_end
  refine tq_then ?_
  refine tc_ret ?_
  refine tq_ret [0] [Bo (!(decide (q <+: way x.name)))] (bp_ret (Mem.le_refl _) (congrArg Bo (?_ : (under1 x q) = (!(decide (q <+: way x.name)))).symm))
  rfl

theorem treeUnder_con (G : Mem) (a_l : Option Addr) (c_l : Nat) (l : List EntD) (h_l : RS EEnt G a_l c_l l) (q : List UInt8) (hw_q : (q).length ≤ 140737488351232) (h24 : l.length ≤ 24) : ConP 46 #[Sl a_l l.length c_l, Sr q] G [] (fun u G' L' => ∃ (a1 : Option Addr) (c2 : Nat) (r3 : List Seg), u = Sl a1 ((treeUnder l q).length) c2 ∧ (TRow EEnt G' a1 c2 (treeUnder l q) r3) ∧ L' = [r3]) := by
  refine con_of Tryz.func46 9 [(0, Sl a_l l.length c_l), (1, Sr q)] rfl (fun w0 G0 => ?_)
  refine tc_seq ?_
  refine tc_region ?_
  refine runL_box 3 #[Sr q] 9 (fun b1 => ?_)
  refine runL_bn [0] [] ?_
  refine runL_nil ?_
  refine tq_then ?_
  refine tc_seq ?_
  refine tc_region ?_
  refine runL_bn [0] [(5, Sl a_l l.length c_l)] ?_
  refine runL_callR 6 (sclone_EEnt G a_l c_l l h_l) (fun v G1 L1 hl1 hp => ?_)
  obtain ⟨a1, c1, r1, rfl, hr1, rfl⟩ := hp
  refine runL_bn [0] [(7, Fv 68 #[Pt b1 0])] ?_
  refine runL_frz1 (b := b1) (o := 0) (cs := [Sr q]) 1 (fun G2 hl2 hz1 => ?_)
  refine runL_front 0 ?_
  refine runL_callL (Ls := [r1]) (Lr := [[]]) 8 (sdelf_EEnt G2 a1 c1 l r1 (hr1.mono hl2) (by omega) 68 #[Pt b1 0] ((fun x0 => under1 x0 q)) ((fun _ => ⟨fun _ => by kernel_rfl, by kernel_rfl⟩)) ((fun vs0 x0 hx0 => by obtain ⟨rfl, w1, w2⟩ := hx0; exact under1_con G2 [Sr x0.name, Sr x0.value] x0 (⟨rfl, w1, w2⟩) [Sr q] q (⟨rfl, hw_q⟩) b1 hz1))) (fun v G3 L1 hl3 hp => ?_)
  obtain ⟨a2, c2, r2, rfl, hr2, rfl⟩ := hp
  refine runL_bn [0] [(4, Sl a2 ((l.filter fun y => !(((fun x0 => under1 x0 q)) y)).length) c2)] ?_
  refine runL_nil ?_
  refine tq_then ?_
  refine tc_ret ?_
  refine tq_front 0 ?_
  have hf1 : treeUnder l q = l.filter fun y => !(((fun x0 => under1 x0 q)) y) := by
    rfl
  refine tq_ret [0] [Sl a2 ((l.filter fun y => !(((fun x0 => under1 x0 q)) y)).length) c2] (bp_rowsA [r2] (Mem.le_trans (Mem.le_trans hl1 hl2) hl3) ?_)
  rw [hf1]
  try dsimp only
  exact ⟨a2, c2, r2, rfl, hr2, rfl⟩

theorem treeAt_con_aux (N : Nat) : ∀ (G : Mem) (a_l : Option Addr) (c_l : Nat) (l : List EntD) (h_l : RS EEnt G a_l c_l l) (q : List UInt8) (hw_q : (q).length ≤ 140737488351232) (h24 : l.length ≤ 24) (hq : q.length ≤ 16), 16 - q.length < N → ConV 45 #[Sl a_l l.length c_l, Sr q] G (U (treeAt l q)) := by
  induction N with
  | zero => intros; omega
  | succ N ih =>
    intro G a_l c_l l h_l q hw_q h24 hq hN
    refine con_of Tryz.func45 50 [(0, Sl a_l l.length c_l), (1, Sr q)] rfl (fun w0 G0 => ?_)
    refine tc_rbn [0] [] ?_
    refine tc_seq ?_
    refine tc_block ?_
    refine tc_seq ?_
    refine tc_region ?_
    refine runL_bn [0,0,0,0] [(14, Bo (decide (((l.length : Nat) : Int) = 0)))] ?_
    refine runL_b2n (decide (((l.length : Nat) : Int) = 0)) [14] [1,1,1,0] [0,0,0,0] (fun bb => [(18, Bo (bb || (decide (((q).length : Int) = 16))))]) ?_
    refine runL_bn [0] [(10, Bo ((decide (((l.length : Nat) : Int) = 0)) || (decide (((q).length : Int) = 16))))] ?_
    refine runL_nil ?_
    refine tq_then ?_
    refine tc_condP ((decide (((l.length : Nat) : Int) = 0)) || (decide (((q).length : Int) = 16))) (fun h1 => ?_) (fun h1 => ?_)
    ·
      refine tc_seq ?_
      refine tc_region ?_
      refine runL_bn [0] [(19, Sl a_l l.length c_l)] ?_
      refine runL_callV 20 (Sr (treeSaid l)) (treeSaid_con G a_l c_l l h_l (by first | assumption | omega | (simp; done) | (simp; omega) | (have q_ := treeUnder_le l (q ++ [48]); omega) | (have q_ := treeUnder_le l (q ++ [49]); omega))) ?_
      refine runL_callV 21 (U (markOf (treeSaid l))) (markOf_con (treeSaid l) (le48r' (Nat.le_trans (treeSaid_len (by first | assumption | simp)) (by decide))) G) ?_
      refine runL_bn [0] [(4, U (markOf (treeSaid l)))] ?_
      refine runL_nil ?_
      refine tq_then ?_
      refine tc_ret ?_
      refine tq_block_ret ?_
      refine tq_then_ret ?_
      refine tq_ret [0] [U (markOf (treeSaid l))] (bp_ret (Mem.le_refl _) (congrArg U (?_ : (treeAt l q) = (markOf (treeSaid l))).symm))
      first | (rw [treeAt_leaf (by omega)]; done) | (rw [treeAt_fork (by first | omega | (intro hc_; exact (by assumption : ¬ l = [] ∧ _).1 (List.eq_nil_of_length_eq_zero (by omega)))) (by omega)]; unfold noneM; first | (rw [if_pos (by assumption)]; done) | (rw [if_neg (by intro hc_; rcases h2 with q_ | q_ <;> first | exact q_ hc_.1 | exact q_ hc_.2)]; done) | (rw [if_neg (by intro hc_; have q_ := h2 hc_.1; exact q_ hc_.2)]; done))
    ·
      refine tc_skip ?_
      refine tq_block ?_
      refine tq_then ?_
      refine tc_seq ?_
      refine tc_region ?_
      refine runL_bn [0] [(22, Sr q)] ?_
      refine runL_cat 23 q ([48]) (by first | omega | (simp only [List.length_append, List.length_cons, List.length_nil]; omega)) ?_
      refine runL_bn [0] [(24, Sr q)] ?_
      refine runL_cat 25 q ([49]) (by first | omega | (simp only [List.length_append, List.length_cons, List.length_nil]; omega)) ?_
      refine runL_bn [0,0] [(5, Sr (q ++ ([48]))), (6, Sr (q ++ ([49])))] ?_
      refine runL_nil ?_
      refine tq_then ?_
      refine tc_seq ?_
      refine tc_region ?_
      refine runL_bn [0,0] [(26, Sl a_l l.length c_l), (27, Sr (q ++ ([48])))] ?_
      refine runL_callR 28 (treeUnder_con G a_l c_l l h_l (q ++ ([48])) (by first | assumption | omega | (simp; done) | (simp; omega)) (by first | assumption | omega | (simp; done) | (simp; omega) | (have q_ := treeUnder_le l (q ++ [48]); omega) | (have q_ := treeUnder_le l (q ++ [49]); omega))) (fun v G1 L1 hl1 hp => ?_)
      obtain ⟨a1, c1, r1, rfl, hr1, rfl⟩ := hp
      refine runL_bn [0] [(29, Sr (q ++ ([48])))] ?_
      refine runL_frzR (E := EEnt) 0 hr1 (by have q_ := treeUnder_le l (q ++ ([48])); first | (simp only [EEnt]; omega) | (have q1_ := (treeCheck_iff.1 (by assumption)).len; simp only [EEnt]; omega)) (fun G2 hl2 hs1 => ?_)
      refine runL_callV 30 (U (treeAt (treeUnder l (q ++ ([48]))) (q ++ ([48])))) (ih G2 a1 c1 (treeUnder l (q ++ ([48]))) hs1 (q ++ ([48])) (by first | assumption | omega | (simp; done) | (simp; omega)) (by first | assumption | omega | (simp; done) | (simp; omega) | (have q_ := treeUnder_le l (q ++ [48]); omega) | (have q_ := treeUnder_le l (q ++ [49]); omega)) (by first | assumption | omega | (simp; done) | (simp; omega) | (have q_ := treeUnder_le l (q ++ [48]); omega) | (have q_ := treeUnder_le l (q ++ [49]); omega)) (by simp only [List.length_append, List.length_cons, List.length_nil] at *; omega)) ?_
      refine runL_bn [0,0] [(31, Sl a_l l.length c_l), (32, Sr (q ++ ([49])))] ?_
      refine runL_callR 33 (treeUnder_con G2 a_l c_l l (h_l.mono (Mem.le_trans hl1 hl2)) (q ++ ([49])) (by first | assumption | omega | (simp; done) | (simp; omega)) (by first | assumption | omega | (simp; done) | (simp; omega) | (have q_ := treeUnder_le l (q ++ [48]); omega) | (have q_ := treeUnder_le l (q ++ [49]); omega))) (fun v G3 L1 hl3 hp => ?_)
      obtain ⟨a2, c2, r2, rfl, hr2, rfl⟩ := hp
      refine runL_bn [0] [(34, Sr (q ++ ([49])))] ?_
      refine runL_frzR (E := EEnt) 0 hr2 (by have q_ := treeUnder_le l (q ++ ([49])); first | (simp only [EEnt]; omega) | (have q1_ := (treeCheck_iff.1 (by assumption)).len; simp only [EEnt]; omega)) (fun G4 hl4 hs2 => ?_)
      refine runL_callV 35 (U (treeAt (treeUnder l (q ++ ([49]))) (q ++ ([49])))) (ih G4 a2 c2 (treeUnder l (q ++ ([49]))) hs2 (q ++ ([49])) (by first | assumption | omega | (simp; done) | (simp; omega)) (by first | assumption | omega | (simp; done) | (simp; omega) | (have q_ := treeUnder_le l (q ++ [48]); omega) | (have q_ := treeUnder_le l (q ++ [49]); omega)) (by first | assumption | omega | (simp; done) | (simp; omega) | (have q_ := treeUnder_le l (q ++ [48]); omega) | (have q_ := treeUnder_le l (q ++ [49]); omega)) (by simp only [List.length_append, List.length_cons, List.length_nil] at *; omega)) ?_
      refine runL_bn [0,0] [(7, U (treeAt (treeUnder l (q ++ ([48]))) (q ++ ([48])))), (8, U (treeAt (treeUnder l (q ++ ([49]))) (q ++ ([49]))))] ?_
      refine runL_nil ?_
      refine tq_then ?_
      refine tc_seq ?_
      refine tc_seq ?_
      refine tc_region ?_
      refine runL_callV 36 (Sr (treeSaid ([]))) (treeSaid_con G4 none 0 ([]) (RS.nil' EEnt G4) (by first | assumption | omega | (simp; done) | (simp; omega) | (have q_ := treeUnder_le l (q ++ [48]); omega) | (have q_ := treeUnder_le l (q ++ [49]); omega))) ?_
      refine runL_callV 37 (U (markOf (treeSaid ([])))) (markOf_con (treeSaid ([])) (le48r' (Nat.le_trans (treeSaid_len (by first | assumption | simp)) (by decide))) G4) ?_
      refine runL_bn [0] [(9, U (markOf (treeSaid ([]))))] ?_
      refine runL_nil ?_
      refine tq_then ?_
      refine tc_seq ?_
      refine tc_region ?_
      refine runL_bn [0,0,0,0] [(41, Bo (decide (treeAt (treeUnder l (q ++ ([48]))) (q ++ ([48])) = markOf (treeSaid ([])))))] ?_
      refine runL_b2n (decide (treeAt (treeUnder l (q ++ ([48]))) (q ++ ([48])) = markOf (treeSaid ([])))) [41] [0,0,0,0] [1,1,1,0] (fun bb => [(45, Bo (bb && (decide (treeAt (treeUnder l (q ++ ([49]))) (q ++ ([49])) = markOf (treeSaid ([]))))))]) ?_
      refine runL_nil ?_
      refine tq_then ?_
      refine tc_condP ((decide (treeAt (treeUnder l (q ++ ([48]))) (q ++ ([48])) = markOf (treeSaid ([])))) && (decide (treeAt (treeUnder l (q ++ ([49]))) (q ++ ([49])) = markOf (treeSaid ([]))))) (fun h2 => ?_) (fun h2 => ?_)
      ·
        refine tc_rbn [0,0] [(4, U (markOf (treeSaid ([]))))] ?_
        refine tc_ret ?_
        refine tq_then_ret ?_
        refine tq_ret [0] [U (markOf (treeSaid ([])))] (bp_ret (Mem.le_trans (Mem.le_trans (Mem.le_trans hl1 hl2) hl3) hl4) (congrArg U (?_ : (treeAt l q) = (markOf (treeSaid ([])))).symm))
        first | (rw [treeAt_leaf (by omega)]; done) | (rw [treeAt_fork (by first | omega | (intro hc_; exact (by assumption : ¬ l = [] ∧ _).1 (List.eq_nil_of_length_eq_zero (by omega)))) (by omega)]; unfold noneM; first | (rw [if_pos (by assumption)]; done) | (rw [if_neg (by intro hc_; rcases h2 with q_ | q_ <;> first | exact q_ hc_.1 | exact q_ hc_.2)]; done) | (rw [if_neg (by intro hc_; have q_ := h2 hc_.1; exact q_ hc_.2)]; done))
      ·
        refine tc_skip ?_
        refine tq_then ?_
        refine tc_seq ?_
        refine tc_region ?_
        refine runL_bn [0,0] [(47, U (treeAt (treeUnder l (q ++ ([48]))) (q ++ ([48])))), (48, U (treeAt (treeUnder l (q ++ ([49]))) (q ++ ([49]))))] ?_
        refine runL_callV 49 (U (markOf (markSaid 2 (treeAt (treeUnder l (q ++ ([48]))) (q ++ ([48]))) (treeAt (treeUnder l (q ++ ([49]))) (q ++ ([49])))))) (markTwo_con 2 (treeAt (treeUnder l (q ++ ([48]))) (q ++ ([48]))) (treeAt (treeUnder l (q ++ ([49]))) (q ++ ([49]))) G4) ?_
        refine runL_bn [0] [(4, U (markOf (markSaid 2 (treeAt (treeUnder l (q ++ ([48]))) (q ++ ([48]))) (treeAt (treeUnder l (q ++ ([49]))) (q ++ ([49]))))))] ?_
        refine runL_nil ?_
        refine tq_then ?_
        refine tc_ret ?_
        refine tq_ret [0] [U (markOf (markSaid 2 (treeAt (treeUnder l (q ++ ([48]))) (q ++ ([48]))) (treeAt (treeUnder l (q ++ ([49]))) (q ++ ([49])))))] (bp_ret (Mem.le_trans (Mem.le_trans (Mem.le_trans hl1 hl2) hl3) hl4) (congrArg U (?_ : (treeAt l q) = (markOf (markSaid 2 (treeAt (treeUnder l (q ++ ([48]))) (q ++ ([48]))) (treeAt (treeUnder l (q ++ ([49]))) (q ++ ([49])))))).symm))
        first | (rw [treeAt_leaf (by omega)]; done) | (rw [treeAt_fork (by first | omega | (intro hc_; exact (by assumption : ¬ l = [] ∧ _).1 (List.eq_nil_of_length_eq_zero (by omega)))) (by omega)]; unfold noneM; first | (rw [if_pos (by assumption)]; done) | (rw [if_neg (by intro hc_; rcases h2 with q_ | q_ <;> first | exact q_ hc_.1 | exact q_ hc_.2)]; done) | (rw [if_neg (by intro hc_; have q_ := h2 hc_.1; exact q_ hc_.2)]; done))

theorem treeAt_con (G : Mem) (a_l : Option Addr) (c_l : Nat) (l : List EntD) (h_l : RS EEnt G a_l c_l l) (q : List UInt8) (hw_q : (q).length ≤ 140737488351232) (h24 : l.length ≤ 24) (hq : q.length ≤ 16) : ConV 45 #[Sl a_l l.length c_l, Sr q] G (U (treeAt l q)) := treeAt_con_aux (16 - q.length + 1) G a_l c_l l h_l q hw_q h24 hq (Nat.lt_succ_self _)

theorem treeAtE_con (G : Mem) (a_l : Option Addr) (c_l : Nat) (l : List EntD) (h_l : RS EEnt G a_l c_l l) (q : List UInt8) (hw_q : (q).length ≤ 140737488351232)  : ConV 21 #[Sl a_l l.length c_l, Sr q] G (.tuple #[U ((treeAtE l q).1), I ((treeAtE l q).2)]) := by
  refine con_of Tryz.func21 25 [(0, Sl a_l l.length c_l), (1, Sr q)] rfl (fun w0 G0 => ?_)
  refine tc_rbn [0,0] [] ?_
  refine tc_seq ?_
  refine tc_seq ?_
  refine tc_region ?_
  refine runL_bn [0] [(7, Sl a_l l.length c_l)] ?_
  refine runL_callV 8 (I (treeCheck l)) (treeCheck_con G a_l c_l l h_l) ?_
  refine runL_bn [0] [(6, I (treeCheck l))] ?_
  refine runL_nil ?_
  refine tq_then ?_
  refine tc_rbn [0,0] [(10, Bo (!decide (treeCheck l = 0)))] ?_
  refine tc_condP (!decide (treeCheck l = 0)) (fun h1 => ?_) (fun h1 => ?_)
  ·
    refine tc_rbn [0,0,0] [(4, U 0), (5, I (treeCheck l))] ?_
    refine tc_ret ?_
    refine tq_then_ret ?_
    refine tq_ret [0, 0] [U 0, I (treeCheck l)] (bp_ret (Mem.le_refl _) ?_)
    have hf_ : (treeAtE l q) = (0, (treeCheck l)) := by
      unfold treeAtE; first | (rw [if_pos (by assumption)]; done) | (rw [if_neg (by omega)]; first | (rw [if_pos (by simp_all)]; done) | (rw [if_neg (by simp_all)]; done))
    (try rw [hf_]); first | with_reducible rfl | (simp only [packR]; done) | rfl
  ·
    refine tc_skip ?_
    refine tq_then ?_
    refine tc_seq ?_
    refine tc_seq ?_
    refine tc_region ?_
    refine runL_bn [0,0,0,0] [(15, Bo (decide (((q).length : Int) > 16)))] ?_
    refine runL_casesT [15] (decide (((q).length : Int) > 16)) (fun h2 => ?_) (fun h2 => ?_)
    ·
      refine runL_bn [1,1,1,0] [(19, Bo true)] ?_
      refine runL_nil ?_
      refine tq_then ?_
      refine tc_cond_true ?_
      refine tc_rbn [0,0] [(4, U 0), (5, I 3)] ?_
      refine tc_ret ?_
      refine tq_then_ret ?_
      refine tq_ret [0, 0] [U 0, I 3] (bp_ret (Mem.le_refl _) ?_)
      have hf_ : (treeAtE l q) = (0, 3) := by
        unfold treeAtE; first | (rw [if_pos (by assumption)]; done) | (rw [if_neg (by omega)]; first | (rw [if_pos (by simp_all)]; done) | (rw [if_neg (by simp_all)]; done))
      (try rw [hf_]); first | with_reducible rfl | (simp only [packR]; done) | rfl
    ·
      refine runL_bn [0] [(16, Sr q)] ?_
      refine runL_callV 17 (Sr (trimS q)) (trimS_con G q hw_q) ?_
      refine runL_bn [0,0] [(19, Bo (!((B (trimS q)).toList == (B ([])).toList)))] ?_
      refine runL_put 19 (Bo (!(trimS q == []))) ((show (Bo (!((B (trimS q)).toList == (B ([])).toList)) : Value) = Bo (!(trimS q == [])) by simp only [B_toList])) ?_
      refine runL_nil ?_
      refine tq_then ?_
      refine tc_condP (!(trimS q == [])) (fun h3 => ?_) (fun h3 => ?_)
      ·
        refine tc_rbn [0,0] [(4, U 0), (5, I 3)] ?_
        refine tc_ret ?_
        refine tq_then_ret ?_
        refine tq_ret [0, 0] [U 0, I 3] (bp_ret (Mem.le_refl _) ?_)
        have hf_ : (treeAtE l q) = (0, 3) := by
          unfold treeAtE; first | (rw [if_pos (by assumption)]; done) | (rw [if_neg (by omega)]; first | (rw [if_pos (by simp_all)]; done) | (rw [if_neg (by simp_all)]; done))
        (try rw [hf_]); first | with_reducible rfl | (simp only [packR]; done) | rfl
      ·
        refine tc_skip ?_
        refine tq_then ?_
        refine tc_seq ?_
        refine tc_region ?_
        refine runL_bn [0,0] [(20, Sl a_l l.length c_l), (21, Sr q)] ?_
        refine runL_callR 22 (treeUnder_con G a_l c_l l h_l q (by first | assumption | omega | (simp; done) | (simp; omega)) (by first | assumption | omega | exact (treeCheck_iff.1 (by assumption)).len | (have q_ := (treeCheck_iff.1 (by assumption)).len; have q1_ := treeUnder_le l q; omega))) (fun v G1 L1 hl1 hp => ?_)
        obtain ⟨a1, c1, r1, rfl, hr1, rfl⟩ := hp
        refine runL_bn [0] [(23, Sr q)] ?_
        refine runL_frzR (E := EEnt) 0 hr1 (by have q_ := treeUnder_le l q; first | (simp only [EEnt]; omega) | (have q1_ := (treeCheck_iff.1 (by assumption)).len; simp only [EEnt]; omega)) (fun G2 hl2 hs1 => ?_)
        refine runL_callV 24 (U (treeAt (treeUnder l q) q)) (treeAt_con G2 a1 c1 (treeUnder l q) hs1 q (by first | assumption | omega | (simp; done) | (simp; omega)) (by first | assumption | omega | exact (treeCheck_iff.1 (by assumption)).len | (have q_ := (treeCheck_iff.1 (by assumption)).len; have q1_ := treeUnder_le l q; omega)) (by first | assumption | omega | exact (treeCheck_iff.1 (by assumption)).len | (have q_ := (treeCheck_iff.1 (by assumption)).len; have q1_ := treeUnder_le l q; omega))) ?_
        refine runL_bn [0,0] [(4, U (treeAt (treeUnder l q) q)), (5, I 0)] ?_
        refine runL_nil ?_
        refine tq_then ?_
        refine tc_ret ?_
        refine tq_ret [0, 0] [U (treeAt (treeUnder l q) q), I 0] (bp_ret (Mem.le_trans hl1 hl2) ?_)
        have hf_ : (treeAtE l q) = ((treeAt (treeUnder l q) q), 0) := by
          unfold treeAtE; first | (rw [if_pos (by assumption)]; done) | (rw [if_neg (by omega)]; first | (rw [if_pos (by simp_all)]; done) | (rw [if_neg (by simp_all)]; done))
        (try rw [hf_]); first | with_reducible rfl | (simp only [packR]; done) | rfl

theorem treeRoot_con (G : Mem) (a_l : Option Addr) (c_l : Nat) (l : List EntD) (h_l : RS EEnt G a_l c_l l)  : ConV 13 #[Sl a_l l.length c_l] G (.tuple #[U ((treeAtE l []).1), I ((treeAtE l []).2)]) := by
  refine con_of Tryz.func13 8 [(0, Sl a_l l.length c_l)] rfl (fun w0 G0 => ?_)
  refine tc_rbn [0,0] [] ?_
  refine tc_seq ?_
  refine tc_region ?_
  refine runL_bn [0] [(4, Sl a_l l.length c_l)] ?_
  refine runL_callV 5 (.tuple #[U ((treeAtE l ([])).1), I ((treeAtE l ([])).2)]) (treeAtE_con G a_l c_l l h_l ([]) (Nat.le_of_ble_eq_true rfl)) ?_
  refine runL_bn [0,0,0,0] [(2, U ((treeAtE l ([])).1)), (3, I ((treeAtE l ([])).2))] ?_
  refine runL_nil ?_
  refine tq_then ?_
  refine tc_ret ?_
  refine tq_ret [0, 0] [U ((treeAtE l ([])).1), I ((treeAtE l ([])).2)] (bp_ret (Mem.le_refl _) ?_)
  have hf_ : (treeAtE l []) = (((treeAtE l ([])).1), ((treeAtE l ([])).2)) := by
    rfl
  (try rw [hf_]); first | with_reducible rfl | (simp only [packR]; done) | rfl
end Go.Proofs.YtngoijkcbmchdaaGreatDoor
