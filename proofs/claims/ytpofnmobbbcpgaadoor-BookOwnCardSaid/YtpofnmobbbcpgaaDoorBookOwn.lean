import Derived.Test.YtpofnmobbbcpgaaDoorMake
import Derived.Test.YtpofnmobbbcpgaaDoorBack
namespace Go.Proofs.YtpofnmobbbcpgaaDoor
open Go.Tx
set_option linter.unusedVariables false
set_option linter.unusedSimpArgs false

open Go.RowKit
def apGo : List EntD → List EntD → List EntD × Int
  | out, [] => (out, 0)
  | out, x :: c => if ¬ (treeSet out x.name x.value).2 = 0 then ([], (treeSet out x.name x.value).2) else apGo (treeSet out x.name x.value).1 c
def chApply (l c : List EntD) : List EntD × Int := if ¬ treeCheck l = 0 then ([], treeCheck l) else apGo l c
theorem apGo_step {out c : List EntD} {i : Nat} {x : EntD} (hx : c[i]? = some x) (h : (treeSet out x.name x.value).2 = 0) : apGo out (c.drop i) = apGo (treeSet out x.name x.value).1 (c.drop (i + 1)) := by
  obtain ⟨h1, rfl⟩ := List.getElem?_eq_some_iff.1 hx
  rw [List.drop_eq_getElem_cons h1]
  show (if _ then _ else _) = _
  rw [if_neg (by rw [Decidable.not_not]; exact h)]
theorem apGo_no {out c : List EntD} {i : Nat} {x : EntD} (hx : c[i]? = some x) (h : ¬ (treeSet out x.name x.value).2 = 0) : apGo out (c.drop i) = ([], (treeSet out x.name x.value).2) := by
  obtain ⟨h1, rfl⟩ := List.getElem?_eq_some_iff.1 hx
  rw [List.drop_eq_getElem_cons h1]
  show (if _ then _ else _) = _
  rw [if_pos h]
theorem apGo_end {out c : List EntD} {i : Nat} (h : c.length ≤ i) : apGo out (c.drop i) = (out, 0) := by
  rw [List.drop_eq_nil_of_le h]; rfl
theorem apGo_len : ∀ (c out : List EntD), out.length ≤ 1000 → (apGo out c).1.length ≤ 1000
  | [], out, h => h
  | x :: c, out, h => by
    unfold apGo; split
    · simp
    · exact apGo_len c _ (Nat.le_trans (treeSet_len _ _ _) (by decide))
theorem apply_len (l c : List EntD) : (chApply l c).1.length ≤ 1000 := by
  unfold chApply; split
  · simp
  · rename_i h; exact apGo_len c l (by have := (treeCheck_iff.1 (Decidable.not_not.1 h)).len; omega)

/-- Entries without a bound on their texts. -/
def EEntB : Elt EntD := ⟨2, 32, fun _ cs x => cs = [Sr x.name, Sr x.value], fun _ h => h, fun h => by rw [h]; rfl, fun h => by rw [h]; exact one_of rfl, [Sr [], Sr []], fun _ => ⟨⟨[], []⟩, rfl⟩⟩
/-- A row with all its room. -/
theorem TRow.full {G : Mem} {a : Option Addr} {c : Nat} {l : List EntD} {r : List Seg} (h : TRow EEnt G a c l r) : ∃ l2 : List EntD, l2.length = c ∧ (∀ x ∈ l2, x.value.length ≤ 140737488351232) ∧ TRow EEntB G a c l2 r := by
  obtain ⟨css, h1, h2, h3⟩ := h.ex
  rcases h3.shape with ⟨rfl, rfl, rfl⟩ | ⟨b, off, spare, rfl, rfl, hsp⟩
  · exact ⟨[], rfl, by simp, TRow.none _ _⟩
  · obtain ⟨dss, d1, d2, d3⟩ := h.sp _ (List.mem_singleton.2 rfl)
    simp only at d2
    have hch : ∀ i : Nat, ∃ x : EntD, ∀ cs, dss[i]? = some cs → EEnt.R G cs x := by
      intro i
      cases hi : dss[i]? with
      | none => exact ⟨⟨[], []⟩, by simp⟩
      | some cs => obtain ⟨x, hx⟩ := d3 cs (List.mem_of_getElem? hi); exact ⟨x, fun cs' e => by cases e; exact hx⟩
    let f : Nat → EntD := fun i => Classical.choose (hch i)
    have hf : ∀ i cs, dss[i]? = some cs → EEnt.R G cs (f i) := fun i => Classical.choose_spec (hch i)
    have hlen : ((List.range c).map f).length = c := by simp
    have hg : ∀ (i : Nat) x, ((List.range c).map f)[i]? = some x → ∃ cs, dss[i]? = some cs ∧ EEnt.R G cs x := by
      intro i x hx
      have hi := (List.getElem?_eq_some_iff.1 hx).1
      rw [hlen] at hi
      rw [List.getElem?_map, List.getElem?_range hi] at hx
      simp only [Option.map_some, Option.some.injEq] at hx
      exact ⟨dss[i]'(by omega), List.getElem?_eq_getElem _, hx ▸ hf i _ (List.getElem?_eq_getElem (by omega))⟩
    have hb : ∀ (i : Nat) x, ((List.range c).map f)[i]? = some x → ∃ cs, dss[i]? = some cs ∧ EEntB.R G cs x := fun i x hx => by
      obtain ⟨cs, p, q⟩ := hg i x hx; exact ⟨cs, p, q.1⟩
    refine ⟨(List.range c).map f, hlen, fun x hx => ?_, ?_⟩
    · obtain ⟨i, hi⟩ := List.getElem?_of_mem hx
      obtain ⟨cs, _, q⟩ := hg i x hi
      exact q.2.2
    · rw [d2]
      refine TRow.made (css := dss) (by rw [hlen]; exact d1) hb ?_ ?_ (by rw [hlen]; exact Nat.le_refl _) h3.max ⟨dss, d1, rfl, fun cs hc => ?_⟩
      · rw [hlen, List.take_of_length_le]
        rw [flatten_len (sz := EEntB.sz) (fun cs hc => by obtain ⟨x, hx⟩ := d3 cs hc; exact EEnt.len hx), d1]; exact Nat.le_refl _
      · rw [flatten_len (sz := EEntB.sz) (fun cs hc => by obtain ⟨x, hx⟩ := d3 cs hc; exact EEnt.len hx), d1]
      · obtain ⟨x, hx⟩ := d3 cs hc; exact ⟨x, hx.1⟩
section
variable {C : Cx} {Q : Exit → Act → World → Prop} {fr : List (Nat × Value)} {G : Mem} {L : List (List Seg)} {ops : Array Oper} {rest : List Oper} {o : Oper}
/-- s[:cap(s)] of an own row. -/
theorem runL_slCap {α : Type} {E : Elt α} {a : Option Addr} {cap len : Nat} {l : List α} {r : List Seg} (d : Nat) (hr : TRow E G a cap l r) (hl : l.length = cap) (hlc : len ≤ cap)
    (h : RunL C ops Q rest ((d, Sl a l.length cap) :: fr) G L)
    (hb : base C.n ops fr o d = true := by as_aux_lemma => kernel_rfl)
    (hx : (chkSl fr o, isSlT C.P o E.sz) = (some (Sl a len cap, none, some (I (cap : Int)), true), true) := by as_aux_lemma => kernel_rfl) : RunL C ops Q (o :: rest) fr G L := by
  simp only [Prod.mk.injEq] at hx
  refine runL_run d hb (fun w hw => ⟨_, w, G, L, run_resl hx.1 hx.2 (.inl ⟨rfl, rfl⟩) (.inr ⟨_, rfl⟩) (Nat.zero_le _) (Nat.le_refl _) w, hw, ?_⟩)
  rw [hl] at h
  obtain ⟨css, h1, h2, h3⟩ := hr.ex
  rcases h3.shape with ⟨rfl, rfl, _⟩ | ⟨b, off, spare, rfl, _, _⟩
  · exact h
  · split
    · rename_i e; rw [e] at h ⊢; exact h
    · simp only [Option.map_some, addr_add, Nat.zero_mul, Nat.sub_zero, Nat.add_zero]; exact h
theorem splice_set {F : List Value} {j : Nat} {v : Value} (h : j < F.length) : splice F j [v] = F.set j v := by
  rw [List.set_eq_take_append_cons_drop, if_pos h]; unfold splice; simp
theorem splice_mid (A cs B D : List Value) {f : Nat} (v : Value) (hf : f < cs.length) : splice (A ++ (cs ++ B) ++ D) (A.length + f) [v] = A ++ (cs.set f v ++ B) ++ D := by
  rw [splice_set (by simp; omega), List.set_append, if_pos (by simp; omega), List.set_append, if_neg (by omega), show A.length + f - A.length = f by omega, List.set_append, if_pos hf]
theorem splice_whole (A cs B D cs2 : List Value) (hf : cs2.length = cs.length) : splice (A ++ (cs ++ B) ++ D) A.length cs2 = A ++ (cs2 ++ B) ++ D := by
  unfold splice
  simp only [List.append_assoc]
  rw [List.take_left, hf, ← List.drop_drop, List.drop_left, List.drop_left]
/-- A store of one cell of an element of a row. -/
theorem runL_stRf {α : Type} {E : Elt α} {a : Option Addr} {cap : Nat} {l : List α} {r : List Seg} (i : Nat) (hr : TRow E G a cap l r) (k f : Nat) (x x' : α) {b off : Nat} (ha : a = At b off) (hx : l[k]? = some x) (v : Value) (hf : f < E.sz) (hty : ∀ cs, E.R G cs x → E.R G (cs.set f v) x')
    (h : ∀ r', TRow E G a cap (l.set k x') r' → RunL C ops Q rest fr G (L.set i r')) (hL : L[i]? = some r := by rfl)
    (hc : (chkSt C.P ops fr o ([v] : List Value).length, v.cells.toList, ([v] : List Value).all Value.oneCell') = (some (Pt b (off + (k * E.sz + f)), v), [v], true) := by as_aux_lemma => kernel_rfl) : RunL C ops Q (o :: rest) fr G L := by
  have hk := (List.getElem?_eq_some_iff.1 hx).1
  obtain ⟨b', off', css, spare, ha', rfl, c1, c2, csz, hsp, hle, hmax, _⟩ := hr.opened (by omega)
  rw [ha] at ha'; cases ha'
  subst ha
  obtain ⟨cs, p1, p2⟩ := c2 k x hx
  have hcl := csz cs (List.mem_of_getElem? p1)
  have hfl : css.flatten.length = l.length * E.sz := by rw [flatten_len csz, c1]
  have hkk : k * E.sz + E.sz ≤ l.length * E.sz := by
    have := Nat.mul_le_mul_right E.sz (show k + 1 ≤ l.length from hk)
    rw [Nat.add_mul, Nat.one_mul] at this; exact this
  have hc1 : k < css.length := by omega
  have hget : css[k]'hc1 = cs := by rw [List.getElem?_eq_getElem hc1] at p1; exact Option.some.inj p1
  have e1 : (css.set k (cs.set f v)).flatten = (css.take k).flatten ++ (cs.set f v ++ (css.drop (k + 1)).flatten) := by
    rw [List.set_eq_take_append_cons_drop, if_pos hc1]; simp
  have e2 : css.flatten = (css.take k).flatten ++ (cs ++ (css.drop (k + 1)).flatten) := by
    conv => lhs; rw [← List.take_append_drop k css]
    rw [List.drop_eq_getElem_cons hc1, hget]; simp
  have hT : (css.take k).flatten.length = k * E.sz := css_take_len csz (by omega)
  have hset : splice (css.flatten ++ spare) (k * E.sz + f) [v] = (css.set k (cs.set f v)).flatten ++ spare := by
    rw [e1, e2, ← hT]; exact splice_mid _ _ _ _ v (by omega)
  refine runL_stX i (k * E.sz + f) (b := b) (off := off) (cs := css.flatten ++ spare) v [v] (by rw [List.length_append, hfl]; simp only [List.length_cons, List.length_nil]; omega) ?_ hL hc
  rw [hset]
  have hcss : ∀ c ∈ css.set k (cs.set f v), c.length = E.sz := fun c hc => by
    rcases List.mem_or_eq_of_mem_set hc with hc | rfl
    · exact csz c hc
    · rw [List.length_set]; exact hcl
  refine h _ ⟨⟨css.set k (cs.set f v), by simp [c1], fun j y hy => ?_, ?_⟩, fun s hs => ?_⟩
  · rw [List.getElem?_set] at hy ⊢
    by_cases e : k = j
    · subst e
      rw [if_pos rfl, if_pos (by omega)]
      rw [if_pos rfl, if_pos hk] at hy
      exact ⟨_, rfl, by rw [← Option.some.inj hy]; exact hty cs p2⟩
    · rw [if_neg e] at hy ⊢
      exact c2 j y hy
  · refine ⟨?_, by rw [List.length_set]; exact hle, hmax, .inr ⟨b, off, spare, rfl, rfl, by rw [List.length_set]; exact hsp⟩⟩
    rw [flatten_len hcss, List.length_set, List.length_set, c1]
  · rw [List.mem_singleton.1 hs]
    obtain ⟨dss, d1, d2, d3⟩ := hr.sp _ (List.mem_singleton.2 rfl)
    simp only at d2 ⊢
    have hsz : Typed E G cap (css.flatten ++ spare) := ⟨dss, d1, d2, d3⟩
    have h4 := (hsz.splice (i := k) (Typed.one (hty cs p2)) (by omega))
    have e5 : splice (css.flatten ++ spare) (k * E.sz) (cs.set f v) = (css.set k (cs.set f v)).flatten ++ spare := by
      rw [e1, e2, ← hT]; exact splice_whole _ _ _ _ _ (by simp)
    rw [e5] at h4; exact h4
end

theorem chApply_con (G : Mem) (a_l : Option Addr) (c_l : Nat) (l : List EntD) (h_l : RS EEnt G a_l c_l l) (a_c : Option Addr) (c_c : Nat) (c : List EntD) (h_c : RS EEnt G a_c c_c c)  : ConP 8 #[Sl a_l l.length c_l, Sl a_c c.length c_c] G [] (fun u G' L' => ∃ (a1 : Option Addr) (c2 : Nat) (r3 : List Seg), u = .tuple #[Sl a1 (((chApply l c).1).length) c2, I ((chApply l c).2)] ∧ (TRow EEnt G' a1 c2 ((chApply l c).1) r3) ∧ L' = [r3]) := by
  refine con_of Tryd.func8 38 [(0, Sl a_l l.length c_l), (1, Sl a_c c.length c_c)] rfl (fun w0 G0 => ?_)
  refine tc_rbn [0,0] [] ?_
  refine tc_seq ?_
  refine tc_seq ?_
  refine tc_region ?_
  refine runL_bn [0] [(11, Sl a_l l.length c_l)] ?_
  refine runL_callV 12 (I (treeCheck l)) (treeCheck_con G a_l c_l l h_l) ?_
  refine runL_bn [0] [(6, I (treeCheck l))] ?_
  refine runL_nil ?_
  refine tq_then ?_
  refine tc_rbn [0,0] [(14, Bo (!decide (treeCheck l = 0)))] ?_
  refine tc_condP (!decide (treeCheck l = 0)) (fun h1 => ?_) (fun h1 => ?_)
  ·
    refine tc_rbn [0,0,0] [(4, Sl none 0 0), (5, I (treeCheck l))] ?_
    refine tc_ret ?_
    refine tq_then_ret ?_
    refine tq_empty ?_
    refine tq_front 0 ?_
    have hf1 : chApply l c = ([], treeCheck l) := by
      unfold chApply; first | (rw [if_pos (by assumption)]; done) | (rw [if_neg (by simp_all), hxw.1]; first | (rw [apGo_no hx1 (by assumption)]; done) | (rw [apGo_end (by omega)]; done))
    refine tq_ret [0, 0] [Sl none 0 0, I (treeCheck l)] (bp_rowsA [[]] (Mem.le_refl _) ?_)
    rw [hf1]
    try dsimp only
    exact ⟨none, 0, ([]), rfl, (TRow.none EEnt _), rfl⟩
  ·
    refine tc_skip ?_
    refine tq_then ?_
    refine tc_seq ?_
    refine tc_region ?_
    refine runL_bn [0] [(16, Sl a_l l.length c_l)] ?_
    refine runL_empty ?_
    refine runL_app' 17 26 0 (E := EEnt) (TRow.none EEnt G) h_l (by first | (have q0_ := hxw.2; simp only [EEnt]; omega) | (have q_ := (treeCheck_iff.1 (by assumption)).len; (try simp only [EEnt, List.length_nil]); omega)) (by first | (have q0_ := hxw.2; simp only [EEnt]; omega) | (have q_ := (treeCheck_iff.1 (by assumption)).len; (try simp only [EEnt, List.length_nil]); omega)) (fun a1 c1 r1 hr1 => ?_)
    refine runL_bn [0] [(7, Sl a1 l.length c1)] ?_
    refine runL_nil ?_
    refine tq_then ?_
    refine tc_seq ?_
    refine tc_rbn [0,0,0] [(18, Sl a_c c.length c_c), (19, I (((c.length : Nat) : Int))), (20, I 0)] ?_
    refine tc_block ?_
    have hlm_h_c : c.length ≤ 9223372036854775807 := Nat.le_trans (h_c).le (h_c).max
    refine tc_loop (σ := Nat × Option Addr × Nat × List Seg × List EntD × Mem) (fun q_ => (Mem.le G q_.2.2.2.2.2) ∧ (q_.1 ≤ c.length) ∧ (TRow EEnt q_.2.2.2.2.2 q_.2.1 q_.2.2.1 q_.2.2.2.2.1 q_.2.2.2.1) ∧ (apGo l c = apGo q_.2.2.2.2.1 (c.drop q_.1) ∧ q_.2.2.2.2.1.length ≤ 1000)) (fun q_ => [(7, Sl q_.2.1 q_.2.2.2.2.1.length q_.2.2.1), (18, Sl a_c c.length c_c), (19, I (((c.length : Nat) : Int))), (20, I ((q_.1 : Int)))]) (fun q_ => q_.2.2.2.2.2) (fun q_ => [q_.2.2.2.1]) (fun q_ => c.length - q_.1) ((0, a1, c1, r1, l, G)) ⟨(Mem.le_refl _), (by (try dsimp only); first | exact Nat.zero_le _ | omega | simp), hr1, ⟨rfl, by (have q_ := (treeCheck_iff.1 (by assumption)).len; (try simp only [EEnt, List.length_nil]); omega)⟩⟩ (fun q_ hs => ?_)
    obtain ⟨i, aw, cw, rw, xw, g⟩ := q_
    obtain ⟨hle, hi, hrw, hxw⟩ := hs
    dsimp only at hle hi hrw hxw
    refine tc_eq (fr' := [(7, Sl aw xw.length cw), (18, Sl a_c c.length c_c), (19, I (((c.length : Nat) : Int))), (20, I ((i : Int)))]) (L' := [rw]) rfl rfl ?_
    refine tc_rbn [0] [(21, Bo (decide ((i : Int) < ((c.length : Nat) : Int))))] ?_
    refine tc_seq ?_
    refine tc_condP (decide ((i : Int) < ((c.length : Nat) : Int))) (fun h2 => ?_) (fun h2 => ?_)
    ·
      refine tc_skip ?_
      refine tq_then ?_
      refine tc_seq ?_
      refine tc_block ?_
      refine tc_seq ?_
      refine tc_region ?_
      obtain ⟨b1, o1, rfl⟩ := RS.addr (h_c.mono hle) (k := i) (by omega)
      obtain ⟨x1, hx1⟩ := getX (l := c) (k := i) (by omega)
      obtain ⟨_, ⟨rfl, w1, w2⟩, hc1⟩ := RS.get (h_c.mono hle) hx1
      refine runL_idx (b := b1) (off := o1) (len := c.length) (cap := c_c) (ik := .i64) 22 26 2 i (by omega) ?_
      refine runL_ldG 23 26 (cs := [Sr x1.name, Sr x1.value]) 0 (.agg #[Sr x1.name, Sr x1.value]) hc1 ?_
      refine runL_box 9 #[Sr ([]), Sr ([])] 26 (fun b2 => ?_)
      refine runL_bsn [3] [] [[Sg b2 0 [Sr x1.name, Sr x1.value]], rw] ?_
      refine runL_nil ?_
      refine tq_then ?_
      refine tc_rbn [0] [] ?_
      refine tc_seq ?_
      refine tc_region ?_
      refine runL_bn [0,0,2,0,2] [(25, Sl aw xw.length cw), (27, Sr x1.name), (29, Sr x1.value)] ?_
      refine runL_frzR (E := EEnt) 1 hrw (by first | (have q0_ := hxw.2; simp only [EEnt]; omega) | (have q_ := (treeCheck_iff.1 (by assumption)).len; (try simp only [EEnt, List.length_nil]); omega)) (fun G1 hl1 hs1 => ?_)
      refine runL_callR 30 (treeSet_con G1 aw cw xw hs1 x1.name w1 x1.value w2) (fun v G2 L1 hl2 hp => ?_)
      obtain ⟨a2, c2, r2, rfl, hr2, rfl⟩ := hp
      refine runL_bn [0,0,0,0,0] [(7, Sl a2 (((treeSet xw x1.name x1.value).1).length) c2), (10, I ((treeSet xw x1.name x1.value).2))] ?_
      refine runL_nil ?_
      refine tq_then ?_
      refine tc_rbn [0,0] [(34, Bo (!decide ((treeSet xw x1.name x1.value).2 = 0)))] ?_
      refine tc_condP (!decide ((treeSet xw x1.name x1.value).2 = 0)) (fun h3 => ?_) (fun h3 => ?_)
      ·
        refine tc_rbn [0,0,0] [(4, Sl none 0 0), (5, I ((treeSet xw x1.name x1.value).2))] ?_
        refine tc_ret ?_
        refine tq_block_ret ?_
        refine tq_then_ret ?_
        refine tq_rnd_ret ?_
        refine tq_block_ret ?_
        refine tq_then_ret ?_
        refine tq_empty ?_
        refine tq_front 0 ?_
        have hf2 : chApply l c = ([], (treeSet xw x1.name x1.value).2) := by
          unfold chApply; first | (rw [if_pos (by assumption)]; done) | (rw [if_neg (by simp_all), hxw.1]; first | (rw [apGo_no hx1 (by assumption)]; done) | (rw [apGo_end (by omega)]; done))
        refine tq_ret [0, 0] [Sl none 0 0, I ((treeSet xw x1.name x1.value).2)] (bp_rowsA [[]] (Mem.le_trans (Mem.le_trans hle hl1) hl2) ?_)
        rw [hf2]
        try dsimp only
        exact ⟨none, 0, ([]), rfl, (TRow.none EEnt _), rfl⟩
      ·
        refine tc_skip ?_
        refine tq_block ?_
        refine tq_then ?_
        refine tc_region ?_
        refine runL_bn [0,0] [(20, I (IntKind.i64.wrap (((i : Int)) + 1)))] ?_
        refine runL_wi64 20 (((i : Int)) + 1) (by omega) ?_
        refine runL_nil ?_
        refine tq_front 0 ?_
        refine tq_front 1 ?_
        refine tq_front 2 ?_
        refine tq_ownsA [r2] ?_
        exact tq_rnd ((i + 1, a2, c2, r2, (treeSet xw x1.name x1.value).1, G2)) ⟨(Mem.le_trans hle (Mem.le_trans hl1 hl2)), (by omega), hr2, ⟨hxw.1.trans (apGo_step hx1 (by assumption)), Nat.le_trans (treeSet_len _ _ _) (by decide)⟩⟩ (by (try dsimp only); omega)
    ·
      refine tc_exit ?_
      refine tq_then_exit ?_
      refine tq_rnd_exit ?_
      refine tq_block_here ?_
      refine tq_then ?_
      refine tc_rbn [0,0,0] [(4, Sl aw xw.length cw), (5, I 0)] ?_
      refine tc_ret ?_
      refine tq_front 0 ?_
      have hf3 : chApply l c = (xw, 0) := by
        unfold chApply; first | (rw [if_pos (by assumption)]; done) | (rw [if_neg (by simp_all), hxw.1]; first | (rw [apGo_no hx1 (by assumption)]; done) | (rw [apGo_end (by omega)]; done))
      refine tq_ret [0, 0] [Sl aw xw.length cw, I 0] (bp_rowsA [rw] hle ?_)
      rw [hf3]
      try dsimp only
      exact ⟨aw, cw, rw, rfl, hrw, rfl⟩

theorem proofMakeO_con (G : Mem) (a_l : Option Addr) (c_l : Nat) (l : List EntD) (h_l : RS EEnt G a_l c_l l) (name : List UInt8) (hw_name : (name).length ≤ 140737488351232)  : ConP 9 #[Sl a_l l.length c_l, Sr name] G [] (fun u G' L' => ∃ (a1 : Option Addr) (c2 : Nat) (a3 : Option Addr) (c4 : Nat) (r5 : List Seg), u = .tuple #[.agg #[Sr (((proofMake l name).1).name), Sl a1 ((((proofMake l name).1).entries).length) c2, Sl a3 ((((proofMake l name).1).sides).length) c4], I ((proofMake l name).2)] ∧ ((((proofMake l name).1).name).length ≤ 140737488351232) ∧ (TRow EEnt G' a1 c2 (((proofMake l name).1).entries) r5) ∧ (RS EU G' a3 c4 (((proofMake l name).1).sides)) ∧ L' = [r5]) := by
  refine con_of Tryd.func9 78 [(0, Sl a_l l.length c_l), (1, Sr name)] rfl (fun w0 G0 => ?_)
  refine tc_seq ?_
  refine tc_region ?_
  refine runL_box 4 #[Sr ([]), Sl none 0 0, Sl none 0 0] 34 (fun b1 => ?_)
  refine runL_bn [0] [] ?_
  refine runL_nil ?_
  refine tq_then ?_
  refine tc_seq ?_
  refine tc_seq ?_
  refine tc_region ?_
  refine runL_bn [0] [(16, Sl a_l l.length c_l)] ?_
  refine runL_callV 17 (I (treeCheck l)) (treeCheck_con G a_l c_l l h_l) ?_
  refine runL_bn [0] [(6, I (treeCheck l))] ?_
  refine runL_nil ?_
  refine tq_then ?_
  refine tc_rbn [0,0] [(19, Bo (!decide (treeCheck l = 0)))] ?_
  refine tc_condP (!decide (treeCheck l = 0)) (fun h1 => ?_) (fun h1 => ?_)
  ·
    refine tc_rbn [0,0,3,0] [(5, I (treeCheck l))] ?_
    refine tc_ret ?_
    refine tq_then_ret ?_
    refine tq_empty ?_
    refine tq_front 0 ?_
    have hf1 : proofMake l name = ((⟨[], [], []⟩ : ProofD), treeCheck l) := by
      unfold proofMake proofZ; first | (rw [if_pos (by assumption)]; done) | (rw [if_neg (by omega)]; first | (rw [if_pos (by assumption)]; done) | (rw [if_neg (by omega), hxo, hxm, show (15 - k).toNat = 16 by omega]; done))
    refine tq_ret [1, 0] [.agg #[Sr ([]), Sl none 0 0, Sl none 0 0], I (treeCheck l)] (bp_rowsA [[]] (Mem.le_refl _) ?_)
    rw [hf1]
    try dsimp only
    exact ⟨none, 0, none, 0, ([]), rfl, (Nat.le_of_ble_eq_true rfl), (TRow.none EEnt _), (RS.nil' EU G), rfl⟩
  ·
    refine tc_skip ?_
    refine tq_then ?_
    refine tc_seq ?_
    refine tc_region ?_
    refine runL_bn [0] [(23, Sr name)] ?_
    refine runL_callV 24 (.tuple #[Sr ((pathOf name).1), I ((pathOf name).2)]) (pathOf_con G name hw_name) ?_
    refine runL_bn [0,0,0,0,0] [(7, Sr ((pathOf name).1)), (8, I ((pathOf name).2))] ?_
    refine runL_nil ?_
    refine tq_then ?_
    refine tc_seq ?_
    refine tc_rbn [0,0] [(28, Bo (!decide ((pathOf name).2 = 0)))] ?_
    refine tc_condP (!decide ((pathOf name).2 = 0)) (fun h2 => ?_) (fun h2 => ?_)
    ·
      refine tc_rbn [0,0,3,0] [(5, I ((pathOf name).2))] ?_
      refine tc_ret ?_
      refine tq_then_ret ?_
      refine tq_empty ?_
      refine tq_front 0 ?_
      have hf2 : proofMake l name = ((⟨[], [], []⟩ : ProofD), (pathOf name).2) := by
        unfold proofMake proofZ; first | (rw [if_pos (by assumption)]; done) | (rw [if_neg (by omega)]; first | (rw [if_pos (by assumption)]; done) | (rw [if_neg (by omega), hxo, hxm, show (15 - k).toNat = 16 by omega]; done))
      refine tq_ret [1, 0] [.agg #[Sr ([]), Sl none 0 0, Sl none 0 0], I ((pathOf name).2)] (bp_rowsA [[]] (Mem.le_refl _) ?_)
      rw [hf2]
      try dsimp only
      exact ⟨none, 0, none, 0, ([]), rfl, (Nat.le_of_ble_eq_true rfl), (TRow.none EEnt _), (RS.nil' EU G), rfl⟩
    ·
      refine tc_skip ?_
      refine tq_then ?_
      refine tc_seq ?_
      refine tc_region ?_
      refine runL_bn [0,0] [(32, .agg #[Sr name, Sl none 0 0, Sl none 0 0])] ?_
      refine runL_box 9 #[Sr ([]), Sl none 0 0, Sl none 0 0] 34 (fun b2 => ?_)
      refine runL_bsn [3] [] [[Sg b2 0 [Sr name, Sl none 0 0, Sl none 0 0]], [Sg b1 0 [Sr ([]), Sl none 0 0, Sl none 0 0]]] ?_
      refine runL_nil ?_
      refine tq_then ?_
      refine tc_seq ?_
      refine tc_rbn [0,0,0] [(33, Sl a_l l.length c_l), (34, I (((l.length : Nat) : Int))), (35, I 0)] ?_
      refine tc_block ?_
      refine tc_empty ?_
      have hlm_h_l : l.length ≤ 9223372036854775807 := Nat.le_trans (h_l).le (h_l).max
      refine tc_loop (σ := Nat × Option Addr × Nat × List Seg × List EntD × Mem) (fun q_ => (Mem.le G q_.2.2.2.2.2) ∧ (q_.1 ≤ l.length) ∧ (TRow EEnt q_.2.2.2.2.2 q_.2.1 q_.2.2.1 q_.2.2.2.2.1 q_.2.2.2.1) ∧ (q_.2.2.2.2.1 = ownE (l.take q_.1) (pathOf name).1)) (fun q_ => [(0, Sl a_l l.length c_l), (4, Pt b1 0), (7, Sr ((pathOf name).1)), (9, Pt b2 0), (33, Sl a_l l.length c_l), (34, I (((l.length : Nat) : Int))), (35, I ((q_.1 : Int)))]) (fun q_ => q_.2.2.2.2.2) (fun q_ => [q_.2.2.2.1, [Sg b2 0 [Sr name, Sl q_.2.1 q_.2.2.2.2.1.length q_.2.2.1, Sl none 0 0]], [Sg b1 0 [Sr ([]), Sl none 0 0, Sl none 0 0]]]) (fun q_ => l.length - q_.1) ((0, none, 0, [], [], G)) ⟨(Mem.le_refl _), (by (try dsimp only); first | exact Nat.zero_le _ | omega | simp), (TRow.none EEnt _), (by (try dsimp only); simp [ownE])⟩ (fun q_ hs => ?_)
      obtain ⟨i, ao, co, ro, xo, g⟩ := q_
      obtain ⟨hle, hi, hro, hxo⟩ := hs
      dsimp only at hle hi hro hxo
      refine tc_eq (fr' := [(0, Sl a_l l.length c_l), (4, Pt b1 0), (7, Sr ((pathOf name).1)), (9, Pt b2 0), (33, Sl a_l l.length c_l), (34, I (((l.length : Nat) : Int))), (35, I ((i : Int)))]) (L' := [ro, [Sg b2 0 [Sr name, Sl ao xo.length co, Sl none 0 0]], [Sg b1 0 [Sr ([]), Sl none 0 0, Sl none 0 0]]]) rfl rfl ?_
      refine tc_rbn [0] [(36, Bo (decide ((i : Int) < ((l.length : Nat) : Int))))] ?_
      refine tc_seq ?_
      refine tc_condP (decide ((i : Int) < ((l.length : Nat) : Int))) (fun h3 => ?_) (fun h3 => ?_)
      ·
        refine tc_skip ?_
        refine tq_then ?_
        refine tc_seq ?_
        refine tc_block ?_
        refine tc_seq ?_
        refine tc_region ?_
        obtain ⟨b3, o1, rfl⟩ := RS.addr (h_l.mono hle) (k := i) (by first | omega | (have q_ := pathOf_ok (a := name) (by assumption); have q1_ := congrArg List.length q_; rw [pathBits_len] at q1_; omega) | (have q_ := (treeCheck_iff.1 (by assumption)).len; omega))
        obtain ⟨x1, hx1⟩ := getX (l := l) (k := i) (by first | omega | (have q_ := pathOf_ok (a := name) (by assumption); have q1_ := congrArg List.length q_; rw [pathBits_len] at q1_; omega) | (have q_ := (treeCheck_iff.1 (by assumption)).len; omega))
        obtain ⟨_, ⟨rfl, w1, w2⟩, hc1⟩ := RS.get (h_l.mono hle) hx1
        refine runL_idx (b := b3) (off := o1) (len := l.length) (cap := c_l) (ik := .i64) 37 26 2 i (by first | omega | (have q_ := pathOf_ok (a := name) (by assumption); have q1_ := congrArg List.length q_; rw [pathBits_len] at q1_; omega) | (have q_ := (treeCheck_iff.1 (by assumption)).len; omega)) ?_
        refine runL_ldG 38 26 (cs := [Sr x1.name, Sr x1.value]) 0 (.agg #[Sr x1.name, Sr x1.value]) hc1 ?_
        refine runL_box 11 #[Sr ([]), Sr ([])] 26 (fun b4 => ?_)
        refine runL_bsn [3] [] [[Sg b4 0 [Sr x1.name, Sr x1.value]], ro, [Sg b2 0 [Sr name, Sl ao xo.length co, Sl none 0 0]], [Sg b1 0 [Sr ([]), Sl none 0 0, Sl none 0 0]]] ?_
        refine runL_nil ?_
        refine tq_then ?_
        refine tc_seq ?_
        refine tc_region ?_
        refine runL_bn [0,2] [(40, Sr x1.name)] ?_
        refine runL_callV 41 (Sr (way x1.name)) (pway_con g x1.name w1) ?_
        refine runL_bn [0,0] [(43, Bo (((B (way x1.name)).toList == (B ((pathOf name).1)).toList)))] ?_
        refine runL_put 43 (Bo ((way x1.name == (pathOf name).1))) ((show (Bo (((B (way x1.name)).toList == (B ((pathOf name).1)).toList)) : Value) = Bo ((way x1.name == (pathOf name).1)) by simp only [B_toList])) ?_
        refine runL_nil ?_
        refine tq_then ?_
        refine tc_condP ((way x1.name == (pathOf name).1)) (fun h4 => ?_) (fun h4 => ?_)
        ·
          refine tc_region ?_
          refine runL_bn [0,6,2] [(45, Sl ao xo.length co), (46, .agg #[Sr x1.name, Sr x1.value])] ?_
          refine runL_bsl 47 1 #[Sr x1.name, Sr x1.value] 26 (fun b5 => ?_)
          refine runL_app1' (b := b5) (cs := [Sr x1.name, Sr x1.value]) 48 26 2 0 (E := EEnt) x1 hro ⟨rfl, (by first | assumption | omega | (simp; done) | (simp; omega)), (by first | assumption | omega | (simp; done) | (simp; omega))⟩ (by have q_ := (treeCheck_iff.1 (by assumption)).len; first | (have q2_ := ownE_le (l.take i) (pathOf name).1; have q3_ := congrArg List.length hxo; rw [List.length_take] at q2_; (try simp only [EEnt, EU, List.length_append, List.length_cons, List.length_nil] at *); omega) | (have q3_ := congrArg List.length hxm; rw [sidesN_len] at q3_; (try simp only [EEnt, EU, List.length_append, List.length_cons, List.length_nil] at *); omega) | (have q3_ := congrArg List.length hxo; have q2_ := ownE_le l (pathOf name).1; (try simp only [EEnt, EU, List.length_append, List.length_cons, List.length_nil] at *); omega)) (by have q_ := (treeCheck_iff.1 (by assumption)).len; first | (have q2_ := ownE_le (l.take i) (pathOf name).1; have q3_ := congrArg List.length hxo; rw [List.length_take] at q2_; (try simp only [EEnt, EU, List.length_append, List.length_cons, List.length_nil] at *); omega) | (have q3_ := congrArg List.length hxm; rw [sidesN_len] at q3_; (try simp only [EEnt, EU, List.length_append, List.length_cons, List.length_nil] at *); omega) | (have q3_ := congrArg List.length hxo; have q2_ := ownE_le l (pathOf name).1; (try simp only [EEnt, EU, List.length_append, List.length_cons, List.length_nil] at *); omega)) (fun a1 c1 r1 hr1 => ?_)
          refine runL_bsn [0,9] [] [[Sg b5 0 [Sr x1.name, Sr x1.value]], [Sg b4 0 [Sr x1.name, Sr x1.value]], r1, [Sg b2 0 [Sr name, Sl a1 ((xo ++ [x1]).length) c1, Sl none 0 0]], [Sg b1 0 [Sr ([]), Sl none 0 0, Sl none 0 0]]] ?_
          refine runL_nil ?_
          refine tq_block ?_
          refine tq_then ?_
          refine tc_region ?_
          refine runL_bn [0,0] [(35, I (IntKind.i64.wrap (((i : Int)) + 1)))] ?_
          refine runL_wi64 35 (((i : Int)) + 1) (by first | omega | (have q_ := pathOf_ok (a := name) (by assumption); have q1_ := congrArg List.length q_; rw [pathBits_len] at q1_; omega) | (have q_ := (treeCheck_iff.1 (by assumption)).len; omega)) ?_
          refine runL_nil ?_
          refine tq_ownsA [r1, [Sg b2 0 [Sr name, Sl a1 ((xo ++ [x1]).length) c1, Sl none 0 0]], [Sg b1 0 [Sr ([]), Sl none 0 0, Sl none 0 0]]] ?_
          exact tq_rnd ((i + 1, a1, c1, r1, xo ++ [x1], g)) ⟨(Mem.le_trans hle (Mem.le_refl _)), (by omega), hr1, (by (try dsimp only); rw [hxo]; first | exact ownE_snoc hx1 (by simp_all) | exact ownE_skip hx1 (by simp_all))⟩ (by (try dsimp only); omega)
        ·
          refine tc_skip ?_
          refine tq_block ?_
          refine tq_then ?_
          refine tc_region ?_
          refine runL_bn [0,0] [(35, I (IntKind.i64.wrap (((i : Int)) + 1)))] ?_
          refine runL_wi64 35 (((i : Int)) + 1) (by first | omega | (have q_ := pathOf_ok (a := name) (by assumption); have q1_ := congrArg List.length q_; rw [pathBits_len] at q1_; omega) | (have q_ := (treeCheck_iff.1 (by assumption)).len; omega)) ?_
          refine runL_nil ?_
          refine tq_ownsA [ro, [Sg b2 0 [Sr name, Sl ao xo.length co, Sl none 0 0]], [Sg b1 0 [Sr ([]), Sl none 0 0, Sl none 0 0]]] ?_
          exact tq_rnd ((i + 1, ao, co, ro, xo, g)) ⟨(Mem.le_trans hle (Mem.le_refl _)), (by omega), hro, (by (try dsimp only); rw [hxo]; first | exact ownE_snoc hx1 (by simp_all) | exact ownE_skip hx1 (by simp_all))⟩ (by (try dsimp only); omega)
      ·
        refine tc_exit ?_
        refine tq_then_exit ?_
        refine tq_rnd_exit ?_
        refine tq_block_here ?_
        refine tq_then ?_
        refine tc_seq ?_
        refine tc_rbn [0] [(12, I 15)] ?_
        refine tc_block ?_
        refine tc_empty ?_
        have hlm_h_l : l.length ≤ 9223372036854775807 := Nat.le_trans (h_l).le (h_l).max
        refine tc_loop (σ := Int × Option Addr × Nat × List Seg × List EntD × Option Addr × Nat × List Seg × List Int × Mem) (fun q_ => (Mem.le g q_.2.2.2.2.2.2.2.2.2) ∧ (-1 ≤ q_.1 ∧ q_.1 ≤ 15) ∧ (TRow EEnt q_.2.2.2.2.2.2.2.2.2 q_.2.1 q_.2.2.1 q_.2.2.2.2.1 q_.2.2.2.1) ∧ (q_.2.2.2.2.1 = ownE l (pathOf name).1) ∧ (TRow EU q_.2.2.2.2.2.2.2.2.2 q_.2.2.2.2.2.1 q_.2.2.2.2.2.2.1 q_.2.2.2.2.2.2.2.2.1 q_.2.2.2.2.2.2.2.1) ∧ (q_.2.2.2.2.2.2.2.2.1 = sidesN l (pathOf name).1 (15 - q_.1).toNat)) (fun q_ => [(0, Sl a_l l.length c_l), (4, Pt b1 0), (7, Sr ((pathOf name).1)), (9, Pt b2 0), (12, I q_.1)]) (fun q_ => q_.2.2.2.2.2.2.2.2.2) (fun q_ => [q_.2.2.2.2.2.2.2.1, q_.2.2.2.1, [Sg b2 0 [Sr name, Sl q_.2.1 q_.2.2.2.2.1.length q_.2.2.1, Sl q_.2.2.2.2.2.1 q_.2.2.2.2.2.2.2.2.1.length q_.2.2.2.2.2.2.1]], [Sg b1 0 [Sr ([]), Sl none 0 0, Sl none 0 0]]]) (fun q_ => (q_.1 + 1).toNat) ((15, ao, co, ro, xo, none, 0, [], [], g)) ⟨(Mem.le_refl _), (by (try dsimp only); omega), hro, (by (try dsimp only); rw [hxo, List.take_of_length_le (by omega)]), (TRow.none EU _), rfl⟩ (fun q_ hs => ?_)
        obtain ⟨k, ao, co, ro, xo, am, cm, rm, xm, g1_⟩ := q_
        obtain ⟨hle1_, hk, hro, hxo, hrm, hxm⟩ := hs
        dsimp only at hle1_ hk hro hxo hrm hxm
        refine tc_eq (fr' := [(0, Sl a_l l.length c_l), (4, Pt b1 0), (7, Sr ((pathOf name).1)), (9, Pt b2 0), (12, I k)]) (L' := [rm, ro, [Sg b2 0 [Sr name, Sl ao xo.length co, Sl am xm.length cm]], [Sg b1 0 [Sr ([]), Sl none 0 0, Sl none 0 0]]]) rfl rfl ?_
        refine tc_seq ?_
        refine tc_rbn [0,0] [(52, Bo (decide (k ≥ 0)))] ?_
        refine tc_condP (decide (k ≥ 0)) (fun h5 => ?_) (fun h5 => ?_)
        ·
          refine tc_skip ?_
          refine tq_then ?_
          refine tc_seq ?_
          refine tc_block ?_
          obtain ⟨kn1, hkn1⟩ : ∃ k_ : Nat, k = (k_ : Int) := ⟨(k).toNat, by first | omega | (have q_ := pathOf_ok (a := name) (by assumption); have q1_ := congrArg List.length q_; rw [pathBits_len] at q1_; omega) | (have q_ := (treeCheck_iff.1 (by assumption)).len; omega)⟩
          have e1 : k = (kn1 : Int) := hkn1
          refine tc_put 12 (I ((kn1 : Int))) (congrArg I e1) ?_
          refine tc_seq ?_
          obtain ⟨y1, hy1⟩ := getX (l := (pathOf name).1) (k := kn1) (by first | omega | (have q_ := pathOf_ok (a := name) (by assumption); have q1_ := congrArg List.length q_; rw [pathBits_len] at q1_; omega) | (have q_ := (treeCheck_iff.1 (by assumption)).len; omega))
          have hb_y1 := y1.toNat_lt
          have e2 : IntKind.i32.wrap ((y1.toNat : Int)) = (y1.toNat : Int) := by (rw [IntKind.wrap_i32]; omega)
          have e3 : IntKind.i32.wrap (97 - ((y1.toNat : Int))) = 97 - (y1.toNat : Int) := by (rw [IntKind.wrap_i32]; omega)
          refine tc_draw [] ?_
          refine dr_V [(0, Sr ((pathOf name).1)), (1, I ((kn1 : Int))), (2, Sr (((pathOf name).1).take kn1)), (3, Sr ((pathOf name).1)), (4, I ((kn1 : Int))), (5, Y ((y1.toNat : Int))), (6, .int .i32 ((y1.toNat : Int))), (7, .int .i32 (97 - (y1.toNat : Int))), (8, Sr ([flipB y1])), (9, Sr ((((pathOf name).1).take kn1) ++ ([flipB y1]))), (10, Sr ((((pathOf name).1).take kn1) ++ ([flipB y1])))] ?_
          refine dr_end [] [(0,0), (1,0), (3,0), (4,0), (10,0)] [2, 5, 6, 7, 8, 9] [(0, Sl a_l l.length c_l), (4, Pt b1 0), (7, Sr ((pathOf name).1)), (9, Pt b2 0), (12, I ((kn1 : Int))), (13, Sr ((((pathOf name).1).take kn1) ++ ([flipB y1])))] (fmc ?_ (fmc ?_ (fmc ?_ (fmc ?_ (fmc ?_ (fmc ?_ fm0)))))) ?_
          · refine stab_of 2 57 (Sr (((pathOf name).1).take kn1)) [(55, Sr ((pathOf name).1)), (56, I ((kn1 : Int)))] (fun X => ?_)
            exact runL_sslT (l := (pathOf name).1) 57 none (some (I ((kn1 : Int)))) 0 kn1 (.inl ⟨rfl, rfl⟩) (.inr ⟨_, rfl⟩) (Nat.zero_le _) (by first | omega | (have q_ := pathOf_ok (a := name) (by assumption); have q1_ := congrArg List.length q_; rw [pathBits_len] at q1_; omega) | (have q_ := (treeCheck_iff.1 (by assumption)).len; omega)) stab_end
          · refine stab_of 5 60 (Y ((y1.toNat : Int))) [(58, Sr ((pathOf name).1)), (59, I ((kn1 : Int)))] (fun X => ?_)
            exact runL_sidx (ik := .i64) 60 kn1 y1 hy1 stab_end
          · refine stab_of 6 61 (.int .i32 ((y1.toNat : Int))) [(60, Y ((y1.toNat : Int)))] (fun X => ?_)
            exact runL_p1 61 (.int .i32 (IntKind.i32.wrap ((y1.toNat : Int)))) (.int .i32 ((y1.toNat : Int))) (by simp only [e2]) stab_end
          · refine stab_of 7 62 (.int .i32 (97 - (y1.toNat : Int))) [(61, .int .i32 ((y1.toNat : Int)))] (fun X => ?_)
            exact runL_p1 62 (.int .i32 (IntKind.i32.wrap (97 - ((y1.toNat : Int))))) (.int .i32 (97 - (y1.toNat : Int))) (by simp only [e3]) stab_end
          · refine stab_of 8 63 (Sr ([flipB y1])) [(62, .int .i32 (97 - (y1.toNat : Int)))] (fun X => ?_)
            exact runL_r2s 63 (97 - (y1.toNat : Int)) [flipB y1] (encode_flip (isB_bd (pathBits_B name _ (List.mem_of_getElem? (by rw [← pathOf_ok (by assumption)]; exact hy1))))) stab_end
          · refine stab_of 9 64 (Sr ((((pathOf name).1).take kn1) ++ ([flipB y1]))) [(57, Sr (((pathOf name).1).take kn1)), (63, Sr ([flipB y1]))] (fun X => ?_)
            exact runL_cat 64 (((pathOf name).1).take kn1) ([flipB y1]) (by (try simp only [List.length_append, List.length_take, List.length_cons, List.length_nil]); omega) stab_end
          refine tq_then ?_
          refine tc_seq ?_
          refine tc_region ?_
          refine runL_bn [0,0] [(66, Sl a_l l.length c_l), (67, Sr ((((pathOf name).1).take kn1) ++ ([flipB y1])))] ?_
          refine runL_callV 68 (.tuple #[U ((treeAtE l ((((pathOf name).1).take kn1) ++ ([flipB y1]))).1), I ((treeAtE l ((((pathOf name).1).take kn1) ++ ([flipB y1]))).2)]) (treeAtE_con g1_ a_l c_l l (h_l.mono (Mem.le_trans hle hle1_)) ((((pathOf name).1).take kn1) ++ ([flipB y1])) (by first | assumption | omega | (simp; done) | (simp; omega))) ?_
          refine runL_bn [0,0,0,0,0] [(14, U ((treeAtE l ((((pathOf name).1).take kn1) ++ ([flipB y1]))).1))] ?_
          refine runL_nil ?_
          refine tq_then ?_
          refine tc_region ?_
          refine runL_bn [0,6,0] [(72, Sl am xm.length cm), (73, U ((treeAtE l ((((pathOf name).1).take kn1) ++ ([flipB y1]))).1))] ?_
          refine runL_bsl 74 1 #[U ((treeAtE l ((((pathOf name).1).take kn1) ++ ([flipB y1]))).1)] 49 (fun b6 => ?_)
          refine runL_app1' (b := b6) (cs := [U ((treeAtE l ((((pathOf name).1).take kn1) ++ ([flipB y1]))).1)]) 75 49 1 0 (E := EU) ((treeAtE l ((((pathOf name).1).take kn1) ++ ([flipB y1]))).1) hrm ⟨rfl, (treeAtE_bd _ _)⟩ (by have q_ := (treeCheck_iff.1 (by assumption)).len; first | (have q2_ := ownE_le (l.take i) (pathOf name).1; have q3_ := congrArg List.length hxo; rw [List.length_take] at q2_; (try simp only [EEnt, EU, List.length_append, List.length_cons, List.length_nil] at *); omega) | (have q3_ := congrArg List.length hxm; rw [sidesN_len] at q3_; (try simp only [EEnt, EU, List.length_append, List.length_cons, List.length_nil] at *); omega) | (have q3_ := congrArg List.length hxo; have q2_ := ownE_le l (pathOf name).1; (try simp only [EEnt, EU, List.length_append, List.length_cons, List.length_nil] at *); omega)) (by have q_ := (treeCheck_iff.1 (by assumption)).len; first | (have q2_ := ownE_le (l.take i) (pathOf name).1; have q3_ := congrArg List.length hxo; rw [List.length_take] at q2_; (try simp only [EEnt, EU, List.length_append, List.length_cons, List.length_nil] at *); omega) | (have q3_ := congrArg List.length hxm; rw [sidesN_len] at q3_; (try simp only [EEnt, EU, List.length_append, List.length_cons, List.length_nil] at *); omega) | (have q3_ := congrArg List.length hxo; have q2_ := ownE_le l (pathOf name).1; (try simp only [EEnt, EU, List.length_append, List.length_cons, List.length_nil] at *); omega)) (fun a2 c2 r2 hr2 => ?_)
          refine runL_bsn [0,9] [] [[Sg b6 0 [U ((treeAtE l ((((pathOf name).1).take kn1) ++ ([flipB y1]))).1)]], r2, ro, [Sg b2 0 [Sr name, Sl ao xo.length co, Sl a2 ((xm ++ [(treeAtE l ((((pathOf name).1).take kn1) ++ ([flipB y1]))).1]).length) c2]], [Sg b1 0 [Sr ([]), Sl none 0 0, Sl none 0 0]]] ?_
          refine runL_nil ?_
          refine tq_block ?_
          refine tq_then ?_
          refine tc_region ?_
          refine runL_bn [0,0,0] [(12, I (IntKind.i64.wrap (((kn1 : Int)) - 1)))] ?_
          refine runL_wi64 12 (((kn1 : Int)) - 1) (by first | omega | (have q_ := pathOf_ok (a := name) (by assumption); have q1_ := congrArg List.length q_; rw [pathBits_len] at q1_; omega) | (have q_ := (treeCheck_iff.1 (by assumption)).len; omega)) ?_
          refine runL_nil ?_
          refine tq_ownsA [r2, ro, [Sg b2 0 [Sr name, Sl ao xo.length co, Sl a2 ((xm ++ [(treeAtE l ((((pathOf name).1).take kn1) ++ ([flipB y1]))).1]).length) c2]], [Sg b1 0 [Sr ([]), Sl none 0 0, Sl none 0 0]]] ?_
          exact tq_rnd ((((kn1 : Int)) - 1, ao, co, ro, xo, a2, c2, r2, xm ++ [(treeAtE l ((((pathOf name).1).take kn1) ++ ([flipB y1]))).1], g1_)) ⟨(Mem.le_trans hle1_ (Mem.le_refl _)), (by (try dsimp only); omega), hro, hxo, hr2, (by (try dsimp only); rw [hxm, show (15 - ((kn1 : Int) - 1)).toNat = 15 - kn1 + 1 by omega, show (15 - k).toNat = 15 - kn1 by omega]; exact sidesN_next hy1 (by omega))⟩ (by (try dsimp only); omega)
        ·
          refine tc_exit ?_
          refine tq_then_exit ?_
          refine tq_rnd_exit ?_
          refine tq_block_here ?_
          refine tq_then ?_
          refine tc_rbsn [6,9,0] [(5, I 0)] [rm, ro, [Sg b2 0 [Sr name, Sl ao xo.length co, Sl am xm.length cm]], [Sg b1 0 [Sr name, Sl ao xo.length co, Sl am xm.length cm]]] ?_
          refine tc_ret ?_
          refine tq_frzR (E := EU) 0 hrm (by have q_ := (treeCheck_iff.1 (by assumption)).len; first | (have q2_ := ownE_le (l.take i) (pathOf name).1; have q3_ := congrArg List.length hxo; rw [List.length_take] at q2_; (try simp only [EEnt, EU, List.length_append, List.length_cons, List.length_nil] at *); omega) | (have q3_ := congrArg List.length hxm; rw [sidesN_len] at q3_; (try simp only [EEnt, EU, List.length_append, List.length_cons, List.length_nil] at *); omega) | (have q3_ := congrArg List.length hxo; have q2_ := ownE_le l (pathOf name).1; (try simp only [EEnt, EU, List.length_append, List.length_cons, List.length_nil] at *); omega)) (fun G1 hl1 hs1 => ?_)
          refine tq_front 1 ?_
          have hf3 : proofMake l name = ((⟨name, xo, xm⟩ : ProofD), 0) := by
            unfold proofMake proofZ; first | (rw [if_pos (by assumption)]; done) | (rw [if_neg (by omega)]; first | (rw [if_pos (by assumption)]; done) | (rw [if_neg (by omega), hxo, hxm, show (15 - k).toNat = 16 by omega]; done))
          refine tq_ret [3, 0] [.agg #[Sr name, Sl ao xo.length co, Sl am xm.length cm], I 0] (bp_rowsA [ro] (Mem.le_trans (Mem.le_trans hle hle1_) hl1) ?_)
          rw [hf3]
          try dsimp only
          exact ⟨ao, co, am, cm, ro, rfl, hw_name, (hro.mono hl1), hs1, rfl⟩

theorem bookOwn_con (G : Mem) (a_l : Option Addr) (c_l : Nat) (l : List EntD) (h_l : RS EEnt G a_l c_l l) (a_c : Option Addr) (c_c : Nat) (c : List EntD) (h_c : RS EEnt G a_c c_c c) (name : List UInt8) (hw_name : (name).length ≤ 140737488351232) (value : List UInt8) (hw_value : (value).length ≤ 140737488351232) (hf_l : l.length * 32 ≤ 140737488351232) (hf_c : c.length * 32 ≤ 140737488351232) : ConV 3 #[Sl a_l l.length c_l, Sl a_c c.length c_c, Sr name, Sr value] G (Bo true) := by
  refine con_of Tryd.func3 88 [(0, Sl a_l l.length c_l), (1, Sl a_c c.length c_c), (2, Sr name), (3, Sr value)] rfl (fun w0 G0 => ?_)
  refine tc_rbn [0] [] ?_
  refine tc_seq ?_
  refine tc_seq ?_
  refine tc_region ?_
  refine runL_callV 22 (Bo true) (trees_con2 G) ?_
  refine runL_bn [0] [(23, Bo false)] ?_
  refine runL_nil ?_
  refine tq_then ?_
  refine tc_cond_false ?_
  refine tc_skip ?_
  refine tq_then ?_
  refine tc_seq ?_
  refine tc_region ?_
  refine runL_bn [0] [(24, Sl a_l l.length c_l)] ?_
  refine runL_callR 25 (sclone_EEnt G a_l c_l l h_l) (fun v G1 L1 hl1 hp => ?_)
  obtain ⟨a1, c1, r1, rfl, hr1, rfl⟩ := hp
  refine runL_bn [0] [(9, Sl a1 l.length c1)] ?_
  refine runL_nil ?_
  refine tq_then ?_
  refine tc_seq ?_
  refine tc_region ?_
  refine runL_bn [0,0,0] [(27, Sl a_l l.length c_l), (28, Sr name), (29, Sr value)] ?_
  refine runL_callR 30 (treeSet_con G1 a_l c_l l (h_l.mono hl1) name hw_name value hw_value) (fun v G2 L1 hl2 hp => ?_)
  obtain ⟨a2, c2, r2, rfl, hr2, rfl⟩ := hp
  refine runL_bn [0,0,0,0,0] [(10, Sl a2 (((treeSet l name value).1).length) c2)] ?_
  refine runL_nil ?_
  refine tq_then ?_
  refine tc_seq ?_
  refine tc_region ?_
  refine runL_bn [0,0] [(34, Sl a_l l.length c_l), (35, Sr name)] ?_
  refine runL_callR 36 (treeDrop_con G2 a_l c_l l (h_l.mono (Mem.le_trans hl1 hl2)) name hw_name) (fun v G3 L1 hl3 hp => ?_)
  obtain ⟨a3, c3, r3, rfl, hr3, rfl⟩ := hp
  refine runL_bn [0,0,0,0,0] [(12, Sl a3 (((treeDrop l name).1).length) c3)] ?_
  refine runL_nil ?_
  refine tq_then ?_
  refine tc_seq ?_
  refine tc_region ?_
  refine runL_bn [0,0] [(40, Sl a_l l.length c_l), (41, Sl a_c c.length c_c)] ?_
  refine runL_callR 42 (chApply_con G3 a_l c_l l (h_l.mono (Mem.le_trans (Mem.le_trans hl1 hl2) hl3)) a_c c_c c (h_c.mono (Mem.le_trans (Mem.le_trans hl1 hl2) hl3))) (fun v G4 L1 hl4 hp => ?_)
  obtain ⟨a4, c4, r4, rfl, hr4, rfl⟩ := hp
  refine runL_bn [0,0,0,0,0] [(14, Sl a4 (((chApply l c).1).length) c4)] ?_
  refine runL_nil ?_
  refine tq_then ?_
  refine tc_seq ?_
  refine tc_region ?_
  refine runL_bn [0,0] [(46, Sl a_l l.length c_l), (47, Sr name)] ?_
  refine runL_callR 48 (proofMakeO_con G4 a_l c_l l (h_l.mono (Mem.le_trans (Mem.le_trans (Mem.le_trans hl1 hl2) hl3) hl4)) name hw_name) (fun v G5 L1 hl5 hp => ?_)
  obtain ⟨a5, c5, a6, c6, r5, rfl, w1, hr5, hs1, rfl⟩ := hp
  refine runL_bn [0,0,0] [(49, .agg #[Sr (((proofMake l name).1).name), Sl a5 ((((proofMake l name).1).entries).length) c5, Sl a6 ((((proofMake l name).1).sides).length) c6]), (50, I ((proofMake l name).2))] ?_
  refine runL_box 16 #[Sr ([]), Sl none 0 0, Sl none 0 0] 34 (fun b1 => ?_)
  refine runL_bsn [3,0] [] [[Sg b1 0 [Sr (((proofMake l name).1).name), Sl a5 ((((proofMake l name).1).entries).length) c5, Sl a6 ((((proofMake l name).1).sides).length) c6]], r5, r4, r3, r2, r1] ?_
  refine runL_nil ?_
  refine tq_then ?_
  refine tc_seq ?_
  refine tc_region ?_
  refine runL_bn [0,0] [(51, Sl a_l l.length c_l), (52, Sl a1 l.length c1)] ?_
  refine runL_frzR (E := EEnt) 5 (hr1.mono (Mem.le_trans (Mem.le_trans (Mem.le_trans hl2 hl3) hl4) hl5)) (by exact (h_l).fit) (fun G6 hl6 hs2 => ?_)
  refine runL_callV 53 (Bo (decide (l = l))) (seq_EEnt G6 a_l c_l l (h_l.mono (Mem.le_trans (Mem.le_trans (Mem.le_trans (Mem.le_trans (Mem.le_trans hl1 hl2) hl3) hl4) hl5) hl6)) a1 c1 l hs2) ?_
  refine runL_bn [0] [(18, Bo (decide (l = l)))] ?_
  refine runL_nil ?_
  refine tq_then ?_
  refine tc_seq ?_
  refine tc_rbn [0,0,0,0,2,0,0] [(59, .agg #[Sl a2 (((treeSet l name value).1).length) c2, Sl a3 (((treeDrop l name).1).length) c3, Sl a4 (((chApply l c).1).length) c4, Sl a5 ((((proofMake l name).1).entries).length) c5]), (60, I 0)] ?_
  refine tc_block ?_
  refine tc_unroll 5 ?_
  refine ti_step ?_
  refine tc_rbn [0] [(61, Bo true)] ?_
  refine tc_seq ?_
  refine tc_cond_true ?_
  refine tc_skip ?_
  refine tq_then ?_
  refine tc_seq ?_
  refine tc_block ?_
  refine tc_seq ?_
  refine tc_region ?_
  refine runL_p1 62 (Sl a2 (((treeSet l name value).1).length) c2) (Sl a2 (((treeSet l name value).1).length) c2) rfl ?_
  refine runL_bn [0] [(20, Sl a2 (((treeSet l name value).1).length) c2)] ?_
  refine runL_nil ?_
  refine tq_then ?_
  refine tc_seq ?_
  refine tc_region ?_
  refine runL_bn [0,0,0] [(63, Sl a2 (((treeSet l name value).1).length) c2), (65, I (((c2 : Nat) : Int)))] ?_
  obtain ⟨l1, hl7, hb1, hT1⟩ := TRow.full (hr2.mono (Mem.le_trans (Mem.le_trans (Mem.le_trans hl3 hl4) hl5) hl6))
  have hl7m : l1.length ≤ 9223372036854775807 := by rw [hl7]; exact TRow.mx hT1
  refine runL_slCap (len := ((treeSet l name value).1).length) 66 hT1 hl7 (TRow.lec ((hr2.mono (Mem.le_trans (Mem.le_trans (Mem.le_trans hl3 hl4) hl5) hl6)))) ?_
  refine runL_bn [0] [(20, Sl a2 l1.length c2)] ?_
  refine runL_nil ?_
  refine tq_then ?_
  refine tc_rbn [0,0,0] [(68, I (((l1.length : Nat) : Int))), (69, I 0)] ?_
  refine tc_block ?_
  have hlm_h_l : l.length ≤ 9223372036854775807 := Nat.le_trans (h_l).le (h_l).max
  have hlm_hs2 : l.length ≤ 9223372036854775807 := Nat.le_trans (hs2).le (hs2).max
  refine tc_loop (σ := Nat × Option Addr × Nat × List Seg × List EntD) (fun q_ => (q_.1 ≤ l1.length) ∧ (TRow EEntB G6 q_.2.1 q_.2.2.1 q_.2.2.2.2 q_.2.2.2.1) ∧ (q_.2.2.2.2.length = l1.length ∧ ∀ j, q_.1 ≤ j → ∀ y, q_.2.2.2.2[j]? = some y → y.value.length ≤ 140737488351232)) (fun q_ => [(0, Sl a_l l.length c_l), (9, Sl a1 l.length c1), (18, Bo (decide (l = l))), (20, Sl q_.2.1 q_.2.2.2.2.length q_.2.2.1), (59, .agg #[Sl a2 (((treeSet l name value).1).length) c2, Sl a3 (((treeDrop l name).1).length) c3, Sl a4 (((chApply l c).1).length) c4, Sl a5 ((((proofMake l name).1).entries).length) c5]), (60, I 0), (68, I (((l1.length : Nat) : Int))), (69, I ((q_.1 : Int)))]) (fun q_ => G6) (fun q_ => [[Sg b1 0 [Sr (((proofMake l name).1).name), Sl a5 ((((proofMake l name).1).entries).length) c5, Sl a6 ((((proofMake l name).1).sides).length) c6]], r5, r4, r3, q_.2.2.2.1, []]) (fun q_ => l1.length - q_.1) ((0, a2, c2, r2, l1)) ⟨(by (try dsimp only); first | exact Nat.zero_le _ | omega | simp), hT1, ⟨rfl, fun j _ y hy => hb1 y (List.mem_of_getElem? hy)⟩⟩ (fun q_ hs => ?_)
  obtain ⟨i, aw0, cw0, rw0, xw0⟩ := q_
  obtain ⟨hi, hrw0, hxw0⟩ := hs
  dsimp only at hi hrw0 hxw0
  refine tc_eq (fr' := [(0, Sl a_l l.length c_l), (9, Sl a1 l.length c1), (18, Bo (decide (l = l))), (20, Sl aw0 xw0.length cw0), (59, .agg #[Sl a2 (((treeSet l name value).1).length) c2, Sl a3 (((treeDrop l name).1).length) c3, Sl a4 (((chApply l c).1).length) c4, Sl a5 ((((proofMake l name).1).entries).length) c5]), (60, I 0), (68, I (((l1.length : Nat) : Int))), (69, I ((i : Int)))]) (L' := [[Sg b1 0 [Sr (((proofMake l name).1).name), Sl a5 ((((proofMake l name).1).entries).length) c5, Sl a6 ((((proofMake l name).1).sides).length) c6]], r5, r4, r3, rw0, []]) rfl rfl ?_
  refine tc_rbn [0] [(70, Bo (decide ((i : Int) < ((l1.length : Nat) : Int))))] ?_
  refine tc_seq ?_
  refine tc_condP (decide ((i : Int) < ((l1.length : Nat) : Int))) (fun h1 => ?_) (fun h1 => ?_)
  ·
    refine tc_skip ?_
    refine tq_then ?_
    refine tc_seq ?_
    refine tc_block ?_
    refine tc_rbn [0,0] [(21, I ((i : Int)))] ?_
    refine tc_region ?_
    refine runL_bn [0,0] [(72, Sl aw0 xw0.length cw0), (73, I ((i : Int)))] ?_
    obtain ⟨x1, hx1⟩ := getX (l := xw0) (k := i) (by first | omega | (have q_ := hxw0.1; (try simp only [List.length_set]); omega) | (have q_ := hxw1.1; (try simp only [List.length_set]); omega) | (have q_ := hxw2.1; (try simp only [List.length_set]); omega) | (have q_ := hxw3.1; (try simp only [List.length_set]); omega))
    obtain ⟨b2, o1, fu1, _, rfl, ha1, hre1, hc1⟩ := TRow.ix hrw0 hx1
    refine runL_idxR (b := b2) (off := o1) (len := xw0.length) (cap := cw0) (ik := .i64) 74 26 2 i ha1 (by first | omega | (have q_ := hxw0.1; (try simp only [List.length_set]); omega) | (have q_ := hxw1.1; (try simp only [List.length_set]); omega) | (have q_ := hxw2.1; (try simp only [List.length_set]); omega) | (have q_ := hxw3.1; (try simp only [List.length_set]); omega)) ?_
    refine runL_bn [0] [(75, Pt b2 (o1 + i * 2 + 1))] ?_
    refine runL_ldR (off := o1) (p := i * 2) (cs := [Sr x1.name, Sr x1.value]) 76 9 4 1 (Sr x1.value) hre1 hc1 ?_
    refine runL_cat 77 x1.value ([33]) (by first | (have q_ := hxw0.2 _ (Nat.le_refl _) _ (by assumption); simp only [List.length_cons, List.length_nil]; omega) | (have q_ := hxw1.2 _ (Nat.le_refl _) _ (by assumption); simp only [List.length_cons, List.length_nil]; omega) | (have q_ := hxw2.2 _ (Nat.le_refl _) _ (by assumption); simp only [List.length_cons, List.length_nil]; omega) | (have q_ := hxw3.2 _ (Nat.le_refl _) _ (by assumption); simp only [List.length_cons, List.length_nil]; omega)) ?_
    refine runL_idxR (b := b2) (off := o1) (len := xw0.length) (cap := cw0) (ik := .i64) 78 26 2 i ha1 (by first | omega | (have q_ := hxw0.1; (try simp only [List.length_set]); omega) | (have q_ := hxw1.1; (try simp only [List.length_set]); omega) | (have q_ := hxw2.1; (try simp only [List.length_set]); omega) | (have q_ := hxw3.1; (try simp only [List.length_set]); omega)) ?_
    refine runL_bn [0] [(79, Pt b2 (o1 + i * 2 + 1))] ?_
    refine runL_stRf (b := b2) (off := o1) 4 hrw0 i 1 x1 (⟨x1.name, x1.value ++ ([33])⟩ : EntD) ha1 hx1 (Sr (x1.value ++ ([33]))) (by decide) (fun cs h_ => by rw [show cs = _ from h_]; rfl) (fun r6 hr6 => ?_)
    have e1 : xw0.length = (xw0.set i (⟨x1.name, x1.value ++ ([33])⟩ : EntD)).length := (List.length_set ..).symm
    refine runL_put 20 (Sl aw0 ((xw0.set i (⟨x1.name, x1.value ++ ([33])⟩ : EntD)).length) cw0) (congrArg (Sl aw0 · cw0) e1) ?_
    refine runL_nil ?_
    refine tq_block ?_
    refine tq_then ?_
    refine tc_region ?_
    refine runL_bn [0,0] [(69, I (IntKind.i64.wrap (((i : Int)) + 1)))] ?_
    refine runL_wi64 69 (((i : Int)) + 1) (by first | omega | (have q_ := hxw0.1; (try simp only [List.length_set]); omega) | (have q_ := hxw1.1; (try simp only [List.length_set]); omega) | (have q_ := hxw2.1; (try simp only [List.length_set]); omega) | (have q_ := hxw3.1; (try simp only [List.length_set]); omega)) ?_
    refine runL_nil ?_
    exact tq_rnd ((i + 1, aw0, cw0, r6, xw0.set i (⟨x1.name, x1.value ++ ([33])⟩ : EntD))) ⟨(by omega), hr6, ⟨by (try dsimp only); rw [List.length_set]; exact hxw0.1, fun j hj y hy => hxw0.2 j (by omega) y (by rwa [List.getElem?_set_ne (by omega)] at hy)⟩⟩ (by (try dsimp only); omega)
  ·
    refine tc_exit ?_
    refine tq_then_exit ?_
    refine tq_rnd_exit ?_
    refine tq_block_here ?_
    refine tq_block ?_
    refine tq_then ?_
    refine tc_region ?_
    refine runL_bn [0,0] [(60, I 1)] ?_
    refine runL_nil ?_
    refine tq_iter ?_
    refine ti_step ?_
    refine tc_rbn [0] [(61, Bo true)] ?_
    refine tc_seq ?_
    refine tc_cond_true ?_
    refine tc_skip ?_
    refine tq_then ?_
    refine tc_seq ?_
    refine tc_block ?_
    refine tc_seq ?_
    refine tc_region ?_
    refine runL_p1 62 (Sl a3 (((treeDrop l name).1).length) c3) (Sl a3 (((treeDrop l name).1).length) c3) rfl ?_
    refine runL_bn [0] [(20, Sl a3 (((treeDrop l name).1).length) c3)] ?_
    refine runL_nil ?_
    refine tq_then ?_
    refine tc_seq ?_
    refine tc_region ?_
    refine runL_bn [0,0,0] [(63, Sl a3 (((treeDrop l name).1).length) c3), (65, I (((c3 : Nat) : Int)))] ?_
    obtain ⟨l2, hl8, hb2, hT2⟩ := TRow.full (hr3.mono (Mem.le_trans (Mem.le_trans hl4 hl5) hl6))
    have hl8m : l2.length ≤ 9223372036854775807 := by rw [hl8]; exact TRow.mx hT2
    refine runL_slCap (len := ((treeDrop l name).1).length) 66 hT2 hl8 (TRow.lec ((hr3.mono (Mem.le_trans (Mem.le_trans hl4 hl5) hl6)))) ?_
    refine runL_bn [0] [(20, Sl a3 l2.length c3)] ?_
    refine runL_nil ?_
    refine tq_then ?_
    refine tc_rbn [0,0,0] [(68, I (((l2.length : Nat) : Int))), (69, I 0)] ?_
    refine tc_block ?_
    have hlm_h_l : l.length ≤ 9223372036854775807 := Nat.le_trans (h_l).le (h_l).max
    have hlm_hs2 : l.length ≤ 9223372036854775807 := Nat.le_trans (hs2).le (hs2).max
    refine tc_loop (σ := Nat × Option Addr × Nat × List Seg × List EntD) (fun q_ => (q_.1 ≤ l2.length) ∧ (TRow EEntB G6 q_.2.1 q_.2.2.1 q_.2.2.2.2 q_.2.2.2.1) ∧ (q_.2.2.2.2.length = l2.length ∧ ∀ j, q_.1 ≤ j → ∀ y, q_.2.2.2.2[j]? = some y → y.value.length ≤ 140737488351232)) (fun q_ => [(0, Sl a_l l.length c_l), (9, Sl a1 l.length c1), (18, Bo (decide (l = l))), (20, Sl q_.2.1 q_.2.2.2.2.length q_.2.2.1), (59, .agg #[Sl a2 (((treeSet l name value).1).length) c2, Sl a3 (((treeDrop l name).1).length) c3, Sl a4 (((chApply l c).1).length) c4, Sl a5 ((((proofMake l name).1).entries).length) c5]), (60, I 1), (68, I (((l2.length : Nat) : Int))), (69, I ((q_.1 : Int)))]) (fun q_ => G6) (fun q_ => [[Sg b1 0 [Sr (((proofMake l name).1).name), Sl a5 ((((proofMake l name).1).entries).length) c5, Sl a6 ((((proofMake l name).1).sides).length) c6]], r5, r4, q_.2.2.2.1, rw0, []]) (fun q_ => l2.length - q_.1) ((0, a3, c3, r3, l2)) ⟨(by (try dsimp only); first | exact Nat.zero_le _ | omega | simp), hT2, ⟨rfl, fun j _ y hy => hb2 y (List.mem_of_getElem? hy)⟩⟩ (fun q_ hs => ?_)
    obtain ⟨i, aw1, cw1, rw1, xw1⟩ := q_
    obtain ⟨hi, hrw1, hxw1⟩ := hs
    dsimp only at hi hrw1 hxw1
    refine tc_eq (fr' := [(0, Sl a_l l.length c_l), (9, Sl a1 l.length c1), (18, Bo (decide (l = l))), (20, Sl aw1 xw1.length cw1), (59, .agg #[Sl a2 (((treeSet l name value).1).length) c2, Sl a3 (((treeDrop l name).1).length) c3, Sl a4 (((chApply l c).1).length) c4, Sl a5 ((((proofMake l name).1).entries).length) c5]), (60, I 1), (68, I (((l2.length : Nat) : Int))), (69, I ((i : Int)))]) (L' := [[Sg b1 0 [Sr (((proofMake l name).1).name), Sl a5 ((((proofMake l name).1).entries).length) c5, Sl a6 ((((proofMake l name).1).sides).length) c6]], r5, r4, rw1, rw0, []]) rfl rfl ?_
    refine tc_rbn [0] [(70, Bo (decide ((i : Int) < ((l2.length : Nat) : Int))))] ?_
    refine tc_seq ?_
    refine tc_condP (decide ((i : Int) < ((l2.length : Nat) : Int))) (fun h2 => ?_) (fun h2 => ?_)
    ·
      refine tc_skip ?_
      refine tq_then ?_
      refine tc_seq ?_
      refine tc_block ?_
      refine tc_rbn [0,0] [(21, I ((i : Int)))] ?_
      refine tc_region ?_
      refine runL_bn [0,0] [(72, Sl aw1 xw1.length cw1), (73, I ((i : Int)))] ?_
      obtain ⟨x2, hx2⟩ := getX (l := xw1) (k := i) (by first | omega | (have q_ := hxw0.1; (try simp only [List.length_set]); omega) | (have q_ := hxw1.1; (try simp only [List.length_set]); omega) | (have q_ := hxw2.1; (try simp only [List.length_set]); omega) | (have q_ := hxw3.1; (try simp only [List.length_set]); omega))
      obtain ⟨b3, o2, fu2, _, rfl, ha2, hre2, hc2⟩ := TRow.ix hrw1 hx2
      refine runL_idxR (b := b3) (off := o2) (len := xw1.length) (cap := cw1) (ik := .i64) 74 26 2 i ha2 (by first | omega | (have q_ := hxw0.1; (try simp only [List.length_set]); omega) | (have q_ := hxw1.1; (try simp only [List.length_set]); omega) | (have q_ := hxw2.1; (try simp only [List.length_set]); omega) | (have q_ := hxw3.1; (try simp only [List.length_set]); omega)) ?_
      refine runL_bn [0] [(75, Pt b3 (o2 + i * 2 + 1))] ?_
      refine runL_ldR (off := o2) (p := i * 2) (cs := [Sr x2.name, Sr x2.value]) 76 9 3 1 (Sr x2.value) hre2 hc2 ?_
      refine runL_cat 77 x2.value ([33]) (by first | (have q_ := hxw0.2 _ (Nat.le_refl _) _ (by assumption); simp only [List.length_cons, List.length_nil]; omega) | (have q_ := hxw1.2 _ (Nat.le_refl _) _ (by assumption); simp only [List.length_cons, List.length_nil]; omega) | (have q_ := hxw2.2 _ (Nat.le_refl _) _ (by assumption); simp only [List.length_cons, List.length_nil]; omega) | (have q_ := hxw3.2 _ (Nat.le_refl _) _ (by assumption); simp only [List.length_cons, List.length_nil]; omega)) ?_
      refine runL_idxR (b := b3) (off := o2) (len := xw1.length) (cap := cw1) (ik := .i64) 78 26 2 i ha2 (by first | omega | (have q_ := hxw0.1; (try simp only [List.length_set]); omega) | (have q_ := hxw1.1; (try simp only [List.length_set]); omega) | (have q_ := hxw2.1; (try simp only [List.length_set]); omega) | (have q_ := hxw3.1; (try simp only [List.length_set]); omega)) ?_
      refine runL_bn [0] [(79, Pt b3 (o2 + i * 2 + 1))] ?_
      refine runL_stRf (b := b3) (off := o2) 3 hrw1 i 1 x2 (⟨x2.name, x2.value ++ ([33])⟩ : EntD) ha2 hx2 (Sr (x2.value ++ ([33]))) (by decide) (fun cs h_ => by rw [show cs = _ from h_]; rfl) (fun r7 hr7 => ?_)
      have e2 : xw1.length = (xw1.set i (⟨x2.name, x2.value ++ ([33])⟩ : EntD)).length := (List.length_set ..).symm
      refine runL_put 20 (Sl aw1 ((xw1.set i (⟨x2.name, x2.value ++ ([33])⟩ : EntD)).length) cw1) (congrArg (Sl aw1 · cw1) e2) ?_
      refine runL_nil ?_
      refine tq_block ?_
      refine tq_then ?_
      refine tc_region ?_
      refine runL_bn [0,0] [(69, I (IntKind.i64.wrap (((i : Int)) + 1)))] ?_
      refine runL_wi64 69 (((i : Int)) + 1) (by first | omega | (have q_ := hxw0.1; (try simp only [List.length_set]); omega) | (have q_ := hxw1.1; (try simp only [List.length_set]); omega) | (have q_ := hxw2.1; (try simp only [List.length_set]); omega) | (have q_ := hxw3.1; (try simp only [List.length_set]); omega)) ?_
      refine runL_nil ?_
      exact tq_rnd ((i + 1, aw1, cw1, r7, xw1.set i (⟨x2.name, x2.value ++ ([33])⟩ : EntD))) ⟨(by omega), hr7, ⟨by (try dsimp only); rw [List.length_set]; exact hxw1.1, fun j hj y hy => hxw1.2 j (by omega) y (by rwa [List.getElem?_set_ne (by omega)] at hy)⟩⟩ (by (try dsimp only); omega)
    ·
      refine tc_exit ?_
      refine tq_then_exit ?_
      refine tq_rnd_exit ?_
      refine tq_block_here ?_
      refine tq_block ?_
      refine tq_then ?_
      refine tc_region ?_
      refine runL_bn [0,0] [(60, I 2)] ?_
      refine runL_nil ?_
      refine tq_iter ?_
      refine ti_step ?_
      refine tc_rbn [0] [(61, Bo true)] ?_
      refine tc_seq ?_
      refine tc_cond_true ?_
      refine tc_skip ?_
      refine tq_then ?_
      refine tc_seq ?_
      refine tc_block ?_
      refine tc_seq ?_
      refine tc_region ?_
      refine runL_p1 62 (Sl a4 (((chApply l c).1).length) c4) (Sl a4 (((chApply l c).1).length) c4) rfl ?_
      refine runL_bn [0] [(20, Sl a4 (((chApply l c).1).length) c4)] ?_
      refine runL_nil ?_
      refine tq_then ?_
      refine tc_seq ?_
      refine tc_region ?_
      refine runL_bn [0,0,0] [(63, Sl a4 (((chApply l c).1).length) c4), (65, I (((c4 : Nat) : Int)))] ?_
      obtain ⟨l3, hl9, hb3, hT3⟩ := TRow.full (hr4.mono (Mem.le_trans hl5 hl6))
      have hl9m : l3.length ≤ 9223372036854775807 := by rw [hl9]; exact TRow.mx hT3
      refine runL_slCap (len := ((chApply l c).1).length) 66 hT3 hl9 (TRow.lec ((hr4.mono (Mem.le_trans hl5 hl6)))) ?_
      refine runL_bn [0] [(20, Sl a4 l3.length c4)] ?_
      refine runL_nil ?_
      refine tq_then ?_
      refine tc_rbn [0,0,0] [(68, I (((l3.length : Nat) : Int))), (69, I 0)] ?_
      refine tc_block ?_
      have hlm_h_l : l.length ≤ 9223372036854775807 := Nat.le_trans (h_l).le (h_l).max
      have hlm_hs2 : l.length ≤ 9223372036854775807 := Nat.le_trans (hs2).le (hs2).max
      refine tc_loop (σ := Nat × Option Addr × Nat × List Seg × List EntD) (fun q_ => (q_.1 ≤ l3.length) ∧ (TRow EEntB G6 q_.2.1 q_.2.2.1 q_.2.2.2.2 q_.2.2.2.1) ∧ (q_.2.2.2.2.length = l3.length ∧ ∀ j, q_.1 ≤ j → ∀ y, q_.2.2.2.2[j]? = some y → y.value.length ≤ 140737488351232)) (fun q_ => [(0, Sl a_l l.length c_l), (9, Sl a1 l.length c1), (18, Bo (decide (l = l))), (20, Sl q_.2.1 q_.2.2.2.2.length q_.2.2.1), (59, .agg #[Sl a2 (((treeSet l name value).1).length) c2, Sl a3 (((treeDrop l name).1).length) c3, Sl a4 (((chApply l c).1).length) c4, Sl a5 ((((proofMake l name).1).entries).length) c5]), (60, I 2), (68, I (((l3.length : Nat) : Int))), (69, I ((q_.1 : Int)))]) (fun q_ => G6) (fun q_ => [[Sg b1 0 [Sr (((proofMake l name).1).name), Sl a5 ((((proofMake l name).1).entries).length) c5, Sl a6 ((((proofMake l name).1).sides).length) c6]], r5, q_.2.2.2.1, rw1, rw0, []]) (fun q_ => l3.length - q_.1) ((0, a4, c4, r4, l3)) ⟨(by (try dsimp only); first | exact Nat.zero_le _ | omega | simp), hT3, ⟨rfl, fun j _ y hy => hb3 y (List.mem_of_getElem? hy)⟩⟩ (fun q_ hs => ?_)
      obtain ⟨i, aw2, cw2, rw2, xw2⟩ := q_
      obtain ⟨hi, hrw2, hxw2⟩ := hs
      dsimp only at hi hrw2 hxw2
      refine tc_eq (fr' := [(0, Sl a_l l.length c_l), (9, Sl a1 l.length c1), (18, Bo (decide (l = l))), (20, Sl aw2 xw2.length cw2), (59, .agg #[Sl a2 (((treeSet l name value).1).length) c2, Sl a3 (((treeDrop l name).1).length) c3, Sl a4 (((chApply l c).1).length) c4, Sl a5 ((((proofMake l name).1).entries).length) c5]), (60, I 2), (68, I (((l3.length : Nat) : Int))), (69, I ((i : Int)))]) (L' := [[Sg b1 0 [Sr (((proofMake l name).1).name), Sl a5 ((((proofMake l name).1).entries).length) c5, Sl a6 ((((proofMake l name).1).sides).length) c6]], r5, rw2, rw1, rw0, []]) rfl rfl ?_
      refine tc_rbn [0] [(70, Bo (decide ((i : Int) < ((l3.length : Nat) : Int))))] ?_
      refine tc_seq ?_
      refine tc_condP (decide ((i : Int) < ((l3.length : Nat) : Int))) (fun h3 => ?_) (fun h3 => ?_)
      ·
        refine tc_skip ?_
        refine tq_then ?_
        refine tc_seq ?_
        refine tc_block ?_
        refine tc_rbn [0,0] [(21, I ((i : Int)))] ?_
        refine tc_region ?_
        refine runL_bn [0,0] [(72, Sl aw2 xw2.length cw2), (73, I ((i : Int)))] ?_
        obtain ⟨x3, hx3⟩ := getX (l := xw2) (k := i) (by first | omega | (have q_ := hxw0.1; (try simp only [List.length_set]); omega) | (have q_ := hxw1.1; (try simp only [List.length_set]); omega) | (have q_ := hxw2.1; (try simp only [List.length_set]); omega) | (have q_ := hxw3.1; (try simp only [List.length_set]); omega))
        obtain ⟨b4, o3, fu3, _, rfl, ha3, hre3, hc3⟩ := TRow.ix hrw2 hx3
        refine runL_idxR (b := b4) (off := o3) (len := xw2.length) (cap := cw2) (ik := .i64) 74 26 2 i ha3 (by first | omega | (have q_ := hxw0.1; (try simp only [List.length_set]); omega) | (have q_ := hxw1.1; (try simp only [List.length_set]); omega) | (have q_ := hxw2.1; (try simp only [List.length_set]); omega) | (have q_ := hxw3.1; (try simp only [List.length_set]); omega)) ?_
        refine runL_bn [0] [(75, Pt b4 (o3 + i * 2 + 1))] ?_
        refine runL_ldR (off := o3) (p := i * 2) (cs := [Sr x3.name, Sr x3.value]) 76 9 2 1 (Sr x3.value) hre3 hc3 ?_
        refine runL_cat 77 x3.value ([33]) (by first | (have q_ := hxw0.2 _ (Nat.le_refl _) _ (by assumption); simp only [List.length_cons, List.length_nil]; omega) | (have q_ := hxw1.2 _ (Nat.le_refl _) _ (by assumption); simp only [List.length_cons, List.length_nil]; omega) | (have q_ := hxw2.2 _ (Nat.le_refl _) _ (by assumption); simp only [List.length_cons, List.length_nil]; omega) | (have q_ := hxw3.2 _ (Nat.le_refl _) _ (by assumption); simp only [List.length_cons, List.length_nil]; omega)) ?_
        refine runL_idxR (b := b4) (off := o3) (len := xw2.length) (cap := cw2) (ik := .i64) 78 26 2 i ha3 (by first | omega | (have q_ := hxw0.1; (try simp only [List.length_set]); omega) | (have q_ := hxw1.1; (try simp only [List.length_set]); omega) | (have q_ := hxw2.1; (try simp only [List.length_set]); omega) | (have q_ := hxw3.1; (try simp only [List.length_set]); omega)) ?_
        refine runL_bn [0] [(79, Pt b4 (o3 + i * 2 + 1))] ?_
        refine runL_stRf (b := b4) (off := o3) 2 hrw2 i 1 x3 (⟨x3.name, x3.value ++ ([33])⟩ : EntD) ha3 hx3 (Sr (x3.value ++ ([33]))) (by decide) (fun cs h_ => by rw [show cs = _ from h_]; rfl) (fun r8 hr8 => ?_)
        have e3 : xw2.length = (xw2.set i (⟨x3.name, x3.value ++ ([33])⟩ : EntD)).length := (List.length_set ..).symm
        refine runL_put 20 (Sl aw2 ((xw2.set i (⟨x3.name, x3.value ++ ([33])⟩ : EntD)).length) cw2) (congrArg (Sl aw2 · cw2) e3) ?_
        refine runL_nil ?_
        refine tq_block ?_
        refine tq_then ?_
        refine tc_region ?_
        refine runL_bn [0,0] [(69, I (IntKind.i64.wrap (((i : Int)) + 1)))] ?_
        refine runL_wi64 69 (((i : Int)) + 1) (by first | omega | (have q_ := hxw0.1; (try simp only [List.length_set]); omega) | (have q_ := hxw1.1; (try simp only [List.length_set]); omega) | (have q_ := hxw2.1; (try simp only [List.length_set]); omega) | (have q_ := hxw3.1; (try simp only [List.length_set]); omega)) ?_
        refine runL_nil ?_
        exact tq_rnd ((i + 1, aw2, cw2, r8, xw2.set i (⟨x3.name, x3.value ++ ([33])⟩ : EntD))) ⟨(by omega), hr8, ⟨by (try dsimp only); rw [List.length_set]; exact hxw2.1, fun j hj y hy => hxw2.2 j (by omega) y (by rwa [List.getElem?_set_ne (by omega)] at hy)⟩⟩ (by (try dsimp only); omega)
      ·
        refine tc_exit ?_
        refine tq_then_exit ?_
        refine tq_rnd_exit ?_
        refine tq_block_here ?_
        refine tq_block ?_
        refine tq_then ?_
        refine tc_region ?_
        refine runL_bn [0,0] [(60, I 3)] ?_
        refine runL_nil ?_
        refine tq_iter ?_
        refine ti_step ?_
        refine tc_rbn [0] [(61, Bo true)] ?_
        refine tc_seq ?_
        refine tc_cond_true ?_
        refine tc_skip ?_
        refine tq_then ?_
        refine tc_seq ?_
        refine tc_block ?_
        refine tc_seq ?_
        refine tc_region ?_
        refine runL_p1 62 (Sl a5 ((((proofMake l name).1).entries).length) c5) (Sl a5 ((((proofMake l name).1).entries).length) c5) rfl ?_
        refine runL_bn [0] [(20, Sl a5 ((((proofMake l name).1).entries).length) c5)] ?_
        refine runL_nil ?_
        refine tq_then ?_
        refine tc_seq ?_
        refine tc_region ?_
        refine runL_bn [0,0,0] [(63, Sl a5 ((((proofMake l name).1).entries).length) c5), (65, I (((c5 : Nat) : Int)))] ?_
        obtain ⟨l4, hl10, hb4, hT4⟩ := TRow.full (hr5.mono hl6)
        have hl10m : l4.length ≤ 9223372036854775807 := by rw [hl10]; exact TRow.mx hT4
        refine runL_slCap (len := (((proofMake l name).1).entries).length) 66 hT4 hl10 (TRow.lec ((hr5.mono hl6))) ?_
        refine runL_bn [0] [(20, Sl a5 l4.length c5)] ?_
        refine runL_nil ?_
        refine tq_then ?_
        refine tc_rbn [0,0,0] [(68, I (((l4.length : Nat) : Int))), (69, I 0)] ?_
        refine tc_block ?_
        have hlm_h_l : l.length ≤ 9223372036854775807 := Nat.le_trans (h_l).le (h_l).max
        have hlm_hs2 : l.length ≤ 9223372036854775807 := Nat.le_trans (hs2).le (hs2).max
        refine tc_loop (σ := Nat × Option Addr × Nat × List Seg × List EntD) (fun q_ => (q_.1 ≤ l4.length) ∧ (TRow EEntB G6 q_.2.1 q_.2.2.1 q_.2.2.2.2 q_.2.2.2.1) ∧ (q_.2.2.2.2.length = l4.length ∧ ∀ j, q_.1 ≤ j → ∀ y, q_.2.2.2.2[j]? = some y → y.value.length ≤ 140737488351232)) (fun q_ => [(0, Sl a_l l.length c_l), (9, Sl a1 l.length c1), (18, Bo (decide (l = l))), (20, Sl q_.2.1 q_.2.2.2.2.length q_.2.2.1), (59, .agg #[Sl a2 (((treeSet l name value).1).length) c2, Sl a3 (((treeDrop l name).1).length) c3, Sl a4 (((chApply l c).1).length) c4, Sl a5 ((((proofMake l name).1).entries).length) c5]), (60, I 3), (68, I (((l4.length : Nat) : Int))), (69, I ((q_.1 : Int)))]) (fun q_ => G6) (fun q_ => [[Sg b1 0 [Sr (((proofMake l name).1).name), Sl a5 ((((proofMake l name).1).entries).length) c5, Sl a6 ((((proofMake l name).1).sides).length) c6]], q_.2.2.2.1, rw2, rw1, rw0, []]) (fun q_ => l4.length - q_.1) ((0, a5, c5, r5, l4)) ⟨(by (try dsimp only); first | exact Nat.zero_le _ | omega | simp), hT4, ⟨rfl, fun j _ y hy => hb4 y (List.mem_of_getElem? hy)⟩⟩ (fun q_ hs => ?_)
        obtain ⟨i, aw3, cw3, rw3, xw3⟩ := q_
        obtain ⟨hi, hrw3, hxw3⟩ := hs
        dsimp only at hi hrw3 hxw3
        refine tc_eq (fr' := [(0, Sl a_l l.length c_l), (9, Sl a1 l.length c1), (18, Bo (decide (l = l))), (20, Sl aw3 xw3.length cw3), (59, .agg #[Sl a2 (((treeSet l name value).1).length) c2, Sl a3 (((treeDrop l name).1).length) c3, Sl a4 (((chApply l c).1).length) c4, Sl a5 ((((proofMake l name).1).entries).length) c5]), (60, I 3), (68, I (((l4.length : Nat) : Int))), (69, I ((i : Int)))]) (L' := [[Sg b1 0 [Sr (((proofMake l name).1).name), Sl a5 ((((proofMake l name).1).entries).length) c5, Sl a6 ((((proofMake l name).1).sides).length) c6]], rw3, rw2, rw1, rw0, []]) rfl rfl ?_
        refine tc_rbn [0] [(70, Bo (decide ((i : Int) < ((l4.length : Nat) : Int))))] ?_
        refine tc_seq ?_
        refine tc_condP (decide ((i : Int) < ((l4.length : Nat) : Int))) (fun h4 => ?_) (fun h4 => ?_)
        ·
          refine tc_skip ?_
          refine tq_then ?_
          refine tc_seq ?_
          refine tc_block ?_
          refine tc_rbn [0,0] [(21, I ((i : Int)))] ?_
          refine tc_region ?_
          refine runL_bn [0,0] [(72, Sl aw3 xw3.length cw3), (73, I ((i : Int)))] ?_
          obtain ⟨x4, hx4⟩ := getX (l := xw3) (k := i) (by first | omega | (have q_ := hxw0.1; (try simp only [List.length_set]); omega) | (have q_ := hxw1.1; (try simp only [List.length_set]); omega) | (have q_ := hxw2.1; (try simp only [List.length_set]); omega) | (have q_ := hxw3.1; (try simp only [List.length_set]); omega))
          obtain ⟨b5, o4, fu4, _, rfl, ha4, hre4, hc4⟩ := TRow.ix hrw3 hx4
          refine runL_idxR (b := b5) (off := o4) (len := xw3.length) (cap := cw3) (ik := .i64) 74 26 2 i ha4 (by first | omega | (have q_ := hxw0.1; (try simp only [List.length_set]); omega) | (have q_ := hxw1.1; (try simp only [List.length_set]); omega) | (have q_ := hxw2.1; (try simp only [List.length_set]); omega) | (have q_ := hxw3.1; (try simp only [List.length_set]); omega)) ?_
          refine runL_bn [0] [(75, Pt b5 (o4 + i * 2 + 1))] ?_
          refine runL_ldR (off := o4) (p := i * 2) (cs := [Sr x4.name, Sr x4.value]) 76 9 1 1 (Sr x4.value) hre4 hc4 ?_
          refine runL_cat 77 x4.value ([33]) (by first | (have q_ := hxw0.2 _ (Nat.le_refl _) _ (by assumption); simp only [List.length_cons, List.length_nil]; omega) | (have q_ := hxw1.2 _ (Nat.le_refl _) _ (by assumption); simp only [List.length_cons, List.length_nil]; omega) | (have q_ := hxw2.2 _ (Nat.le_refl _) _ (by assumption); simp only [List.length_cons, List.length_nil]; omega) | (have q_ := hxw3.2 _ (Nat.le_refl _) _ (by assumption); simp only [List.length_cons, List.length_nil]; omega)) ?_
          refine runL_idxR (b := b5) (off := o4) (len := xw3.length) (cap := cw3) (ik := .i64) 78 26 2 i ha4 (by first | omega | (have q_ := hxw0.1; (try simp only [List.length_set]); omega) | (have q_ := hxw1.1; (try simp only [List.length_set]); omega) | (have q_ := hxw2.1; (try simp only [List.length_set]); omega) | (have q_ := hxw3.1; (try simp only [List.length_set]); omega)) ?_
          refine runL_bn [0] [(79, Pt b5 (o4 + i * 2 + 1))] ?_
          refine runL_stRf (b := b5) (off := o4) 1 hrw3 i 1 x4 (⟨x4.name, x4.value ++ ([33])⟩ : EntD) ha4 hx4 (Sr (x4.value ++ ([33]))) (by decide) (fun cs h_ => by rw [show cs = _ from h_]; rfl) (fun r9 hr9 => ?_)
          have e4 : xw3.length = (xw3.set i (⟨x4.name, x4.value ++ ([33])⟩ : EntD)).length := (List.length_set ..).symm
          refine runL_put 20 (Sl aw3 ((xw3.set i (⟨x4.name, x4.value ++ ([33])⟩ : EntD)).length) cw3) (congrArg (Sl aw3 · cw3) e4) ?_
          refine runL_nil ?_
          refine tq_block ?_
          refine tq_then ?_
          refine tc_region ?_
          refine runL_bn [0,0] [(69, I (IntKind.i64.wrap (((i : Int)) + 1)))] ?_
          refine runL_wi64 69 (((i : Int)) + 1) (by first | omega | (have q_ := hxw0.1; (try simp only [List.length_set]); omega) | (have q_ := hxw1.1; (try simp only [List.length_set]); omega) | (have q_ := hxw2.1; (try simp only [List.length_set]); omega) | (have q_ := hxw3.1; (try simp only [List.length_set]); omega)) ?_
          refine runL_nil ?_
          exact tq_rnd ((i + 1, aw3, cw3, r9, xw3.set i (⟨x4.name, x4.value ++ ([33])⟩ : EntD))) ⟨(by omega), hr9, ⟨by (try dsimp only); rw [List.length_set]; exact hxw3.1, fun j hj y hy => hxw3.2 j (by omega) y (by rwa [List.getElem?_set_ne (by omega)] at hy)⟩⟩ (by (try dsimp only); omega)
        ·
          refine tc_exit ?_
          refine tq_then_exit ?_
          refine tq_rnd_exit ?_
          refine tq_block_here ?_
          refine tq_block ?_
          refine tq_then ?_
          refine tc_region ?_
          refine runL_bn [0,0] [(60, I 4)] ?_
          refine runL_nil ?_
          refine tq_iter ?_
          refine ti_step ?_
          refine tc_rbn [0] [(61, Bo false)] ?_
          refine tc_seq ?_
          refine tc_cond_false ?_
          refine tc_exit ?_
          refine tq_then_exit ?_
          refine tq_then_exit ?_
          refine tq_block_here ?_
          refine tq_then ?_
          refine tc_seq ?_
          refine tc_region ?_
          refine runL_bn [0,0] [(83, Bo (decide (l = l)))] ?_
          refine runL_casesT [83] (decide (l = l)) (fun h5 => ?_) (fun h5 => ?_)
          ·
            refine runL_bn [0,0] [(84, Sl a_l l.length c_l), (85, Sl a1 l.length c1)] ?_
            refine runL_callV 86 (Bo (decide (l = l))) (seq_EEnt G6 a_l c_l l (h_l.mono (Mem.le_trans (Mem.le_trans (Mem.le_trans (Mem.le_trans (Mem.le_trans hl1 hl2) hl3) hl4) hl5) hl6)) a1 c1 l hs2) ?_
            refine runL_bn [0,0] [(8, Bo (decide (l = l)))] ?_
            refine runL_nil ?_
            refine tq_then ?_
            refine tc_ret ?_
            refine tq_ret [0] [Bo (decide (l = l))] (bp_ret (Mem.le_trans (Mem.le_trans (Mem.le_trans (Mem.le_trans (Mem.le_trans hl1 hl2) hl3) hl4) hl5) hl6) ?_)
            have hf_ : (decide (l = l)) = true := by
              first | (simp; done) | exact h5 rfl | (simp at h5; done)
            exact congrArg Bo hf_
          ·
            refine runL_bn [1,1,1,0,0] [(8, Bo false)] ?_
            refine runL_nil ?_
            refine tq_then ?_
            refine tc_ret ?_
            refine tq_ret [0] [Bo false] (bp_ret (Mem.le_trans (Mem.le_trans (Mem.le_trans (Mem.le_trans (Mem.le_trans hl1 hl2) hl3) hl4) hl5) hl6) ?_)
            exfalso
            first | (simp; done) | exact h5 rfl | (simp at h5; done)
end Go.Proofs.YtpofnmobbbcpgaaDoor
