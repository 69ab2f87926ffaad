import Derived.Test.YtmpakffajpnffaaGreatDoorCfRul
import Derived.Lib.AppendZerosOnto
import Derived.Lib.Overlaps
set_option linter.unusedVariables false
set_option linter.unusedSimpArgs false
namespace Go.Tx
open Go.RowKit
section
variable {C : Cx} {Q : Exit → Act → World → Prop} {fr : List (Nat × Value)} {G : Mem} {L : List (List Seg)} {ops : Array Oper} {rest : List Oper} {o : Oper}
theorem runL_stR {α : Type} {E : Elt α} {a : Option Addr} {cap : Nat} {l : List α} {r : List Seg} (i : Nat) (hr : TRow E G a cap l r) (k : Nat) (x : α) {b off : Nat} (ha : a = At b off) (hk : k < l.length) (v : Value) (vs : List Value) (hx : E.R G vs x)
    (h : ∀ r', TRow E G a cap (l.set k x) r' → RunL C ops Q rest fr G (L.set i r')) (hL : L[i]? = some r := by rfl)
    (hc : (chkSt C.P ops fr o vs.length, v.cells.toList, vs.all Value.oneCell') = (some (Pt b (off + k * E.sz + 0), v), vs, true) := by as_aux_lemma => kernel_rfl) : RunL C ops Q (o :: rest) fr G L := by
  obtain ⟨css, c1, c2, c3⟩ := hr.ex
  have hsz := css_sz c1 c2
  rcases c3.shape with ⟨h0, hcap, _⟩ | ⟨b', off', spare, h0, rfl, hsp⟩
  · rw [h0] at ha; cases ha
  · rw [h0] at ha
    cases ha
    have hvl : vs.length = E.sz := E.len hx
    have hfl : css.flatten.length = l.length * E.sz := by rw [flatten_len hsz, c1]
    have hkk : k * E.sz + E.sz ≤ l.length * E.sz := by
      have := Nat.mul_le_mul_right E.sz (show k + 1 ≤ l.length from hk)
      rw [Nat.add_mul, Nat.one_mul] at this; exact this
    have hset : splice (css.flatten ++ spare) (k * E.sz) vs = (css.set k vs).flatten ++ spare := by
      have h1 : css = css.take k ++ (css[k]'(by omega)) :: css.drop (k + 1) := by
        conv => lhs; rw [← List.take_append_drop k css]
        rw [List.drop_eq_getElem_cons (by omega)]
      have h2 : css.set k vs = css.take k ++ vs :: css.drop (k + 1) := by rw [List.set_eq_take_append_cons_drop, if_pos (by omega)]
      have h3 : (css.take k).flatten.length = k * E.sz := by
        rw [flatten_len (fun cs hcs => hsz cs (List.mem_of_mem_take hcs)), List.length_take, Nat.min_eq_left (by omega)]
      have h4 : (css[k]'(by omega)).length = E.sz := hsz _ (List.getElem_mem _)
      unfold splice
      rw [h2]
      conv => lhs; rw [h1]
      simp only [List.flatten_append, List.flatten_cons, List.append_assoc]
      rw [← h3, List.take_left]
      congr 2
      rw [hvl, ← h4, ← List.drop_drop, List.drop_left, List.drop_left]
    refine runL_stX i (k * E.sz) (b := b) (off := off) (cs := css.flatten ++ spare) v vs (by rw [List.length_append, hvl, hfl]; omega) ?_ hL hc
    rw [hset]
    refine h _ ⟨⟨css.set k vs, by simp [c1], fun j y hy => ?_, ?_⟩⟩
    · rw [List.getElem?_set] at hy ⊢
      by_cases e : k = j
      · subst e
        rw [if_pos rfl, if_pos (by omega)]
        rw [if_pos rfl, if_pos hk] at hy
        exact ⟨vs, rfl, by rw [← Option.some.inj hy]; exact hx⟩
      · rw [if_neg e] at hy ⊢
        exact c2 j y hy
    · refine ⟨?_, by rw [List.length_set]; exact c3.le, c3.max, .inr ⟨b, off, spare, h0, rfl, by rw [List.length_set]; exact hsp⟩⟩
      rw [List.length_set, flatten_len (sz := E.sz), List.length_set, c1]
      intro cs hcs
      rcases List.mem_or_eq_of_mem_set hcs with hcs | rfl
      · exact hsz cs hcs
      · exact hvl
end
section
variable {C : Cx} {Q : Exit → Act → World → Prop} {fr : List (Nat × Value)} {G : Mem} {L : List (List Seg)} {ops : Array Oper} {rest : List Oper} {o : Oper}
end
theorem TRow.lec {α : Type} {E : Elt α} {G : Mem} {a : Option Addr} {cap : Nat} {l : List α} {r : List Seg} (h : TRow E G a cap l r) : l.length ≤ cap := by
  obtain ⟨css, h1, h2, h3⟩ := h.ex
  exact h3.le
theorem TRow.mx {α : Type} {E : Elt α} {G : Mem} {a : Option Addr} {cap : Nat} {l : List α} {r : List Seg} (h : TRow E G a cap l r) : cap ≤ 9223372036854775807 := by
  obtain ⟨css, h1, h2, h3⟩ := h.ex
  exact h3.max
theorem TRow.opened {α : Type} {E : Elt α} {G : Mem} {a : Option Addr} {cap : Nat} {l : List α} {r : List Seg} (h : TRow E G a cap l r) (h0 : 0 < l.length) :
    ∃ (b off : Nat) (css : List (List Value)) (spare : List Value), a = At b off ∧ r = [Sg b off (css.flatten ++ spare)] ∧ css.length = l.length ∧ (∀ (i : Nat) x, l[i]? = some x → ∃ cs, css[i]? = some cs ∧ E.R G cs x) ∧ (∀ cs ∈ css, cs.length = E.sz) ∧ spare.length = (cap - l.length) * E.sz ∧ l.length ≤ cap ∧ cap ≤ 9223372036854775807 ∧ (∀ cs ∈ css, ∀ u ∈ cs, u.oneCell' = true) := by
  obtain ⟨css, c1, c2, c3⟩ := h.ex
  rcases c3.shape with ⟨_, hc, _⟩ | ⟨b, off, spare, ha, hr, hsp⟩
  · have := c3.le; omega
  · refine ⟨b, off, css, spare, ha, hr, c1, c2, css_sz c1 c2, hsp, c3.le, c3.max, fun cs hcs u hu => ?_⟩
    obtain ⟨k, hk, rfl⟩ := List.mem_iff_getElem.1 hcs
    obtain ⟨cs', p1, p2⟩ := c2 k _ (List.getElem?_eq_getElem (c1 ▸ hk))
    rw [List.getElem?_eq_getElem hk] at p1
    rw [Option.some.inj p1] at hu
    exact E.one p2 u hu
theorem TRow.made {α : Type} {E : Elt α} {G : Mem} {b off cap : Nat} {l : List α} {css : List (List Value)} {F : List Value} (h1 : css.length = l.length) (h2 : ∀ (i : Nat) x, l[i]? = some x → ∃ cs, css[i]? = some cs ∧ E.R G cs x)
    (hF : F.take (l.length * E.sz) = css.flatten) (hl : F.length = cap * E.sz) (hc : l.length ≤ cap) (hm : cap ≤ 9223372036854775807) : TRow E G (At b off) cap l [Sg b off F] := by
  refine ⟨⟨css, h1, h2, ⟨?_, hc, hm, .inr ⟨b, off, F.drop (l.length * E.sz), rfl, ?_, ?_⟩⟩⟩⟩
  · rw [← hF, List.length_take, hl]
    have := Nat.mul_le_mul_right E.sz hc
    omega
  · rw [← hF, List.take_append_drop]
  · rw [List.length_drop, hl, Nat.sub_mul]
theorem css_take_len {css : List (List Value)} {sz i : Nat} (h : ∀ cs ∈ css, cs.length = sz) (hi : i ≤ css.length) : (css.take i).flatten.length = i * sz := by
  rw [flatten_len (fun cs hcs => h cs (List.mem_of_mem_take hcs)), List.length_take, Nat.min_eq_left hi]
theorem css_drop_len {css : List (List Value)} {sz i : Nat} (h : ∀ cs ∈ css, cs.length = sz) : (css.drop i).flatten.length = (css.length - i) * sz := by
  rw [flatten_len (fun cs hcs => h cs (List.mem_of_mem_drop hcs)), List.length_drop]
section
variable {C : Cx} {Q : Exit → Act → World → Prop} {fr : List (Nat × Value)} {G : Mem} {L : List (List Seg)} {ops : Array Oper} {rest : List Oper} {o : Oper}
theorem TRow.tk {α : Type} {E : Elt α} {G : Mem} {a : Option Addr} {cap : Nat} {l : List α} {r : List Seg} (h : TRow E G a cap l r) (i : Nat) (hi : i ≤ l.length) : TRow E G a cap (l.take i) r := by
  obtain ⟨css, h1, h2, h3⟩ := h.ex
  have hsz := css_sz h1 h2
  refine ⟨⟨css.take i, by simp [h1], fun k x hx => ?_, ?_⟩⟩
  · rw [List.getElem?_take] at hx ⊢
    split at hx
    · rename_i hk; rw [if_pos hk]; exact h2 k x hx
    · cases hx
  · have hA := css_take_len hsz (i := i) (by omega)
    refine ⟨by rw [hA, List.length_take, Nat.min_eq_left hi], by rw [List.length_take]; have := h3.le; omega, h3.max, ?_⟩
    rcases h3.shape with ⟨h4, h5, h6⟩ | ⟨b, off, spare, h4, h5, h6⟩
    · exact .inl ⟨h4, h5, h6⟩
    · refine .inr ⟨b, off, (css.drop i).flatten ++ spare, h4, ?_, ?_⟩
      · rw [h5, ← List.append_assoc, ← List.flatten_append, List.take_append_drop]
      · rw [List.length_append, h6, css_drop_len hsz, h1, List.length_take, Nat.min_eq_left hi, ← Nat.add_mul]
        congr 1
        have := h3.le; omega
def baseN (n : Nat) (ops : Array Oper) (fr : List (Nat × Value)) (o : Oper) : Bool :=
  o.dst.isNone && wantB true (wantedF ops fr o) && !isSel o.op && o.op.operands.toList.all (cov fr)
theorem runL_runN (hb : baseN C.n ops fr o = true)
    (hx : ∀ w, St C.w0 C.G0 w G L → ∃ v w' G' L', (execOp (evo fr) o).run C.P w = .ok (.value v) w' ∧ St C.w0 C.G0 w' G' L' ∧ RunL C ops Q rest fr G' L') :
    RunL C ops Q (o :: rest) fr G L := by
  intro a w ha hw
  unfold baseN at hb
  simp only [Bool.and_eq_true, Option.isNone_iff_eq_none] at hb
  obtain ⟨⟨⟨hd, hwt⟩, hsel⟩, hcov⟩ := hb
  have hE : execOp a.eval o = execOp (evo fr) o := execOp_congr _ _ _ (fun cs b e => by rw [e] at hsel; simp [isSel] at hsel)
    (fun x hx => ha.eval x (List.all_eq_true.1 hcov x (by simpa using hx)))
  have hwant : wantedF ops fr o = some true := by
    cases hx : wantedF ops fr o with
    | none => rw [hx] at hwt; simp [wantB] at hwt
    | some b => rw [hx] at hwt; simp [wantB] at hwt; rw [← hwt]
  obtain ⟨v, w', G', L', hr, hS, hk⟩ := hx w hw
  unfold wpList
  rw [if_pos (wantedF_eq ha hwant)]
  refine .inl ?_
  unfold Oper.wp
  rw [hE, hr]
  show wpList C.P ops Q rest (a.put o.dst _) _
  rw [hd]
  exact hk _ _ ha hS
def chkClr (P : Program) (fr : List (Nat × Value)) (o : Oper) (sz : Nat) : Option Value :=
  match o.op with
  | .call c => (match c.callee, c.args.toList, c.argTypes.toList with
    | .builtin .clear, [s], [t] =>
      (match P.underlying t with
       | some (.slice e') => (match P.info? e' with
          | some inf => (match inf.zero with
             | some z => bif Nat.beq z.cells.size sz && z.cells.toList.all Value.oneCell' then some (evo fr s) else none
             | none => none)
          | none => none)
       | _ => none)
    | _, _, _ => none)
  | _ => none
theorem runL_clr {α : Type} {E : Elt α} {a : Option Addr} {cap : Nat} {l : List α} {r : List Seg} (i : Nat) (hr : TRow E G a cap l r) {b off m c' : Nat} (ha : a = At b off) (hm : 0 < m) (hroom : l.length + m ≤ cap)
    (h : ∀ r', TRow E G a cap l r' → RunL C ops Q rest fr G (L.set i r')) (hL : L[i]? = some r := by rfl)
    (hb : baseN C.n ops fr o = true := by as_aux_lemma => kernel_rfl)
    (hc : chkClr C.P fr o E.sz = some (Sl (At b (off + l.length * E.sz)) m c') := by as_aux_lemma => kernel_rfl) : RunL C ops Q (o :: rest) fr G L := by
  obtain ⟨css, c1, c2, c3⟩ := hr.ex
  have hsz := css_sz c1 c2
  have hfl : css.flatten.length = l.length * E.sz := by rw [flatten_len hsz, c1]
  rcases c3.shape with ⟨h0, hcap, _⟩ | ⟨b', off', spare, h0, rfl, hsp⟩
  · rw [h0] at ha; cases ha
  · rw [h0] at ha
    cases ha
    refine runL_runN hb (fun w hw => ?_)
    unfold chkClr at hc
    split at hc
    case h_2 => cases hc
    rename_i cl hop
    split at hc
    case h_2 => cases hc
    rename_i s t hcal hargs htys
    split at hc
    case h_2 => cases hc
    rename_i e' hu
    split at hc
    case h_2 => cases hc
    rename_i inf hi
    split at hc
    case h_2 => cases hc
    rename_i z hz
    cases hx : (Nat.beq z.cells.size E.sz && z.cells.toList.all Value.oneCell') with
    | false => rw [hx] at hc; cases hc
    | true =>
      rw [hx] at hc
      simp only [cond_true, Option.some.injEq] at hc
      simp only [Bool.and_eq_true] at hx
      have hzs := Nat.eq_of_beq_eq_true hx.1
      have hone := List.all_eq_true.1 hx.2
      have hag : cl.args = #[s] := by rw [← hargs]
      have ht : cl.argTypes = #[t] := by rw [← htys]
      have hZl : (Builtin.zeroCells z.cells m).toList.length = m * E.sz := by rw [Array.length_toList, zeroCells_size, hzs]
      have hZ1 : ∀ u ∈ (Builtin.zeroCells z.cells m).toList, u.oneCell' = true := by
        intro u hu
        unfold Builtin.zeroCells at hu
        rw [Array.toList_map, List.mem_map] at hu
        obtain ⟨k, hk, rfl⟩ := hu
        rw [Array.toList_range, List.mem_range] at hk
        have hpos : 0 < z.cells.size := Nat.pos_of_ne_zero (fun h0 => by rw [h0] at hk; omega)
        have hlt := Nat.mod_lt k hpos
        rw [getElem!_pos z.cells (k % z.cells.size) hlt]
        exact hone _ (Array.getElem_mem_toList hlt)
      have hroom2 : l.length * E.sz + (Builtin.zeroCells z.cells m).toList.length ≤ (css.flatten ++ spare).length := by
        rw [hZl, List.length_append, hfl, hsp, ← Nat.add_mul, ← Nat.add_mul]
        exact Nat.mul_le_mul_right _ (by omega)
      have hm' : (Sg b off (css.flatten ++ spare)) ∈ L.flatten := by
        obtain ⟨hi', he⟩ := List.getElem?_eq_some_iff.1 hL
        exact List.mem_flatten.2 ⟨_, he ▸ List.getElem_mem hi', by simp⟩
      have hown := (hw.own _ hm').2.1
      simp only at hown
      have hcell : ∀ j, j < (Builtin.zeroCells z.cells m).toList.length → ∃ u, (css.flatten ++ spare)[l.length * E.sz + j]? = some u := fun j hj => ⟨_, List.getElem?_eq_getElem (by omega)⟩
      have hst : (storeCells ⟨b, off + l.length * E.sz, none⟩ (Builtin.zeroCells z.cells m).toList 0).run C.P w = .ok () (putCells w b (off + l.length * E.sz + 0) (Builtin.zeroCells z.cells m).toList) := run_putCells C.P b (off + l.length * E.sz) _ w 0 hZ1
        (fun j hj => by obtain ⟨u, hu⟩ := hcell j hj; have := (hown _ u hu).1; rw [← Nat.add_assoc] at this; exact ⟨u, by simpa using this⟩)
        (fun j hj => by obtain ⟨u, hu⟩ := hcell j hj; have := (hown _ u hu).2.1; rw [← Nat.add_assoc] at this; simpa using this)
      have hSt := hw.store hL (l.length * E.sz) (Builtin.zeroCells z.cells m).toList hroom2
      simp only at hSt
      simp only [Nat.add_zero] at hst
      have hm0 : ¬ m = 0 := by omega
      have hrun : (Builtin.clear_ #[t] o.type #[Sl (At b (off + l.length * E.sz)) m c']).run C.P w = .ok (.tuple #[]) (putCells w b (off + l.length * E.sz) (Builtin.zeroCells z.cells m).toList) := by
        obtain ⟨m', rfl⟩ : ∃ m', m = m' + 1 := ⟨m - 1, by omega⟩
        simp [Builtin.clear_, run_underlying hu, zeroValue, typeInfo, hi, hz, hst]
      refine ⟨.tuple #[], _, G, _, ?_, hSt, h _ ⟨⟨css, c1, c2, ⟨c3.len, c3.le, c3.max, .inr ⟨b, off, (Builtin.zeroCells z.cells m).toList ++ spare.drop (m * E.sz), h0, ?_, ?_⟩⟩⟩⟩⟩
      · unfold execOp
        simp only [hop, hcal, hag, ht, resolve, invoke, builtin, Sem.run_bind, Sem.run_pure, Result.andThen_ok, List.map_toArray, List.map_cons, List.map_nil, hc, hrun]
      · unfold splice
        rw [← hfl, List.take_left, ← List.drop_drop, List.drop_left, hZl]
      · rw [List.length_append, hZl, List.length_drop, hsp]
        have : m * E.sz ≤ (cap - l.length) * E.sz := Nat.mul_le_mul_right _ (by omega)
        omega
theorem Con.up {P : Program} {f : FuncId} {args : Array Value} {G G' : Mem} {v : Value} (hle : Mem.le G G') (h : Con P f args G [] (fun u _ _ => u = v)) : Con P f args G' [] (fun u _ _ => u = v) := by
  intro w0 G0 w hw
  refine (h w G w (St.start fun b o x hx => hw.mem b o x (hle b o x hx))).mono ?_
  rintro e w' ⟨u, G1, L', rfl, hS, hle', rfl⟩
  have hS' : St w G' w' G' [] := ⟨hS.below, fun b o x hx => (hS.below.cell (p := ⟨b, o, none⟩) (lt_of_cell (hw.mem b o x hx))).trans (hw.mem b o x hx), Mem.le_refl _, fun b o v hv => .inl hv, by simp, by simp⟩
  exact ⟨u, G', [], rfl, hw.call hS', Mem.le_refl _, rfl⟩
theorem runL_callVr {α : Type} {E : Elt α} {a : Option Addr} {cap : Nat} {l : List α} {r : List Seg} (d i : Nat) (hr : TRow E G a cap l r) (hb : l.length * E.bytes ≤ 281474976710656) {f : FuncId} {args : Array Value} (v : Value)
    (hc : ∀ G', Mem.le G G' → RS E G' a cap l → Con C.P f args G' [] (fun u _ _ => u = v))
    (h : RunL C ops Q rest ((d, v) :: fr) G L) (hi : L[i]? = some r := by rfl)
    (hw : wantedF ops fr o = some true := by rfl) (hd : o.dst = some d := by rfl) (hn : Nat.blt d C.n = true := by rfl) (hsel : isSel o.op = false := by rfl)
    (hcov : o.op.operands.toList.all (cov fr) = true := by as_aux_lemma => kernel_rfl) (hrun : ∀ w, (execOp (evo fr) o).run C.P w = .ok (.enter f args) w := by intro _; as_aux_lemma => kernel_rfl) :
    RunL C ops Q (o :: rest) fr G L := by
  intro ac w ha hwS
  have hE : execOp ac.eval o = execOp (evo fr) o := execOp_congr _ _ _ (fun cs b e => by rw [e] at hsel; simp [isSel] at hsel)
    (fun x hx => ha.eval x (List.all_eq_true.1 hcov x (by simpa using hx)))
  unfold wpList
  rw [if_pos (wantedF_eq ha hw)]
  refine .inl ?_
  unfold Oper.wp
  rw [hE, hrun]
  have hF := hwS.freeze hi
  have hrs := hr.rs (Mem.le_add G r) hb (frz_fact hwS hr.one hi)
  refine (hc (G.add r) (Mem.le_add G r) hrs w (G.add r) w (St.start hF.mem)).mono ?_
  rintro e w' ⟨u, G', L', rfl, hS, hle, rfl⟩
  show wpList C.P ops Q rest (ac.put o.dst u) w'
  rw [hd]
  have hS' : St w G w' G [] := ⟨hS.below, fun b o x hx => (hS.below.cell (p := ⟨b, o, none⟩) (lt_of_cell (hwS.mem b o x hx))).trans (hwS.mem b o x hx), Mem.le_refl _, fun b o v hv => .inl hv, by simp, by simp⟩
  exact h _ _ (ha.put d u (Nat.le_of_ble_eq_true hn)) (hwS.call hS')
theorem encode_ascii {n : Int} (h0 : 0 ≤ n) (h1 : n < 128) : Utf8.encode n = B [UInt8.ofNat n.toNat] := by
  unfold Utf8.encode
  have hv : Utf8.valid n = true := by unfold Utf8.valid; simp; omega
  simp only [hv, if_true]
  rw [if_pos (by omega)]
theorem runL_r2s (d : Nat) (n : Int) (l : List UInt8) (hn : Utf8.encode n = B l) (h : RunL C ops Q rest ((d, Sr l) :: fr) G L)
    (hb : base C.n ops fr o d = true := by as_aux_lemma => kernel_rfl)
    (hrun : ∀ w, (execOp (evo fr) o).run C.P w = .ok (.value (.string (Utf8.encode n))) w := by intro _; as_aux_lemma => kernel_rfl) : RunL C ops Q (o :: rest) fr G L :=
  runL_run d hb fun w hw => ⟨Sr l, w, G, L, by rw [hrun, hn], hw, h⟩
end
end Go.Tx
