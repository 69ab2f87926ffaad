/- Rounds of a range over a function that write a caller's box and append to a caller's row: the old cells' stores, the rule of the range. -/
import Derived.Test.YtpofnmobbbcpgaaGreatDoorRound
import Derived.OrdersIn
import Derived.Still
set_option linter.unusedVariables false
namespace Go.Tx
open Go.RowKit
/-! ### Cells that lay when the walk began -/
structure OldC (w0 : World) (G0 : Mem) (p o : Nat) : Prop where
  lt : p < w0.heap.size
  cell : ∃ u, w0.cell? ⟨p, o, none⟩ = some u
  fz : w0.frozen? ⟨p, o, none⟩ = false
  out : G0 p o = none
theorem OldC.set {w0 : World} {G0 : Mem} {p o : Nat} (h : OldC w0 G0 p o) (q r : Nat) (v : Value) : OldC (w0.setCell ⟨q, r, none⟩ v) G0 p o := by
  obtain ⟨h1, ⟨u, h2⟩, h3, h4⟩ := h
  exact ⟨by rw [World.size_setCell]; exact h1, cell?_setCell_some h2, by rw [World.frozen?_setCell]; exact h3, h4⟩
theorem OldC.put : ∀ (vs : List Value) {w0 : World} {G0 : Mem} {p o : Nat} (h : OldC w0 G0 p o) (q r : Nat), OldC (putCells w0 q r vs) G0 p o
  | [], _, _, _, _, h, _, _ => h
  | v :: vs, _, _, _, _, h, q, r => OldC.put vs (h.set q r v) q (r + 1)
theorem St.stOldC {w0 w : World} {G0 G : Mem} {L : List (List Seg)} (h : St w0 G0 w G L) {p o : Nat} (hp : OldC w0 G0 p o) (v : Value) : St (w0.setCell ⟨p, o, none⟩ v) G0 (w.setCell ⟨p, o, none⟩ v) G L := by
  have hG : G p o = none := by
    cases hg : G p o with
    | none => rfl
    | some u =>
      rcases h.fresh p o u hg with h1 | h1
      · rw [hp.out] at h1; cases h1
      · have := hp.lt; have := h1.1; omega
  refine ⟨⟨h.below.os, h.below.tape, h.below.output, by rw [World.size_setCell, World.size_setCell]; exact h.below.size, fun k hk => ?_⟩, fun b q u hu => ?_, h.grow, fun b q u hu => by rw [World.size_setCell, World.frozen?_setCell]; exact h.fresh b q u hu, fun s hs => ?_, h.apart⟩
  · rw [World.size_setCell] at hk
    unfold World.setCell
    simp only [Array.getElem?_modify]
    rw [h.below.block k hk]
  · rw [World.cell?_setCell_other]
    · exact h.mem b q u hu
    · intro e; cases e; rw [hG] at hu; contradiction
  · obtain ⟨o1, o2, o3, o4⟩ := h.own s hs
    have hne : s.b ≠ p := by have := hp.lt; omega
    refine ⟨by rw [World.size_setCell]; exact o1, fun i x hx => ?_, fun x hx => ?_, fun e he => ⟨(o4 e he).1, shape_setCell (o4 e he).2⟩⟩
    · obtain ⟨q1, q2, q3⟩ := o2 i x hx
      refine ⟨?_, by rw [World.frozen?_setCell]; exact q2, q3⟩
      rw [World.cell?_setCell_other]
      · exact q1
      · intro e; exact hne (congrArg Addr.block e).symm
    · obtain ⟨q1, q2, q3⟩ := o3 x hx
      exact ⟨q1, (Below.heap_setCell _ _ _ _ hne).trans q2, q3⟩
theorem St.putOld : ∀ (vs : List Value) {w0 w : World} {G0 G : Mem} {L : List (List Seg)} (h : St w0 G0 w G L) {p o : Nat} (hp : ∀ j, j < vs.length → OldC w0 G0 p (o + j)), St (putCells w0 p o vs) G0 (putCells w p o vs) G L
  | [], _, _, _, _, _, h, _, _, _ => h
  | v :: vs, w0, w, G0, G, L, h, p, o, hp => by
    refine St.putOld vs (h.stOldC (by simpa using hp 0 (by simp)) v) (fun j hj => ?_)
    have := (hp (j + 1) (by simp; omega)).set p o v
    rwa [show o + (j + 1) = o + 1 + j by omega] at this
section
variable {C : Cx} {Q : Exit → Act → World → Prop} {fr : List (Nat × Value)} {G : Mem} {L : List (List Seg)} {ops : Array Oper} {rest : List Oper} {o : Oper}
/-- An operation by its run; the world that lay when the walk began may turn. -/
theorem runL_runC (d : Nat) (hb : base C.n ops fr o d = true)
    (hx : ∀ w, St C.w0 C.G0 w G L → ∃ w0' v w' G' L', (execOp (evo fr) o).run C.P w = .ok (.value v) w' ∧ St w0' C.G0 w' G' L' ∧ RunL ⟨C.P, C.n, C.D, w0', C.G0⟩ ops Q rest ((d, v) :: fr) G' L') :
    RunL C ops Q (o :: rest) fr G L := by
  intro a w ha hw
  unfold base at hb
  simp only [Bool.and_eq_true] at hb
  obtain ⟨⟨⟨⟨hd, hn⟩, hwt⟩, hsel⟩, hcov⟩ := hb
  have hE : execOp a.eval o = execOp (evo fr) o := execOp_congr _ _ _ (fun cs b e => by rw [e] at hsel; simp [isSel] at hsel)
    (fun x hx => ha.eval x (List.all_eq_true.1 hcov x (by simpa using hx)))
  have hwant : wantedF ops fr o = some true := by
    cases hx : wantedF ops fr o with
    | none => rw [hx] at hwt; simp [wantB] at hwt
    | some b => rw [hx] at hwt; simp [wantB] at hwt; rw [← hwt]
  have hdst : o.dst = some d := by
    cases h : o.dst with
    | none => rw [h] at hd; cases hd
    | some e => rw [h] at hd; rw [Nat.eq_of_beq_eq_true hd]
  obtain ⟨w0', v, w', G', L', hr, hS, hk⟩ := hx w hw
  unfold wpList
  rw [if_pos (wantedF_eq ha hwant)]
  refine .inl ?_
  unfold Oper.wp
  rw [hE, hr]
  show wpList C.P ops Q rest (a.put o.dst _) _
  rw [hdst]
  exact hk _ _ (ha.put d _ (Nat.le_of_ble_eq_true hn)) hS
theorem runL_stOldC (p q : Nat) (v : Value) (hp : OldC C.w0 C.G0 p q)
    (h : RunL ⟨C.P, C.n, C.D, C.w0.setCell ⟨p, q, none⟩ v, C.G0⟩ ops Q rest fr G L)
    (hc : (chkSt C.P ops fr o 1, v.cells.toList, v.oneCell') = (some (Pt p q, v), [v], true) := by as_aux_lemma => kernel_rfl) : RunL C ops Q (o :: rest) fr G L := by
  intro a w ha hw
  simp only [Prod.mk.injEq] at hc
  obtain ⟨hc, hvs, hone⟩ := hc
  unfold chkSt at hc
  split at hc
  case h_2 => cases hc
  rename_i t x y hop
  cases hx : (o.dst.isNone && wantB true (wantedF ops fr o) && cov fr x && cov fr y && (C.P.info? t).isSome && Nat.beq (C.P.cellsOf t) 1) with
  | false => rw [hx] at hc; cases hc
  | true =>
    rw [hx] at hc
    simp only [cond_true, Option.some.injEq, Prod.mk.injEq] at hc
    simp only [Bool.and_eq_true, Option.isNone_iff_eq_none] at hx
    obtain ⟨⟨⟨⟨⟨hd, hwt⟩, hcx⟩, hcy⟩, hinf⟩, hsz⟩ := hx
    have hsz' := Nat.eq_of_beq_eq_true hsz
    have hwant : wantedF ops fr o = some true := by
      cases hx : wantedF ops fr o with
      | none => rw [hx] at hwt; simp [wantB] at hwt
      | some b => rw [hx] at hwt; simp [wantB] at hwt; rw [← hwt]
    have hcell : ∃ u, w.cell? ⟨p, q, none⟩ = some u := by
      obtain ⟨u, hu⟩ := hp.cell
      exact ⟨u, (hw.below.cell (p := ⟨p, q, none⟩) hp.lt).trans hu⟩
    have hfz : w.frozen? ⟨p, q, none⟩ = false := (hw.below.frozen (p := ⟨p, q, none⟩) hp.lt).trans hp.fz
    have hl := run_storeVar_seg (P := C.P) (t := t) (w := w) (b := p) (off := q) (v := v) hinf (by rw [hvs, hsz']; rfl) (by rw [hvs]; simpa using hone)
      (fun j hj => by rw [hvs] at hj; have : j = 0 := by simp at hj; exact hj
                      subst this; exact hcell)
      (fun j hj => by rw [hvs] at hj; have : j = 0 := by simp at hj; exact hj
                      subst this; exact hfz)
    rw [hvs] at hl
    have hE : a.eval x = .pointer (some ⟨p, q, none⟩) := (ha.eval x hcx).trans hc.1
    have hE' : a.eval y = v := (ha.eval y hcy).trans hc.2
    unfold wpList
    rw [if_pos (wantedF_eq ha hwant)]
    refine .inl ?_
    unfold Oper.wp execOp
    simp only [hop, hE, hE', Instr.storeAt, Instr.sureAddr, Sem.run_bind, Sem.run_pure, Result.andThen_ok, hl]
    show wpList C.P ops Q rest (a.put o.dst undef) _
    rw [hd]
    exact h _ _ ha (hw.stOldC hp v)
/-- A cell that lay when the walk began is read. -/
theorem runL_ldOldC (d t : Nat) {p q : Nat} (v : Value) (hp : OldC C.w0 C.G0 p q) (hv : C.w0.cell? ⟨p, q, none⟩ = some v)
    (h : RunL C ops Q rest ((d, v) :: fr) G L)
    (hb : base C.n ops fr o d = true := by as_aux_lemma => kernel_rfl)
    (hx : (chkLd fr o, loadOK C.P t [v] 0, loadVal C.P t [v] 0) = (some (t, Pt p (q + 0)), true, v) := by as_aux_lemma => kernel_rfl) : RunL C ops Q (o :: rest) fr G L := by
  simp only [Prod.mk.injEq] at hx
  obtain ⟨hx, hok, hvv⟩ := hx
  unfold chkLd at hx
  split at hx
  case h_2 => cases hx
  rename_i t' x hop
  simp only [Option.some.injEq, Prod.mk.injEq] at hx
  obtain ⟨rfl, hx⟩ := hx
  refine runL_run d hb (fun w hw => ⟨v, w, G, L, ?_, hw, h⟩)
  have hc : ∀ j u, ([v] : List Value)[j]? = some u → w.cell? ⟨p, q + j, none⟩ = some u := by
    intro j u hu
    cases j with
    | zero => simp at hu; rw [← hu]; exact (hw.below.cell (p := ⟨p, q, none⟩) hp.lt).trans hv
    | succ j => simp at hu
  have := run_loadVar_seg (P := C.P) (t := t') (w := w) (b := p) (off := q) (k := 0) (cs := [v]) hc hok
  unfold execOp
  simp only [hop, hx, Instr.loadAt, Instr.sureAddr, Sem.run_bind, Sem.run_pure, Result.andThen_ok, this, hvv]
/-- The cells of a slice that is read. -/
theorem RS.css {α : Type} {E : Elt α} {a : Option Addr} {cap : Nat} {l : List α} (hy : RS E G a cap l) : ∃ dss : List (List Value), dss.length = l.length ∧ (∀ (k : Nat) y, l[k]? = some y → ∃ cs, dss[k]? = some cs ∧ E.R G cs y) ∧
    (∀ ad, a = some ad → ∀ (j : Nat) v, dss.flatten[j]? = some v → ad.spot = none ∧ G ad.block (ad.off + j) = some v) := by
  cases a with
  | none =>
    have : l = [] := List.eq_nil_of_length_eq_zero (by have := hy.nil rfl; have := hy.le; omega)
    subst this
    exact ⟨[], rfl, by simp, by simp⟩
  | some ad =>
    have hch : ∀ k : Nat, ∃ cs, ∀ y, l[k]? = some y → E.R G cs y ∧ ∀ j v, cs[j]? = some v → G ad.block (ad.off + k * E.sz + j) = some v := by
      intro k
      cases hk : l[k]? with
      | none => exact ⟨[], by simp⟩
      | some y => obtain ⟨cs, p1, p2⟩ := hy.elem ad rfl k y hk; exact ⟨cs, fun y' hy' => by cases hy'; exact ⟨p1, p2⟩⟩
    let f : Nat → List Value := fun k => Classical.choose (hch k)
    have hf : ∀ (k : Nat) y, l[k]? = some y → E.R G (f k) y ∧ ∀ j v, (f k)[j]? = some v → G ad.block (ad.off + k * E.sz + j) = some v := fun k => Classical.choose_spec (hch k)
    have d1 : ((List.range l.length).map f).length = l.length := by simp
    have d2 : ∀ (k : Nat) y, l[k]? = some y → ∃ cs, ((List.range l.length).map f)[k]? = some cs ∧ E.R G cs y := by
      intro k y hk
      have hlt := (List.getElem?_eq_some_iff.1 hk).1
      exact ⟨f k, by simp [hlt], (hf k y hk).1⟩
    have dsz := css_sz d1 d2
    refine ⟨(List.range l.length).map f, d1, d2, ?_⟩
    intro ad' had j v hv
    cases had
    have hj := (List.getElem?_eq_some_iff.1 hv).1
    rw [flatten_len dsz, d1] at hj
    have hpos : 0 < E.sz := by
      rcases Nat.eq_zero_or_pos E.sz with h0 | h0
      · rw [h0] at hj; omega
      · exact h0
    have h0 : 0 < l.length := by
      rcases Nat.eq_zero_or_pos l.length with h0 | h0
      · rw [h0] at hj; omega
      · exact h0
    refine ⟨hy.spot _ rfl (by have := hy.le; omega), ?_⟩
    have hk : j / E.sz < l.length := (Nat.div_lt_iff_lt_mul hpos).2 hj
    have hmod := Nat.mod_lt j hpos
    have hk' : j / E.sz < ((List.range l.length).map f).length := by rw [d1]; exact hk
    have hcs := dsz _ (List.getElem_mem hk')
    have hget : (((List.range l.length).map f)[j / E.sz])[j % E.sz]? = some v := by
      have := flatten_get dsz (j / E.sz) _ (j % E.sz) ((((List.range l.length).map f)[j / E.sz])[j % E.sz]'(by omega)) (List.getElem?_eq_getElem hk') (List.getElem?_eq_getElem (by omega))
      rw [Nat.div_add_mod' j E.sz, hv] at this
      rw [List.getElem?_eq_getElem (by omega)]; exact this.symm
    have hfk : ((List.range l.length).map f)[j / E.sz] = f (j / E.sz) := by simp
    rw [hfk] at hget
    have := (hf (j / E.sz) _ (List.getElem?_eq_getElem hk)).2 (j % E.sz) v hget
    rwa [Nat.add_assoc, Nat.div_add_mod' j E.sz] at this
/-- append of one element to a row that lay when the walk began: into its room, or into a new block. -/
theorem runL_appOld {α : Type} {E : Elt α} {a : Option Addr} {cap : Nat} {l : List α} (d e j : Nat) {b : Nat} {cs : List Value} (x : α) (hl : RS E G a cap l) (hx : E.R G cs x)
    (hsp : ∀ ab ao, a = At ab ao → ∀ k, l.length * E.sz ≤ k → k < cap * E.sz → OldC C.w0 C.G0 ab (ao + k))
    (h63 : l.length + 1 ≤ 9223372036854775807) (hby : (l.length + 1) * E.bytes ≤ 140737488355328)
    (h1 : ∀ ab ao, a = At ab ao → l.length + 1 ≤ cap → RunL ⟨C.P, C.n, C.D, putCells C.w0 ab (ao + l.length * E.sz) cs, C.G0⟩ ops Q rest ((d, Sl (At ab ao) (l.length + 1) cap) :: fr) G L)
    (h2 : ∀ a' cap' r', TRow E G a' cap' (l ++ [x]) r' → RunL C ops Q rest ((d, Sl a' (l.length + 1) cap') :: fr) G (r' :: L))
    (hj : L[j]? = some [Sg b 0 cs] := by rfl)
    (hb : base C.n ops fr o d = true := by as_aux_lemma => kernel_rfl)
    (hc : chkApp C.P fr o e E.sz E.bytes = some (Sl a l.length cap, Sl (At b 0) 1 1, E.z) := by as_aux_lemma => kernel_rfl) : RunL C ops Q (o :: rest) fr G L := by
  obtain ⟨t, ty, inf, z, hu, hi, hz, hzs, hsz, hbs, hzz, hrun⟩ := run_app hc
  have hlc : cs.length = E.sz := E.len hx
  refine runL_runC d hb (fun w hw => ?_)
  have hms : (Sg b 0 cs) ∈ L.flatten := by
    obtain ⟨hi', he⟩ := List.getElem?_eq_some_iff.1 hj
    exact List.mem_flatten.2 ⟨_, he ▸ List.getElem_mem hi', by simp⟩
  have hown := (hw.own _ hms).2.1
  simp only [Nat.zero_add] at hown
  have hnews : ∀ k v, cs[k]? = some v → w.cell? ((⟨b, 0, none⟩ : Addr).add k) = some v := fun k v hv => by rw [addr_add, Nat.zero_add]; exact (hown k v hv).1
  have hnl : cs.length = 1 * inf.size := by rw [hlc, hsz]; simp
  have hf := run_firstCells_some (P := C.P) w inf.size 1 ⟨b, 0, none⟩ 1 1 cs hnl hnews
  by_cases hroom : l.length + 1 ≤ cap
  · cases a with
    | none => have := hl.nil rfl; omega
    | some ad =>
      obtain ⟨ab, ao, asp⟩ := ad
      obtain rfl : asp = none := hl.spot _ rfl (by omega)
      have hold := hsp ab ao rfl
      have hmul : l.length * E.sz + E.sz ≤ cap * E.sz := by
        have := Nat.mul_le_mul_right E.sz hroom
        rwa [Nat.add_mul, Nat.one_mul] at this
      have ho : ∀ k, k < cs.length → OldC C.w0 C.G0 ab (ao + l.length * E.sz + k) := fun k hk => by
        rw [Nat.add_assoc]; exact hold _ (by omega) (by omega)
      have hst := run_putCells C.P ab (ao + l.length * E.sz) cs w 0 (E.one hx)
        (fun k hk => by obtain ⟨u, hu'⟩ := (ho k hk).cell; exact ⟨u, (hw.below.cell (p := ⟨ab, ao + l.length * E.sz + 0 + k, none⟩) (ho k hk).lt).trans hu'⟩)
        (fun k hk => (hw.below.frozen (p := ⟨ab, ao + l.length * E.sz + 0 + k, none⟩) (ho k hk).lt).trans (ho k hk).fz)
      simp only [Nat.add_zero] at hst
      refine ⟨putCells C.w0 ab (ao + l.length * E.sz) cs, _, putCells w ab (ao + l.length * E.sz) cs, G, L, ?_, hw.putOld cs ho, h1 ab ao rfl hroom⟩
      rw [hrun]
      rw [hsz] at hf
      simp [Builtin.append_, run_underlying hu, sizeOf, typeInfo, hi, Builtin.lenOf, hf, hroom, addr_add, hst, hsz]
  · obtain ⟨css, c1, c2, c3⟩ := hl.css
    have csz := css_sz c1 c2
    have hnx : Builtin.nextslicecap (l.length + 1) cap * inf.bytes ≤ 281474976710656 := growslice_fits (by omega) (by rw [hbs]; exact hby)
    have hS : ∀ xs : Array Value, St C.w0 C.G0 (w.drew.alloc (.cells xs e)) G ([Sg w.heap.size 0 xs.toList] :: L) := fun xs => (hw.drew).alloc xs e
    have htr : ∀ (old : Nat), TRow E G (At w.heap.size 0) (grownCap w (l.length + 1) old e) (l ++ [x]) [Sg w.heap.size 0 (css.flatten.toArray ++ cs.toArray ++ Builtin.zeroCells z.cells (grownCap w (l.length + 1) old e - (l.length + 1))).toList] := by
      intro old
      refine ⟨⟨css ++ [cs], by simp [c1], ?_, ?_⟩, fun s hs => ?_⟩
      · intro k y hy
        by_cases hlt : k < l.length
        · rw [List.getElem?_append_left hlt] at hy
          obtain ⟨cs', p1, p2⟩ := c2 k y hy
          exact ⟨cs', by rw [List.getElem?_append_left (by omega)]; exact p1, p2⟩
        · rw [List.getElem?_append_right (by omega)] at hy
          have hk : k - l.length = 0 := by have := (List.getElem?_eq_some_iff.1 hy).1; simp at this; omega
          rw [hk] at hy
          simp at hy
          exact ⟨cs, by rw [List.getElem?_append_right (by omega), c1, hk]; rfl, hy ▸ hx⟩
      · have hge := grownCap_ge w (l.length + 1) old e
        refine ⟨?_, by simp only [List.length_append, List.length_cons, List.length_nil]; exact hge, ?_, .inr ⟨w.heap.size, 0, (Builtin.zeroCells z.cells (grownCap w (l.length + 1) old e - (l.length + 1))).toList, rfl, by simp, ?_⟩⟩
        · rw [List.flatten_append, List.length_append, flatten_len csz, c1]; simp [hlc, Nat.add_mul]
        · have := grownCap_le_maxLen w (l.length + 1) old e (by simp only [maxLen]; omega)
          simp only [maxLen] at this; omega
        · rw [Array.length_toList, zeroCells_size, hzs, hsz]; simp
      · rw [List.mem_singleton.1 hs]
        have hge := grownCap_ge w (l.length + 1) old e
        have := ((Typed.of c1 c2).app (Typed.one hx)).app (Typed.zeros (E := E) G hzz (grownCap w (l.length + 1) old e - (l.length + 1)))
        rw [show l.length + 1 + (grownCap w (l.length + 1) old e - (l.length + 1)) = grownCap w (l.length + 1) old e by omega] at this
        simpa using this
    cases a with
    | none =>
      have hc0 := hl.nil rfl
      have h0 : l.length = 0 := by have := hl.le; omega
      have hl0 : l = [] := List.eq_nil_of_length_eq_zero h0
      subst hl0 hc0
      have hcs0 : css = [] := List.eq_nil_of_length_eq_zero c1
      subst hcs0
      have hr := run_append_nil (P := C.P) w t ty e inf z hu hi hz ⟨b, 0, none⟩ 1 1 cs hnl hnews (by omega) (by omega) (by rw [hbs]; simp at hby ⊢; omega)
      refine ⟨C.w0, _, _, G, _, (hrun w).trans (congrArg (fun q => q.andThen fun v w' => Result.ok (Next.value v) w') hr), hS _, ?_⟩
      have := h2 _ _ _ (htr 0)
      simpa using this
    | some ad =>
      have hr := run_append_grow (P := C.P) w t ty e inf z hu hi hz ad l.length cap css.flatten (by rw [flatten_len csz, c1, hsz])
        (fun k v hv => by
          obtain ⟨hs0, hg⟩ := c3 ad rfl k v hv
          obtain ⟨ab, ao, asp⟩ := ad
          simp only at hs0
          subst hs0
          rw [addr_add]; exact hw.mem _ _ _ hg) ⟨b, 0, none⟩ 1 1 cs hnl hnews (by omega) (by omega) hnx
      refine ⟨C.w0, _, _, G, _, (hrun w).trans (congrArg (fun q => q.andThen fun v w' => Result.ok (Next.value v) w') hr), hS _, ?_⟩
      exact h2 _ _ _ (htr cap)
end
/-- What an append to a row that lay when the walk began has brought about: into its room, or into a new block. -/
def AppF {α : Type} (E : Elt α) (G : Mem) (w0 : World) (a : Option Addr) (cap : Nat) (l : List α) (x : α) (cs : List Value) (w0' : World) (a' : Option Addr) (cap' : Nat) (r' : List Seg) : Prop :=
  (∃ ab ao, a = At ab ao ∧ l.length + 1 ≤ cap ∧ w0' = putCells w0 ab (ao + l.length * E.sz) cs ∧ a' = a ∧ cap' = cap ∧ r' = []) ∨ (w0' = w0 ∧ TRow E G a' cap' (l ++ [x]) r')
theorem AppF.old {α : Type} {E : Elt α} {G G0 : Mem} {w0 w0' : World} {a a' : Option Addr} {cap cap' : Nat} {l : List α} {x : α} {cs : List Value} {r' : List Seg} (h : AppF E G w0 a cap l x cs w0' a' cap' r') {p o : Nat} (k : OldC w0 G0 p o) : OldC w0' G0 p o := by
  rcases h with ⟨ab, ao, _, _, rfl, _⟩ | ⟨rfl, _⟩
  · exact k.put cs _ _
  · exact k
theorem runL_appOldF {α : Type} {E : Elt α} {C : Cx} {Q : Exit → Act → World → Prop} {fr : List (Nat × Value)} {G : Mem} {L : List (List Seg)} {ops : Array Oper} {rest : List Oper} {o : Oper} {a : Option Addr} {cap : Nat} {l : List α} (d e j : Nat) {b : Nat} {cs : List Value} (x : α) (hl : RS E G a cap l) (hx : E.R G cs x)
    (hsp : ∀ ab ao, a = At ab ao → ∀ k, l.length * E.sz ≤ k → k < cap * E.sz → OldC C.w0 C.G0 ab (ao + k))
    (h63 : l.length + 1 ≤ 9223372036854775807) (hby : (l.length + 1) * E.bytes ≤ 140737488355328)
    (h : ∀ w0' a' cap' r', AppF E G C.w0 a cap l x cs w0' a' cap' r' → RunL ⟨C.P, C.n, C.D, w0', C.G0⟩ ops Q rest ((d, Sl a' (l.length + 1) cap') :: fr) G (r' :: L))
    (hj : L[j]? = some [Sg b 0 cs] := by rfl)
    (hb : base C.n ops fr o d = true := by as_aux_lemma => kernel_rfl)
    (hc : chkApp C.P fr o e E.sz E.bytes = some (Sl a l.length cap, Sl (At b 0) 1 1, E.z) := by as_aux_lemma => kernel_rfl) : RunL C ops Q (o :: rest) fr G L := by
  refine runL_appOld d e j x hl hx hsp h63 hby (fun ab ao ha hroom => ?_) (fun a' cap' r' ht => h _ _ _ _ (.inr ⟨rfl, ht⟩)) hj hb hc
  have := h _ a cap [] (.inl ⟨ab, ao, ha, hroom, rfl, rfl, rfl, rfl⟩)
  rw [ha] at this
  intro act w hact hw
  refine this act w hact ?_
  exact hw.reorder _ L.flatten (List.Perm.refl _) (by simp)
/-! ### Regions that draw their order, in a round -/
theorem wpOpIn_of {R : Option Nat} {n : Nat} {P : Program} {ops : Array Oper} {Q : Exit → Act → World → Prop} {i : Nat} {K K' : Act → World → Prop} {a : Act} {w : World} (hQ : ¬ LetsOut Q) (hd : ∀ o ∈ ops, isDef o.op = false) (hk : ∀ a w, K a w → K' a w) (h : wpOp P ops Q i K a w) : wpOpIn (FR R) n P ops Q i K' a w := by
  unfold wpOp at h
  unfold wpOpIn
  cases ho : ops[i]? with
  | none => rw [ho] at h; exact hk _ _ h
  | some o =>
    rw [ho] at h
    simp only at h ⊢
    split
    · rename_i hw
      rw [if_pos hw] at h
      rcases h with h | ⟨_, h⟩
      · exact operIn_of hQ (hd o (Array.mem_of_getElem? ho)) hk h
      · exact absurd h hQ
    · rename_i hw
      rw [if_neg hw] at h
      exact ⟨fun _ _ => trivial, hk _ _ h⟩
theorem wpAnyIn_of {R : Option Nat} {n : Nat} {P : Program} {ops : Array Oper} {Q : Exit → Act → World → Prop} (hQ : ¬ LetsOut Q) (hd : ∀ o ∈ ops, isDef o.op = false) : ∀ (fuel : Nat) (ls : Array Bool) (a : Act) (w : World), wpAny P .any ops Q fuel ls a w → wpAnyIn (FR R) n P .any ops Q fuel ls a w
  | 0, _, _, _, h => h
  | fuel + 1, ls, a, w, h => ⟨h.1, fun i hi => wpOpIn_of hQ hd (fun a w h => wpAnyIn_of hQ hd fuel _ a w h) (h.2 i hi)⟩
theorem noDef {l : List Oper} (h : (l.all fun o => !isDef o.op) = true) : ∀ o ∈ l.toArray, isDef o.op = false := fun o ho => by
  have := List.all_eq_true.1 h o (by simpa using ho)
  simpa using this
theorem tr_draw {R : Option Nat} {n : Nat} {C : Cx} {Q : Exit → Act → World → Prop} {id : Nat} {l : List Oper} {fr : List (Nat × Value)} {G : Mem} {L : List (List Seg)} (hQ : ¬ LetsOut Q) (A : List Nat) (h : ∃ V, DRun C l.toArray Q fr V A [] G L)
    (hd : (l.all fun o => !isDef o.op) = true := by rfl) (hm : C.P.follows .mixedOrders = true := by kernel_rfl) : TR R n C (.region id l.toArray true) Q fr G L := by
  intro a w ha hw
  obtain ⟨V, h⟩ := h
  refine wpIn_region_any hm (wpAnyIn_of hQ (noDef hd) _ _ _ _ (h _ _ a _ ⟨by simp, ?_⟩ ?_ ?_ ?_ hw.drew))
  · intro j hj
    rw [Array.getD_eq_getD_getElem?, Array.getElem?_replicate] at hj
    split at hj <;> cases hj
  · unfold left; simp
  · intro j _
    rw [Array.getD_eq_getD_getElem?, Array.getElem?_replicate]
    split <;> simp
  · refine ⟨ha.size, ha.defers, fun t v hv _ => ha.slot t v hv, fun j o d v _ hj => ?_, fun j o d _ hj => ?_⟩ <;>
    · rw [Array.getD_eq_getD_getElem?, Array.getElem?_replicate] at hj
      split at hj <;> cases hj
/-- An act behind which the world that lay when the walk began is another. -/
theorem act_endNC {P : Program} {n : Nat} {D : List Deferred} {w0 w0' : World} {G0 : Mem} {ops : Array Oper} {Q : Exit → Act → World → Prop} {f0 V : List (Nat × Value)} {A dn : List Nat} {G' : Mem} {L' : List (List Seg)} {i d : Nat} {v : Value} {o : Oper} {nd X : List (Nat × Value)} (N : List (Nat × Value)) (h : DRun ⟨P, n, D, w0', G0⟩ ops Q f0 (N ++ V) A (i :: dn) G' L')
    (hd : o.dst = some d := by rfl) (hV : (V.map fun p => look (N ++ V) p.1) = V.map fun p => some p.2 := by as_aux_lemma => kernel_rfl) (hv : look (N ++ V) i = some v := by as_aux_lemma => kernel_rfl) :
    RunL ⟨P, n, D, w0', G0⟩ ops (ActK ⟨P, n, D, w0, G0⟩ ops Q f0 V A dn i o nd X) [] ((d, v) :: (nd ++ X)) G' L' := fun a w ha hw => by
  obtain ⟨V', G1, L1, w1, h1, h2, h3, h4⟩ := act_end (C := ⟨P, n, D, w0', G0⟩) (ops := ops) (Q := Q) (f0 := f0) (A := A) (dn := dn) (nd := nd) (X := X) h hd hV hv a w ha hw
  exact ⟨V', G1, L1, w1, h1, h2, h3, h4⟩
theorem act_endNC0 {P : Program} {n : Nat} {D : List Deferred} {w0 w0' : World} {G0 : Mem} {ops : Array Oper} {Q : Exit → Act → World → Prop} {f0 V : List (Nat × Value)} {A dn : List Nat} {G' : Mem} {L' : List (List Seg)} {i : Nat} {o : Oper} {nd X : List (Nat × Value)} (N : List (Nat × Value)) (h : DRun ⟨P, n, D, w0', G0⟩ ops Q f0 (N ++ V) A (i :: dn) G' L')
    (hd : o.dst = none := by rfl) (hV : (V.map fun p => look (N ++ V) p.1) = V.map fun p => some p.2 := by as_aux_lemma => kernel_rfl) :
    RunL ⟨P, n, D, w0', G0⟩ ops (ActK ⟨P, n, D, w0, G0⟩ ops Q f0 V A dn i o nd X) [] (nd ++ X) G' L' := fun a w ha hw => by
  obtain ⟨V', G1, L1, w1, h1, h2, h3, h4⟩ := act_end0 (C := ⟨P, n, D, w0', G0⟩) (ops := ops) (Q := Q) (f0 := f0) (A := A) (dn := dn) (nd := nd) (X := X) h hd hV a w ha hw
  exact ⟨V', G1, L1, w1, h1, h2, h3, h4⟩
/-! ### Operations without effect at a world that stays, in a drawn order -/
def RWS (C : Cx) (ops : Array Oper) (Q : Act → Prop) (rest : List Oper) (fr : List (Nat × Value)) (w : World) : Prop := ∀ a, Fr C.n C.D a fr → wpStill C.P ops w Q rest a
section
variable {R : Option Nat} {n : Nat} {C : Cx} {ops : Array Oper} {Q : Act → Prop} {rest : List Oper} {fr : List (Nat × Value)} {w : World} {o : Oper}
theorem rws_run (d : Nat) (v : Value) (hr : (execOp (evo fr) o).run C.P w = .ok (.value v) w) (h : RWS C ops Q rest ((d, v) :: fr) w)
    (hb : base C.n ops fr o d = true := by as_aux_lemma => kernel_rfl) : RWS C ops Q (o :: rest) fr w := by
  intro a ha
  obtain ⟨hE, hw, hd, hn⟩ := rw_base hb ha
  unfold wpStill
  rw [if_pos hw]
  unfold Oper.still
  rw [hE, hr, Oper.stillUpon_value, hd]
  exact h _ (ha.put d v hn)
theorem rws_p (d : Nat) (v v' : Value) (e : v = v') (h : RWS C ops Q rest ((d, v') :: fr) w)
    (hb : base C.n ops fr o d = true := by as_aux_lemma => kernel_rfl)
    (hr : ∀ w, (execOp (evo fr) o).run C.P w = .ok (.value v) w := by intro _; as_aux_lemma => kernel_rfl) : RWS C ops Q (o :: rest) fr w := by
  subst e; exact rws_run d v (hr w) h hb
theorem rws_ld (d t : Nat) {b o' : Nat} {cs : List Value} (k : Nat) (v : Value) (hc : ∀ j v, cs[j]? = some v → w.cell? ⟨b, o' + j, none⟩ = some v)
    (h : RWS C ops Q rest ((d, v) :: fr) w)
    (hb : base C.n ops fr o d = true := by as_aux_lemma => kernel_rfl)
    (hx : (chkLd fr o, loadOK C.P t cs k, loadVal C.P t cs k) = (some (t, Pt b (o' + k)), true, v) := by as_aux_lemma => kernel_rfl) : RWS C ops Q (o :: rest) fr w := by
  simp only [Prod.mk.injEq] at hx
  obtain ⟨hx, hok, hv⟩ := hx
  unfold chkLd at hx
  split at hx
  case h_2 => cases hx
  rename_i t' x hop
  simp only [Option.some.injEq, Prod.mk.injEq] at hx
  obtain ⟨rfl, hx⟩ := hx
  have := run_loadVar_seg (P := C.P) (t := t') (w := w) (b := b) (off := o') (k := k) (cs := cs) hc hok
  refine rws_run d v ?_ h hb
  unfold execOp
  simp only [hop, hx, Instr.loadAt, Instr.sureAddr, Sem.run_bind, Sem.run_pure, Result.andThen_ok, this, hv]
theorem rws_sl (d sz : Nat) {a : Option Addr} {len cap : Nat} (vlo vhi : Option Value) (lo hi : Nat) (h1 : lowOf vlo lo) (h2 : highOf vhi hi len) (h3 : lo ≤ hi) (h4 : hi ≤ cap)
    (h : RWS C ops Q rest ((d, Sl (if cap = lo then a else a.map (·.add (lo * sz))) (hi - lo) (cap - lo)) :: fr) w)
    (hb : base C.n ops fr o d = true := by as_aux_lemma => kernel_rfl)
    (hx : (chkSl fr o, isSlT C.P o sz) = (some (Sl a len cap, vlo, vhi, true), true) := by as_aux_lemma => kernel_rfl) : RWS C ops Q (o :: rest) fr w := by
  simp only [Prod.mk.injEq] at hx
  exact rws_run d _ (run_resl hx.1 hx.2 h1 h2 h3 h4 w) h hb
theorem rws_end (h : ∀ a, Fr C.n C.D a fr → Q a) : RWS C ops Q [] fr w := fun a ha => by unfold wpStill; exact h a ha
theorem tw_still {id : Nat} {l : List Oper} {Q : Exit → Act → World → Prop} (hQ : ¬ LetsOut Q) (h : RWS C l.toArray (fun a' => Q .normal a' { w with drawn := w.drawn + 1 }) l fr { w with drawn := w.drawn + 1 })
    (hd : (l.all fun o => !isDef o.op) = true := by rfl) (hm : C.P.follows .mixedOrders = true := by kernel_rfl) (hB : Region.lexB .any l.toArray = true := by kernel_rfl) : TW R n C (.region id l.toArray true) Q fr w := by
  intro a ha
  simp only [Region.lexB, Bool.and_eq_true] at hB
  refine wpIn_region_any hm (wpAnyIn_of hQ (noDef hd) _ _ _ _ (wpAny_of_still (Q := fun a' => Q .normal a' { w with drawn := w.drawn + 1 }) (fun _ h => h) _ _ _ ?_))
  have := wpAnyS_lex (md := .any) hB.1 l 0 (Array.replicate l.toArray.size false) a (by simp) (by simpa using hB.2) (h a ha)
  simpa using this
/-- s[lo:hi:mx] -/
theorem rw_sl3 {R : Option Nat} {n : Nat} {Q : Exit → Act → World → Prop} (d sz : Nat) {a : Option Addr} {len cap : Nat} {k1 k2 k3 : IntKind} (lo hi mx : Nat) (h1 : lo ≤ hi) (h2 : hi ≤ mx) (h3 : mx ≤ cap)
    (h : RW R n C ops Q rest ((d, Sl (if mx = lo then a else a.map (·.add (lo * sz))) (hi - lo) (mx - lo)) :: fr) w)
    (hb : base C.n ops fr o d = true := by as_aux_lemma => kernel_rfl) (hdf : isDef o.op = false := by rfl)
    (hx : (chkSl3 fr o, isSlT C.P o sz) = (some (Sl a len cap, .int k1 (lo : Int), .int k2 (hi : Int), .int k3 (mx : Int)), true) := by as_aux_lemma => kernel_rfl) : RW R n C ops Q (o :: rest) fr w := by
  simp only [Prod.mk.injEq] at hx
  obtain ⟨hx, hs⟩ := hx
  refine rw_run d _ ?_ h hb hdf
  unfold chkSl3 at hx
  split at hx
  case h_2 => cases hx
  rename_i t x lo' hi' mx' hop
  simp only [Option.some.injEq, Prod.mk.injEq] at hx
  obtain ⟨hxv, hlo, hhi, hmx⟩ := hx
  unfold isSlT at hs
  simp only [hop] at hs
  split at hs
  case h_2 => cases hs
  rename_i e hu
  simp only [Bool.and_eq_true] at hs
  obtain ⟨hsz, hinf⟩ := hs
  obtain rfl := Nat.eq_of_beq_eq_true hsz
  obtain ⟨inf, hi''⟩ := Option.isSome_iff_exists.1 hinf
  have a1 : (0 : Int) ≤ (mx : Int) ∧ (mx : Int) ≤ (cap : Int) := by omega
  have a2 : (0 : Int) ≤ (hi : Int) ∧ (hi : Int) ≤ (mx : Int) := by omega
  have a3 : (0 : Int) ≤ (lo : Int) ∧ (lo : Int) ≤ (hi : Int) := by omega
  unfold execOp
  simp only [hop, hxv, hlo, hhi, hmx, Option.map_some, Instr.sliceAt, Instr.slice, Sem.run_bind, Result.andThen_ok, run_underlying' w hu]
  simp [Instr.sliceBounds, Instr.sliceBound, asIntOf, h1, h2, h3, run_sizeOf' w hi'']
end
/-! ### The range over a function whose rounds append one element to a row that a box's cell holds -/
theorem st_lowL {w0 W' : World} {G Gm G' : Mem} {L' : List (List Seg)} (h : St w0 Gm W' G' L') (hle : Mem.le G Gm) : St w0 G W' G L' := by
  refine ⟨h.below, fun b o v hv => h.mem _ _ _ (h.grow _ _ _ (hle _ _ _ hv)), Mem.le_refl _, fun _ _ _ x => .inl x, fun s hs => ?_, h.apart⟩
  obtain ⟨o1, o2, o3, o4⟩ := h.own s hs
  refine ⟨o1, fun i v hv => ?_, o3, o4⟩
  obtain ⟨q1, q2, q3⟩ := o2 i v hv
  refine ⟨q1, q2, ?_⟩
  cases hg : G s.b (s.off + i) with
  | none => rfl
  | some u => rw [h.grow _ _ _ (hle _ _ _ hg)] at q3; cases q3
/-- All that is read of G stays. -/
def KpG (G : Mem) (A B : World) : Prop := ∀ b o v, G b o = some v → A.cell? ⟨b, o, none⟩ = some v → B.cell? ⟨b, o, none⟩ = some v
theorem splice_at {cs : List Value} {k : Nat} {v : Value} (h : cs[k]? = some v) : splice cs k [v] = cs := by
  have hk := (List.getElem?_eq_some_iff.1 h).1
  apply List.ext_getElem?
  intro i
  rw [splice_get (by simp; omega)]
  simp only [List.length_cons, List.length_nil]
  by_cases hi : k ≤ i ∧ i < k + (0 + 1)
  · rw [if_pos hi]
    have : i = k := by omega
    subst this
    simp [h]
  · rw [if_neg hi]
theorem splice_two {cs : List Value} {k : Nat} {u v : Value} (h : k < cs.length) : splice (splice cs k [u]) k [v] = splice cs k [v] := by
  have h1 : (splice cs k [u]).length = cs.length := splice_length (by simp; omega)
  apply List.ext_getElem?
  intro i
  rw [splice_get (by simp; omega), splice_get (by simp; omega), splice_get (by simp; omega)]
  simp only [List.length_cons, List.length_nil]
  split <;> rfl
theorem keeps_put : ∀ (vs : List Value) (b o : Nat) (W : World) (B : Nat), KeepsFrom B W (putCells W b o vs)
  | [], _, _, W, B => KeepsFrom.refl B W
  | v :: vs, b, o, W, B => ((KeepsOthers.setCell _ _ _).from B).trans (keeps_put vs b (o + 1) _ B)
theorem TRow.flat {α : Type} {E : Elt α} (hE : ∀ {G1 G2 : Mem} {cs : List Value} {y : α}, E.R G1 cs y → E.R G2 cs y) {G1 G2 : Mem} {a : Option Addr} {c : Nat} {l : List α} {r : List Seg} (h : TRow E G1 a c l r) : TRow E G2 a c l r := by
  obtain ⟨css, h1, h2, h3⟩ := h.ex
  exact ⟨⟨css, h1, fun i x hx => by obtain ⟨cs, p, q⟩ := h2 i x hx; exact ⟨cs, p, hE q⟩, h3⟩, fun s hs => by obtain ⟨d, p1, p2, p3⟩ := h.sp s hs; exact ⟨d, p1, p2, fun c hc => by obtain ⟨x, hx⟩ := p3 c hc; exact ⟨x, hE hx⟩⟩⟩
theorem TRow.ob {α : Type} {E : Elt α} {G : Mem} {a : Option Addr} {c : Nat} {l : List α} {r : List Seg} (h : TRow E G a c l r) : ∀ s ∈ r, s.ob = Option.none := by
  obtain ⟨css, h1, h2, h3⟩ := h.ex
  intro s hs
  rcases h3.shape with ⟨_, _, rfl⟩ | ⟨b, off, spare, _, rfl, _⟩
  · cases hs
  · obtain rfl : s = _ := by simpa using hs
    rfl
abbrev bxA (bb ke : Nat) (bcs : List Value) (a : Option Addr) (n c : Nat) : List Seg := [Sg bb 0 (splice bcs ke [Sl a n c])]
section
variable {C : Cx} {Q : Exit → Act → World → Prop} {fr : List (Nat × Value)} {G : Mem}
theorem tc_rangeA {α β : Type} {E : Elt β} {t p : Nat} {assign body : Code} {gf : Nat} {lb : Array Value} {bb ke : Nat} {bcs : List Value} {Lr : List (List Seg)} (g : α → β)
    (hE : ∀ {G1 G2 : Mem} {cs : List Value} {y : β}, E.R G1 cs y → E.R G2 cs y)
    (hfr : look fr t = some (.func (.func gf) #[] lb)) (hD : C.D = []) (hp : p < C.n) (eg : ∀ args w, (callFunc gf args).run C.P w = .ok (.enter gf args) w)
    (e1 : α → Value) (S : List α → Prop) (N : Nat) (hN : N * E.bytes ≤ 281474976710656) (hke : bcs[ke]? = some (Sl none 0 0))
    (hLob : ∀ s ∈ Lr.flatten, s.ob = none)
    (hseq : ∀ w, St C.w0 C.G0 w G ([Sg bb 0 bcs] :: [] :: Lr) → SeqStopsK (FR none) 2 C.P gf lb (fun x => #[e1 x]) (KpG G) S (fun _ => True) N w)
    (frB : α → List (Nat × Value))
    (hA : ∀ (l : Nat) (x : α) (W : World), TW (some l) 1 ⟨C.P, C.n, [], W, G⟩ assign (Exit.then (fun a' W' => W' = W ∧ Fr C.n [] a' (frB x)) (fun _ _ _ => False)) ((p, e1 x) :: fr) W)
    (hB : ∀ (l : Nat) (pre : List α) (x : α) (W : World) (Gm : Mem) (a : Option Addr) (c : Nat), pre.length < N → Mem.le G Gm → RS E Gm a c (pre.map g) → OldC W Gm bb ke → W.cell? ⟨bb, ke, none⟩ = some (Sl a pre.length c) →
      (∀ ab ao, a = At ab ao → ∀ k, (pre.map g).length * E.sz ≤ k → k < c * E.sz → OldC W Gm ab (ao + k)) →
      TR (some l) 1 ⟨C.P, C.n, [], W, Gm⟩ body (fun e _ W' => match e with
        | .normal => (∃ ab ao cs, a = At ab ao ∧ pre.length + 1 ≤ c ∧ E.R Gm cs (g x) ∧ ∃ G' L', St ((putCells W ab (ao + (pre.map g).length * E.sz) cs).setCell ⟨bb, ke, none⟩ (Sl a (pre.length + 1) c)) Gm W' G' L') ∨
            (∃ a' c' r' G' L', TRow E G' a' c' (pre.map g ++ [g x]) r' ∧ St (W.setCell ⟨bb, ke, none⟩ (Sl a' (pre.length + 1) c')) Gm W' G' (r' :: L'))
        | _ => False) (frB x) Gm [])
    (hdone : ∀ (D : Nat) (xs : List α) (a : Option Addr) (c : Nat) (r : List Seg), S xs → TRow E G a c (xs.map g) r → TQ ⟨C.P, C.n, dfr D, C.w0, C.G0⟩ Q .normal fr G ([Ob D (.deferred (some []))] :: bxA bb ke bcs a xs.length c :: r :: Lr)) :
    TC C (.rangeFunc (.tmp t) #[p] assign body) Q fr G ([Sg bb 0 bcs] :: [] :: Lr) := by
  intro a w ha hw
  refine wp_to (n := 3) ?_
  have hg : a.eval (.tmp t) = .func (.func gf) #[] lb := by simp [Act.eval, ha.slot t _ hfr]
  have hkl := (List.getElem?_eq_some_iff.1 hke).1
  have hD2 : ∀ D, Fr C.n (dfr D) { a with defers := { target := .collected D, args := #[] } :: a.defers } fr := fun D => ⟨ha.size, by simp [ha.defers, hD], ha.slot⟩
  have hob : ∀ {ra : Option Addr} {rc n : Nat} {l : List β} {r : List Seg}, TRow E G ra rc l r → ∀ s ∈ (bxA bb ke bcs ra n rc :: r :: Lr).flatten, s.ob = none := by
    intro ra rc n l r hT s hs
    simp only [List.flatten_cons, List.mem_append] at hs
    rcases hs with hs | hs | hs
    · obtain rfl : s = _ := by simpa using hs
      rfl
    · exact hT.ob s hs
    · exact hLob s hs
  refine wpIn_rangeFunc_ownH (F := FR none) (n := 3) rfl (by decide) hg trivial eg (hseq w hw)
    (fun {A B D} h k b o v hv hc => k b o v hv (h b o v hv hc))
    (fun W l ob ob' hl hW hcl _ b o v hv hc => by
      have hne : b ≠ l := fun e => by
        subst e
        unfold World.cell? at hc
        rw [hW] at hc
        cases ob <;> simp [Obj.isCells] at hcl hc
      unfold World.cell? at hc ⊢
      unfold World.putObj
      simp only at hc ⊢
      rw [Array.getElem?_setIfInBounds, if_neg (by omega)]; exact hc) (Below.refl _ _) (fun _ => rfl)
    (fun pre W => ∃ ra rc r, TRow E G ra rc (pre.map g) r ∧ St C.w0 C.G0 W G (bxA bb ke bcs ra pre.length rc :: r :: Lr) ∧ w.heap.size ≤ W.heap.size)
    (fun _ _ _ => False)
    (fun pre A B row h hg hr => by obtain ⟨ra, rc, r, h1, h2, h3⟩ := h; exact ⟨ra, rc, r, h1, st_grown h2 hg hr hw.below.size (hob h1), Nat.le_trans h3 hg.size⟩)
    (fun c pre A B row h hg hr => h)
    ⟨none, 0, [], TRow.none E G, by rw [bxA]; simp only [List.length_nil]; rw [splice_at hke]; exact hw, Nat.le_refl _⟩
    (fun x a' _ => Fr C.n [] a' (frB x)) (fun x a' _ A B row h hg hr => h) ?assign ?body ?done ?stop
  case assign =>
    intro l pre x W K hI hK
    have ha0 : Fr C.n [] { a with defers := [] } fr := ⟨ha.size, rfl, ha.slot⟩
    have hFr := ha0.put p (e1 x) hp
    have e0 : (#[p].zip #[e1 x]).foldl (fun t (p, v) => t.setIfInBounds p v) a.tmps = a.tmps.setIfInBounds p (e1 x) := by simp
    rw [e0]
    refine wpIn_mono (hA l x W _ hFr) ?_
    intro e a' W' he
    cases e with
    | normal => obtain ⟨rfl, hF⟩ := he; exact hK a' W' (KeepsFrom.refl _ _) (fun b o v _ hc => hc) hI hF
    | _ => exact he.elim
  case body =>
    rintro l pre x a' W hl hr ⟨ra, rc, r, hT, hS, hsz⟩ hF hlen
    obtain ⟨css, c1, c2, c3⟩ := hT.ex
    have csz := css_sz c1 c2
    have hml : (pre.map g).length = pre.length := List.length_map _
    have hbx := hS.own (Sg bb 0 (splice bcs ke [Sl ra pre.length rc])) (by simp [bxA])
    have hbk : (splice bcs ke [Sl ra pre.length rc])[ke]? = some (Sl ra pre.length rc) := by rw [splice_get (by simp; omega), if_pos ⟨Nat.le_refl _, by simp⟩]; simp
    obtain ⟨bc1, bc2, bc3⟩ := hbx.2.1 ke _ hbk
    simp only [Nat.zero_add] at bc1 bc2 bc3
    obtain ⟨bad, hbad⟩ : ∃ bad : Nat → Nat → Prop, ∀ b o, bad b o ↔ (b = bb ∧ o = ke) ∨ ∃ ao, ra = At b ao ∧ ao + (pre.map g).length * E.sz ≤ o ∧ o < ao + rc * E.sz := ⟨_, fun _ _ => Iff.rfl⟩
    obtain ⟨Gm, g1, g2, g3⟩ : ∃ Gm : Mem, (∀ b o v, Gm b o = some v → W.cell? ⟨b, o, none⟩ = some v) ∧ (∀ b o v, W.cell? ⟨b, o, none⟩ = some v → ¬ bad b o → Gm b o = some v) ∧ (∀ b o, bad b o → Gm b o = none) := by
      classical
      refine ⟨fun b o => if bad b o then none else W.cell? ⟨b, o, none⟩, fun b o v h => ?_, fun b o v h hn => ?_, fun b o h => ?_⟩
      · simp only at h; split at h
        · cases h
        · exact h
      · simp only; rw [if_neg hn]; exact h
      · simp only; rw [if_pos h]
    -- the row's segment
    have hrow : ∀ ab ao, ra = At ab ao → ∃ spare, r = [Sg ab ao (css.flatten ++ spare)] ∧ spare.length = (rc - (pre.map g).length) * E.sz := by
      intro ab ao e
      rcases c3.shape with ⟨h, _⟩ | ⟨b, off, spare, h, h', hl⟩
      · rw [e] at h; cases h
      · rw [e] at h; cases h; exact ⟨spare, h', hl⟩
    have hcell : ∀ ab ao spare, r = [Sg ab ao (css.flatten ++ spare)] → ∀ j v, (css.flatten ++ spare)[j]? = some v → W.cell? ⟨ab, ao + j, none⟩ = some v ∧ W.frozen? ⟨ab, ao + j, none⟩ = false ∧ G ab (ao + j) = none := by
      intro ab ao spare e j v hv
      exact (hS.own (Sg ab ao (css.flatten ++ spare)) (by rw [e]; simp)).2.1 j v hv
    have hFl : ∀ spare : List Value, spare.length = (rc - (pre.map g).length) * E.sz → (css.flatten ++ spare).length = rc * E.sz := by
      intro spare h
      have := Nat.mul_le_mul_right E.sz c3.le
      rw [List.length_append, flatten_len csz, c1, h, Nat.sub_mul]; omega
    have hle : Mem.le G Gm := by
      intro b o v hv
      refine g2 b o v (hS.mem _ _ _ hv) (fun hb => ?_)
      rcases (hbad b o).1 hb with ⟨rfl, rfl⟩ | ⟨ao, e, h1, h2⟩
      · rw [bc3] at hv; cases hv
      · obtain ⟨spare, e2, hl⟩ := hrow b ao e
        have := hFl spare hl
        have h3 := (hcell b ao spare e2 (o - ao) _ (List.getElem?_eq_getElem (by omega))).2.2
        rw [show ao + (o - ao) = o by omega, hv] at h3; cases h3
    have hRS : RS E Gm ra rc (pre.map g) := by
      refine ⟨c3.le, Nat.le_trans (Nat.mul_le_mul_right _ (by rw [hml]; omega)) hN, c3.max, ?_, ?_, ?_⟩
      · intro e
        rcases c3.shape with ⟨_, h, _⟩ | ⟨b, off, spare, h, _⟩
        · exact h
        · rw [e] at h; cases h
      · intro ad e _
        rcases c3.shape with ⟨h, _⟩ | ⟨b, off, spare, h, _⟩
        · rw [e] at h; cases h
        · rw [e] at h; cases h; rfl
      · intro ad e i y hy
        rcases c3.shape with ⟨h, _⟩ | ⟨b, off, spare, h, h', hl'⟩
        · rw [e] at h; cases h
        rw [e] at h; cases h
        obtain ⟨cs, p1, p2⟩ := c2 i y hy
        refine ⟨cs, E.mono hle p2, fun j v hv => ?_⟩
        have hi := (List.getElem?_eq_some_iff.1 p1).1
        have hj := (List.getElem?_eq_some_iff.1 hv).1
        have hcl := csz cs (List.mem_of_getElem? p1)
        have hfl := flatten_get csz i cs j v p1 hv
        have hlt : i * E.sz + j < (pre.map g).length * E.sz := by
          have : (i + 1) * E.sz ≤ (pre.map g).length * E.sz := Nat.mul_le_mul_right _ (by omega)
          rw [Nat.add_mul, Nat.one_mul] at this; omega
        have hj' : (css.flatten ++ spare)[i * E.sz + j]? = some v := by rw [List.getElem?_append_left (List.getElem?_eq_some_iff.1 hfl).1]; exact hfl
        have hc := hcell b off spare h' _ _ hj'
        rw [Nat.add_assoc]
        refine g2 _ _ _ hc.1 (fun hb => ?_)
        rcases (hbad _ _).1 hb with ⟨e1, e2⟩ | ⟨ao, e1, h1, h2⟩
        · simp only at e1 e2
          have hap : (Sg bb 0 (splice bcs ke [Sl ra pre.length rc])).apart (Sg b off (css.flatten ++ spare)) := by
            have := hS.apart
            rw [h'] at this
            simp only [List.flatten_cons, bxA] at this
            exact (List.pairwise_cons.1 this).1 _ (by simp)
          have hsl : (splice bcs ke [Sl ra pre.length rc]).length = bcs.length := splice_length (by simp; omega)
          refine hap bb ke ⟨rfl, Nat.zero_le _, by simp only [Seg.len, hsl]; omega⟩ ⟨e1, by simp only; omega, ?_⟩
          simp only [Seg.len]
          have := (List.getElem?_eq_some_iff.1 hj').1
          omega
        · rw [e] at e1; cases e1; simp only at h1; omega
    have hbc : OldC W Gm bb ke := ⟨lt_of_cell bc1, ⟨_, bc1⟩, bc2, g3 _ _ ((hbad _ _).2 (.inl ⟨rfl, rfl⟩))⟩
    have hsp : ∀ ab ao, ra = At ab ao → ∀ k, (pre.map g).length * E.sz ≤ k → k < rc * E.sz → OldC W Gm ab (ao + k) := by
      intro ab ao e k h1 h2
      obtain ⟨spare, e2, hl⟩ := hrow ab ao e
      have := hFl spare hl
      obtain ⟨q1, q2, _⟩ := hcell ab ao spare e2 k _ (List.getElem?_eq_getElem (by omega))
      exact ⟨lt_of_cell q1, ⟨_, q1⟩, q2, g3 _ _ ((hbad _ _).2 (.inr ⟨ao, e, by omega, by omega⟩))⟩
    have hTR := hB l pre x W Gm ra rc hlen hle hRS hbc bc1 hsp
    refine wpIn_mono (hTR a' W hF (St.start g1)) ?_
    intro e a'' W' he
    cases e with
    | normal =>
      have hmap : (pre ++ [x]).map g = pre.map g ++ [g x] := by simp
      rcases he with ⟨ab, ao, cs, rfl, hroom, hcs, G', L', hSt⟩ | ⟨na, nc, nr, G', L', hTr, hSt⟩
      · obtain ⟨spare, e2, hl⟩ := hrow ab ao rfl
        subst e2
        have hFL := hFl spare hl
        have hlc : cs.length = E.sz := E.len hcs
        have hmul : (pre.map g).length * E.sz + E.sz ≤ rc * E.sz := by
          have := Nat.mul_le_mul_right E.sz (show (pre.map g).length + 1 ≤ rc by rw [hml]; exact hroom)
          rwa [Nat.add_mul, Nat.one_mul] at this
        have h1 := hS.store (i := 1) (s := Sg ab ao (css.flatten ++ spare)) rfl ((pre.map g).length * E.sz) cs (by simp only; omega)
        have h2 := h1.store (i := 0) (s := Sg bb 0 (splice bcs ke [Sl (At ab ao) pre.length rc])) rfl ke [Sl (At ab ao) (pre.length + 1) rc] (by simp only; rw [splice_length (by simp; omega)]; simp; omega)
        have h3 := h2.call (st_low (w0 := (putCells W ab (ao + (pre.map g).length * E.sz) cs).setCell ⟨bb, 0 + ke, none⟩ (Sl (At ab ao) (pre.length + 1) rc)) (by rw [Nat.zero_add]; exact hSt) hle)
        refine ⟨?_, fun b o v hv hc => hSt.mem _ _ _ (hSt.grow _ _ _ (hle _ _ _ hv)), At ab ao, rc, [Sg ab ao (splice (css.flatten ++ spare) ((pre.map g).length * E.sz) cs)], ?_, ?_, ?_⟩
        · exact ((keeps_put _ _ _ W _).trans ((KeepsOthers.setCell _ _ _).from _)).trans (keeps_of (w0 := (putCells W ab (ao + (pre.map g).length * E.sz) cs).setCell ⟨bb, ke, none⟩ (Sl (At ab ao) (pre.length + 1) rc)) hSt _)
        · rw [hmap]
          refine TRow.made (css := css ++ [cs]) (by simp [c1]) ?_ ?_ ?_ ?_ c3.max ((hT.sp _ (List.mem_singleton.2 rfl)).splice (i := (pre.map g).length) (Typed.one (hE hcs)) (by rw [hml]; exact hroom))
          · intro k y hy
            by_cases hlt : k < (pre.map g).length
            · rw [List.getElem?_append_left hlt] at hy
              obtain ⟨cs', p1, p2⟩ := c2 k y hy
              exact ⟨cs', by rw [List.getElem?_append_left (by omega)]; exact p1, p2⟩
            · rw [List.getElem?_append_right (by omega)] at hy
              have hk : k - (pre.map g).length = 0 := by have := (List.getElem?_eq_some_iff.1 hy).1; simp only [List.length_cons, List.length_nil] at this; omega
              rw [hk] at hy
              simp at hy
              exact ⟨cs, by rw [List.getElem?_append_right (by omega), c1, hk]; rfl, hy ▸ hE hcs⟩
          · have hfl := flatten_len csz
            rw [c1] at hfl
            unfold splice
            rw [← hfl, List.take_left]
            rw [← List.append_assoc, List.take_append_of_le_length (by simp only [List.length_append, List.length_cons, List.length_nil, hfl, hlc, Nat.add_mul]; omega)]
            rw [List.take_of_length_le (by simp only [List.length_append, List.length_cons, List.length_nil, hfl, hlc, Nat.add_mul]; omega)]
            simp
          · rw [splice_length (by omega)]; exact hFL
          · simp only [List.length_append, List.length_cons, List.length_nil, hml]; omega
        · have e3 : splice (splice bcs ke [Sl (At ab ao) pre.length rc]) ke [Sl (At ab ao) (pre.length + 1) rc] = splice bcs ke [Sl (At ab ao) (pre.length + 1) rc] := splice_two hkl
          simp only [List.set_cons_succ, List.set_cons_zero, List.nil_append, e3] at h3
          simpa [bxA] using h3
        · have := hSt.below.size
          rw [World.size_setCell, putCells_size] at this; omega
      · have h2 := hS.store (i := 0) (s := Sg bb 0 (splice bcs ke [Sl ra pre.length rc])) rfl ke [Sl na (pre.length + 1) nc] (by simp only; rw [splice_length (by simp; omega)]; simp; omega)
        have h3 := h2.call (st_lowL (w0 := W.setCell ⟨bb, 0 + ke, none⟩ (Sl na (pre.length + 1) nc)) (by rw [Nat.zero_add]; exact hSt) hle)
        refine ⟨?_, fun b o v hv hc => hSt.mem _ _ _ (hSt.grow _ _ _ (hle _ _ _ hv)), na, nc, nr, by rw [hmap]; exact hTr.flat hE, ?_, ?_⟩
        · exact ((KeepsOthers.setCell _ _ _).from _).trans (keeps_of (w0 := W.setCell ⟨bb, ke, none⟩ (Sl na (pre.length + 1) nc)) hSt _)
        · have e3 : splice (splice bcs ke [Sl ra pre.length rc]) ke [Sl na (pre.length + 1) nc] = splice bcs ke [Sl na (pre.length + 1) nc] := splice_two hkl
          simp only [List.set_cons_zero, e3] at h3
          refine h3.reorder _ ([Sg bb 0 (splice bcs ke [Sl na (pre.length + 1) nc])] ++ (nr ++ (L'.flatten ++ (r ++ Lr.flatten)))) ?_ ?_
          · simp only [List.flatten_append, List.flatten_cons]
            rw [← List.append_assoc nr]
            exact List.perm_append_comm_assoc _ _ _
          · simp only [List.flatten_cons, bxA, List.length_append, List.length_cons, List.length_nil]
            exact List.Sublist.append (List.Sublist.refl _) (List.Sublist.append (List.Sublist.refl _) ((List.sublist_append_right _ _).trans (List.sublist_append_right _ _)))
        · have := hSt.below.size
          rw [World.size_setCell] at this; omega
    | _ => exact he.elim
  case done =>
    rintro D xs W hDw hS2 ⟨ra, rc, r, hT, hSt, _⟩ hK
    exact hdone D xs ra rc r hS2 hT _ W (hD2 D) (st_addOb hSt hK rfl (Nat.le_trans hw.below.size hDw) (hob hT))
  case stop =>
    rintro D c pre W hDw _ hSp
    exact hSp.elim
end
end Go.Tx
