/- A drawn region's act behind which something else is said; a body that defers, and a worker's birth. -/
import Derived.Test.YtngoijkcbmchdaaGreatDoorWt
set_option linter.unusedVariables false
set_option linter.unusedSimpArgs false
namespace Go.Tx
open Go.Conc Go.ConcN Go.RowKit Go.Conc.Lib Go.ConcR.Gen Go.ConcN.Gen
open Go.ConcR (KK wgBlock WgAt stA smA)

/-- An act of a drawn region that stores, behind which the goroutine knows something else. -/
theorem act_endNC0 {C C' : Cx} {ops : Array Oper} {Q : Exit → Act → World → Prop} {f0 V : List (Nat × Value)} {A dn : List Nat} {G' : Mem} {L' : List (List Seg)} {i : Nat} {o : Oper} {nd X : List (Nat × Value)} (N : List (Nat × Value)) (h : DRun C' ops Q f0 (N ++ V) A (i :: dn) G' L')
    (hC : ∃ u, C' = C.out u := by exact ⟨_, rfl⟩) (hd : o.dst = none := by rfl) (hV : (V.map fun p => look (N ++ V) p.1) = V.map fun p => some p.2 := by as_aux_lemma => kernel_rfl) :
    RunL C' ops (ActK C ops Q f0 V A dn i o nd X) [] (nd ++ X) G' L' := fun a w ha hw => by
  obtain ⟨u, rfl⟩ := hC
  obtain ⟨V', G1, L1, w1, h1, h2, h3, h4⟩ := act_end0 (C := C.out u) (ops := ops) (Q := Q) (f0 := f0) (A := A) (dn := dn) (nd := nd) (X := X) h hd hV a w ha hw
  exact ⟨V', G1, L1, w1, h1, h2, h3, h4⟩

/-- A worker's body has come to its end: the channel is closed, one call is put off. -/
def WEnd (D : List Deferred) : Exit → Act → World → Prop := fun e a w => e = .normal ∧ a.defers = D ∧ w.output = gho 2 0 0
theorem tq_wend {C : Cx} {fr : List (Nat × Value)} {G : Mem} {L : List (List Seg)} (ho : C.w0.output = gho 2 0 0) : TQ C (WEnd C.D) .normal fr G L := fun a w ha hw => ⟨rfl, ha.defers, hw.outw.trans ho⟩

section
variable {P : Program}
/-- The frame behind a worker's function: it only leaves. -/
def bot0 (P : Program) : Frame := { (default : Frame) with fn := P.funcs.size, defers := [], mode := .panicking [goexitEntry] }

theorem born_go {f : FuncId} {fn : Func} {c : Code} {caps : Array Value} (hf : P.funcs[f]? = some fn) (hb : fn.body = some c) (hn : (fn.name == "runtime.NumGoroutine") = false) (w : World) :
    stepG P false (born P ⟨.fn (.func f) caps, #[]⟩) w = .go (Conc.G ((baseD f).at { tmps := caps ++ Array.replicate (fn.ntmps - caps.size) undef, defers := [] } [.code c]) [bot0 P]) w #[] := by
  have h1 : ¬ fn.name = "runtime.NumGoroutine" := by simpa using hn
  rw [← enter_atD caps hf hb]
  simp [born, stepG, unwind, callDeferred, invoke, callFunc, hf, h1, hb, seen_none, GStep.after, Conc.G, bot0]
theorem quits2 {f : FuncId} {fn : Func} (hf : P.funcs[f]? = some fn) (hr : fn.results = #[]) (T : Array Value) (todo : List Item) : QuitsD P 2 0 (Conc.G { (baseD f).at ⟨T, []⟩ todo with mode := .returning } [bot0 P]) := by
  refine QuitsD.ctl (g' := Conc.G (bot0 P) []) rfl (fun w => ?_) ?_
  · simp [Conc.G, stepG, unwind, doReturn, results, Frame.at, baseD, bot0, hf, hr, seen, GStep.after, goexitEntry]
  refine QuitsD.ctl (g' := { Conc.G (bot0 P) [] with status := .finished }) rfl (fun w => ?_) ⟨rfl, rfl⟩
  simp [Conc.G, stepG, unwind, bot0, goexitEntry, Frame.catches]
  try rfl

/-- A worker, from its birth. -/
theorem work_run {Lk : WgLink} {ph : Ph} {G : Mem} {Z : Goroutine → World → Prop} {f : FuncId} {fn : Func} {c : Code} {caps : Array Value} (H : WgLib P Lk) (hty : ph.tWg = Lk.tWg) (hCW : ph.C ≠ ph.Wg)
    (hf : P.funcs[f]? = some fn) (n : Nat) (fr : List (Nat × Value)) (hb : fn.body = some c) (hr : fn.results = #[]) (hnm : (fn.name == "runtime.NumGoroutine") = false)
    (h : ∀ w0, w0.output = gho 0 0 0 → TC ⟨P, n, [], w0, G, WAc P ph⟩ c (WEnd [dcall Lk.done #[.pointer (some ⟨ph.Wg, 0, none⟩)]]) fr G [])
    {w : World} (ho : w.output = gho 0 0 0) (hG : ∀ b o v, G b o = some v → w.cell? ⟨b, o, none⟩ = some v)
    (hn : fn.ntmps = n := by rfl) (ha : Nat.ble caps.size n = true := by rfl) (hfr : (fr.map fun p => caps[p.1]?) = fr.map fun p => some p.2 := by as_aux_lemma => kernel_rfl) :
    Run1 P false w.heap.size (WAc P ph) Z (born P ⟨.fn (.func f) caps, #[]⟩) w := by
  refine .idle rfl (fun w => born_go hf hb hnm w) ?_
  refine h w ho _ w (by rw [hn]; exact fr_enter fr hfr (Nat.le_of_ble_eq_true ha)) (St.start hG) false _ (Acs.le_refl _) (baseD f) [] [bot0 P] Z (by simp [baseD]) fun e a' w' ⟨e1, hd, ho'⟩ => ?_
  subst e1
  show Run1 P false w.heap.size (WAc P ph) Z (Conc.G ((baseD f).at a' []) [bot0 P]) w'
  obtain ⟨T, D⟩ := a'
  simp only at hd
  subst hd
  refine .idle rfl (fun _ => stepG_end) ?_
  refine .idle rfl (fun w => stepG_unwind_enter (a := ⟨T, [dcall Lk.done #[.pointer (some ⟨ph.Wg, 0, none⟩)]]⟩) rfl H.f_done (nm_done Lk) (show (doneFn Lk).body = some (body_done Lk) from rfl)) ?_
  exact done_run H hty rfl (quits2 hf hr T []) hCW ho'
end

theorem tq_thenJ {C : Cx} {ph : Ph} {y : Code} {Q : Exit → Act → World → Prop} {fr : List (Nat × Value)} {G : Mem} {L : List (List Seg)} (h : TC (C.join ph) y Q fr G L) : TQ (C.join ph) (Exit.then (y.wpV C.P C.w0.heap.size C.A Q) Q) .normal fr G L := fun a w ha hw => by
  have := h a w ha hw
  have hsz : (joinV ph C.w0).heap.size = C.w0.heap.size := by unfold joinV; simp
  simp only [Cx.join, hsz] at this
  exact this

/-! ### What is sent, and what comes back -/
/-- The cells of element i of a slice that is read. -/
def cellsAt (G : Mem) (a : Option Addr) (sz i : Nat) : List Value := match a with
  | none => []
  | some ad => (List.range sz).map fun j => (G ad.block (ad.off + i * sz + j)).getD undef
/-- A pool over the list l: job i is element i behind its number, its result the cells cf. -/
def mkPh {α : Type} (ety cpe cty : Nat) (cv z : Value) (cf : α → List Value) (G : Mem) (a : Option Addr) (sz : Nat) (l : List α) (Wg ch ob n C : Nat) : Ph :=
  { tWg := 67, Wg := Wg, ch := ch, ob := ob, ety := ety, cpe := cpe, n := n, N := l.length, z := z, C := C, cty := cty, cv := cv, jv := fun i => .agg (I (i : Int) :: cellsAt G a sz i).toArray, F := fun i => (l[i]?).elim [] cf }
theorem cellsAt_eq {α : Type} {E : Elt α} {G G2 : Mem} {b o cap : Nat} {l : List α} (h : RS E G (At b o) cap l) (hle : Mem.le G G2) {i : Nat} {x : α} (hx : l[i]? = some x) {cs : List Value} (hlen : cs.length = E.sz)
    (hc : ∀ j v, cs[j]? = some v → G2 b (o + i * E.sz + j) = some v) : cellsAt G (At b o) E.sz i = cs := by
  obtain ⟨cs', h1, h2⟩ := h.elem _ rfl i x hx
  have hl' := E.len h1
  unfold cellsAt
  apply List.ext_getElem?
  intro j
  simp only [List.getElem?_map]
  by_cases hj : j < E.sz
  · rw [List.getElem?_range hj]
    have e1 : cs[j]? = some (cs[j]'(by omega)) := List.getElem?_eq_getElem (by omega)
    have e2 : cs'[j]? = some (cs'[j]'(by omega)) := List.getElem?_eq_getElem (by omega)
    have g1 := hc j _ e1
    have g2 := h2 j _ e2
    simp only at g2
    have := hle _ _ _ g2
    rw [g1] at this
    rw [e1]
    simp only [Option.map_some, g2, Option.getD_some]
    exact this.symm
  · rw [List.getElem?_eq_none (by simp; omega), List.getElem?_eq_none (by omega)]
    rfl
theorem cells_of {α : Type} {E : Elt α} {G : Mem} {a : Option Addr} {cap : Nat} {l : List α} (h : RS E G a cap l) {i : Nat} {x : α} (hx : l[i]? = some x) : ∃ cs, E.R G cs x ∧ cellsAt G a E.sz i = cs := by
  cases a with
  | none =>
    have := h.nil rfl
    have := h.le
    have := (List.getElem?_eq_some_iff.1 hx).1
    omega
  | some ad =>
    obtain ⟨cs, h1, h2⟩ := h.elem _ rfl i x hx
    refine ⟨cs, h1, ?_⟩
    have hl := E.len h1
    unfold cellsAt
    apply List.ext_getElem?
    intro j
    simp only [List.getElem?_map]
    by_cases hj : j < E.sz
    · rw [List.getElem?_range hj]
      have e1 : cs[j]? = some (cs[j]'(by omega)) := List.getElem?_eq_getElem (by omega)
      rw [e1]
      simp only [Option.map_some, h2 j _ e1, Option.getD_some]
    · rw [List.getElem?_eq_none (by simp; omega), List.getElem?_eq_none (by omega)]
      rfl

theorem allOf_get {F : Nat → List Value} {N sz : Nat} (hF : ∀ i, i < N → (F i).length = sz) {i j : Nat} {v : Value} (hi : i < N) (hv : (F i)[j]? = some v) : (allOf F N)[i * sz + j]? = some v := by
  unfold allOf
  rw [List.getElem?_toArray, List.flatMap_def]
  refine flatten_at _ (fun c hc => ?_) i j (F i) v ?_ hv
  · obtain ⟨k, hk, rfl⟩ := List.mem_map.1 hc
    exact hF k (List.mem_range.1 hk)
  · rw [List.getElem?_map, List.getElem?_range hi]; rfl

/-- The results, once they are the starter's: a slice that is read. -/
theorem RS.ofAll {α β : Type} {E : Elt β} {G : Mem} {ph : Ph} {l : List α} {f : α → β} (hcpe : ph.cpe = E.sz) (hN : ph.N = l.length) (hF : ∀ (i : Nat) x, l[i]? = some x → E.R G (ph.F i) (f x)) (hn : ∀ o v, G ph.ob o ≠ some v)
    (hfit : l.length * E.bytes ≤ 281474976710656) (hmax : l.length ≤ 9223372036854775807) : RS E (G.add (obSeg ph)) (At ph.ob 0) ph.N (l.map f) := by
  refine ⟨by simp [hN], by simpa using hfit, by omega, by simp, by simp, fun ad ha i x hx => ?_⟩
  cases ha
  rw [List.getElem?_map] at hx
  cases hy : l[i]? with
  | none => rw [hy] at hx; cases hx
  | some y =>
    rw [hy] at hx
    simp only [Option.map_some, Option.some.injEq] at hx
    subst hx
    refine ⟨ph.F i, E.mono (Mem.le_add _ _) (hF i y hy), fun j v hv => ?_⟩
    have hi : i < ph.N := by have := (List.getElem?_eq_some_iff.1 hy).1; omega
    have hg := allOf_get (F := ph.F) (N := ph.N) (sz := E.sz) (fun k hk => by
      obtain ⟨y', hy'⟩ := getX (l := l) (k := k) (by omega)
      exact E.len (hF k y' hy')) hi hv
    simp only [Nat.zero_add]
    cases hgo : G ph.ob (i * E.sz + j) with
    | some u => exact absurd hgo (hn _ _)
    | none =>
      unfold Mem.add
      rw [hgo]
      simp only [obSeg, List.findSome?_cons]
      rw [if_pos ⟨trivial, Nat.zero_le _⟩]
      simp only [Nat.sub_zero, Array.getElem?_toList, hg]

/-- What a starter's child is given to see. -/
theorem lend_run {P : Program} {A : Acs} {Z : Goroutine → World → Prop} {g : Goroutine} {G2 G0 G : Mem} {w0 w w2 : World} {L : List (List Seg)} (h : ∀ {w' : World}, w'.output = gho 0 0 0 → (∀ b o v, G2 b o = some v → w'.cell? ⟨b, o, none⟩ = some v) → Run1 P false w'.heap.size A Z g w')
    (hlt : ∀ b o v, G2 b o = some v → w2.cell? ⟨b, o, none⟩ = some v) (hS : St w0 G0 w G L) (hle : Mem.le G2 G) : Run1 P false w.heap.size A Z g (w.lend w2.heap.size) := by
  have hsz : (w.lend w2.heap.size).heap.size = w.heap.size := by unfold World.lend; simp
  have := h (w' := w.lend w2.heap.size) rfl (fun b o v hv => by
    have hb := lt_of_cell (hlt _ _ _ hv)
    have hc := hS.mem _ _ _ (hle _ _ _ hv)
    rw [cell_eq (w := w)]
    · exact hc
    · unfold World.lend
      simp only [Array.getElem?_mapIdx]
      cases hh : w.heap[b]? with
      | none => rfl
      | some x => simp [hb])
  rw [hsz] at this
  exact this
end Go.Tx
