/- More rules: calls that may go through pools; a pool; a loop of acts; the join; a worker's receive and store. -/
import Derived.Test.YtngoijkcbmchdaaGreatDoorWr
import Derived.Test.YtngoijkcbmchdaaGreatDoorWd
set_option linter.unusedVariables false
set_option linter.unusedSimpArgs false
namespace Go.Tx
open Go.Conc Go.ConcN Go.RowKit
open Go.ConcR (KK wgBlock WgAt stA smA)

/-! ### Calls that may go through pools -/
def ConA (P : Program) (B0 : Nat) (f : FuncId) (args : Array Value) (G : Mem) (Post : Value → Mem → Prop) : Prop :=
  ∀ w, B0 ≤ w.heap.size → St w G w G [] → CallsS P w.heap.size (OAc P B0) f args w fun e w' => ∃ v G' u, e = .returned v ∧ St { w with output := u } G w' G' [] ∧ Post v G'
def BPA (w0 : World) (G0 : Mem) (Post : Value → Mem → Prop) : Ending → World → Prop := fun e w' => ∃ v G' u, e = .returned v ∧ St { w0 with output := u } G0 w' G' [] ∧ Post v G'
theorem conA_of {P : Program} {B0 : Nat} {f : FuncId} {args : Array Value} {G : Mem} {Post : Value → Mem → Prop} {fn : Func} {c : Code}
    (hf : P.funcs[f]? = some fn) (n : Nat) (fr : List (Nat × Value)) (hb : fn.body = some c)
    (h : ∀ w0, B0 ≤ w0.heap.size → TC ⟨P, n, [], w0, G, OAc P B0⟩ c (bodyPostS P fn (BPA w0 G Post)) fr G [])
    (hn : fn.ntmps = n := by rfl) (ha : Nat.ble args.size n = true := by rfl)
    (hfr : (fr.map fun p => args[p.1]?) = fr.map fun p => some p.2 := by as_aux_lemma => kernel_rfl) : ConA P B0 f args G Post := fun w hB hw =>
  callsS_of_wp hf hb (h w hB _ w (by rw [hn]; exact fr_enter fr hfr (Nat.le_of_ble_eq_true ha)) hw)
theorem bpA {w0 : World} {G0 G : Mem} {L : List (List Seg)} {u : Array (Nat × ByteArray)} {Post : Value → Mem → Prop} {v : Value} (hp : Post v G) : ∀ w, St { w0 with output := u } G0 w G L → BPA w0 G0 Post (.returned v) w :=
  fun w hw => ⟨v, G, u, rfl, hw.drop, hp⟩
theorem bpA0 {w0 : World} {G0 G : Mem} {L : List (List Seg)} {Post : Value → Mem → Prop} {v : Value} (hp : Post v G) : ∀ w, St w0 G0 w G L → BPA w0 G0 Post (.returned v) w :=
  fun w hw => ⟨v, G, w0.output, rfl, hw.drop, hp⟩

section
variable {C : Cx} {Q : Exit → Act → World → Prop} {fr : List (Nat × Value)} {G : Mem} {L : List (List Seg)} {ops : Array Oper} {rest : List Oper} {o : Oper}

theorem runL_callA {B0 : Nat} (d : Nat) {f : FuncId} {args : Array Value} {Post : Value → Mem → Prop} (hA : C.A = OAc C.P B0) (hB : B0 ≤ C.w0.heap.size) (hc : ConA C.P B0 f args G Post)
    (h : ∀ v G' u, Mem.le G G' → Post v G' → RunL (C.out u) ops Q rest ((d, v) :: fr) G' L)
    (hw : wantedF ops fr o = some true := by rfl) (hd : o.dst = some d := by rfl) (hn : Nat.blt d C.n = true := by rfl) (hsel : isSel o.op = false := by rfl)
    (hcov : o.op.operands.toList.all (cov fr) = true := by as_aux_lemma => kernel_rfl) (hrun : ∀ w, (execOp (evo fr) o).run C.P w = .ok (.enter f args) w := by intro _; as_aux_lemma => kernel_rfl) (hsy : ∀ f g, synB C.P f g (execOp (evo fr) o) 0 = true := by intro _ _; as_aux_lemma => kernel_rfl) :
    RunL C ops Q (o :: rest) fr G L := by
  intro a w ha hwS
  have hE := evalE ha hsel hcov
  unfold wpListS
  rw [if_pos (wantedF_eq ha hw)]
  refine .inl fun w1 hp1 _ => ?_
  replace hwS := hwS.push hp1
  have hcc := (hc w1 (Nat.le_trans hB hwS.below.size) (St.start hwS.mem)).lower hwS.below.size
  rw [← hA] at hcc
  refine .inr (.inr ⟨f, args, w1, OpR.of (by rw [hE]; exact hrun w1) (by rw [hE]; exact syn_of_B _ 0 hsy), hcc.mono ?_⟩)
  rintro e w' ⟨v, G', u, rfl, hS, hp⟩
  refine ⟨v, rfl, ?_⟩
  rw [hd]
  exact h v G' u hS.grow hp _ _ (ha.put d v (Nat.le_of_ble_eq_true hn)) ((hwS.out u).call hS)

/-- The loop whose rounds turn what the goroutine knows. -/
def RndO (C : Cx) {σ : Type} (inv : σ → Prop) (O : σ → Array (Nat × ByteArray)) (F : σ → List (Nat × Value)) (Gs : σ → Mem) (Ls : σ → List (List Seg)) (μ : σ → Nat) (m : Nat) (Q : Exit → Act → World → Prop) : Exit → Act → World → Prop :=
  Exit.then (fun a w => ∃ s, inv s ∧ μ s < m ∧ Fr C.n C.D a (F s) ∧ St { C.w0 with output := O s } C.G0 w (Gs s) (Ls s)) Q
theorem tc_loopO {c : Code} {σ : Type} (inv : σ → Prop) (O : σ → Array (Nat × ByteArray)) (F : σ → List (Nat × Value)) (Gs : σ → Mem) (Ls : σ → List (List Seg)) (μ : σ → Nat) (s0 : σ) (h0 : inv s0) (hO : O s0 = C.w0.output)
    (round : ∀ s, inv s → TC (C.out (O s)) c (RndO C inv O F Gs Ls μ (μ s) Q) (F s) (Gs s) (Ls s))
    (hfr : ((F s0).map fun p => look fr p.1) = (F s0).map fun p => some p.2 := by as_aux_lemma => kernel_rfl) (hG : Gs s0 = G := by rfl) (hL : Ls s0 = L := by rfl) : TC C (.loop c) Q fr G L := by
  intro a w ha hw
  refine wpV_loop_rel (fun s a w => inv s ∧ Fr C.n C.D a (F s) ∧ St { C.w0 with output := O s } C.G0 w (Gs s) (Ls s)) μ s0 ⟨h0, ha.sub (sub_of_map hfr), by rw [hG, hL, hO]; exact hw⟩ ?_
  intro s a w ⟨h1, h2, h3⟩
  refine wpV_mono (round s h1 a w h2 h3) (fun e a' w' hq => ?_)
  cases e with
  | normal => obtain ⟨s', p1, p2, p3, p4⟩ := hq; exact ⟨s', ⟨p1, p3, p4⟩, p2⟩
  | _ => exact hq
theorem tq_rndO {C' : Cx} {σ : Type} {inv : σ → Prop} {O : σ → Array (Nat × ByteArray)} {F : σ → List (Nat × Value)} {Gs : σ → Mem} {Ls : σ → List (List Seg)} {μ : σ → Nat} {m : Nat} (s : σ) (h0 : inv s) (hm : μ s < m) (hC : C' = C.out (O s) := by rfl)
    (hfr : ((F s).map fun p => look fr p.1) = (F s).map fun p => some p.2 := by as_aux_lemma => kernel_rfl) (hG : Gs s = G := by rfl) (hL : Ls s = L := by rfl) :
    TQ C' (RndO C inv O F Gs Ls μ m Q) .normal fr G L := fun a w ha hw => by
  subst hC
  exact ⟨s, h0, hm, ha.sub (sub_of_map hfr), by rw [hG, hL]; exact hw⟩
theorem tq_rndO_ret {C' : Cx} {σ : Type} {inv : σ → Prop} {O : σ → Array (Nat × ByteArray)} {F : σ → List (Nat × Value)} {Gs : σ → Mem} {Ls : σ → List (List Seg)} {μ : σ → Nat} {m : Nat} 
    (h : TQ C' Q .ret fr G L) : TQ C' (RndO C inv O F Gs Ls μ m Q) .ret fr G L := fun a w ha hw => h a w ha hw
theorem tq_rndO_exit {C' : Cx} {σ : Type} {inv : σ → Prop} {O : σ → Array (Nat × ByteArray)} {F : σ → List (Nat × Value)} {Gs : σ → Mem} {Ls : σ → List (List Seg)} {μ : σ → Nat} {m : Nat} {id : Nat}
    (h : TQ C' Q (.exit id) fr G L) : TQ C' (RndO C inv O F Gs Ls μ m Q) (.exit id) fr G L := fun a w ha hw => h a w ha hw
theorem tq_and {e : Exit} {u : Array (Nat × ByteArray)} (ho : C.w0.output = u) (h : TQ C Q e fr G L) : TQ C (fun e a w => w.output = u ∧ Q e a w) e fr G L := fun a w ha hw => ⟨hw.outw.trans ho, h a w ha hw⟩
end

/-! ### Blocks -/
theorem seg_block {w0 w : World} {G0 G : Mem} {L : List (List Seg)} (h : St w0 G0 w G L) {e : TypeId} {b : Nat} {cs : List Value} (hm : SgT e b 0 cs ∈ L.flatten) : w.heap[b]? = some (.cells cs.toArray e) := by
  obtain ⟨_, h2, _, h4⟩ := h.own _ hm
  obtain ⟨_, hs⟩ := h4 e rfl
  obtain ⟨c, hc, hsz⟩ := shape_iff.1 hs
  simp only at hc hsz h2
  have e1 : c = cs.toArray := by
    apply Array.ext'
    apply List.ext_getElem?
    intro i
    simp only
    cases hi : cs[i]? with
    | none => exact List.getElem?_eq_none_iff.2 (by have := List.getElem?_eq_none_iff.1 hi; simp; omega)
    | some v =>
      have := (h2 i v hi).1
      unfold World.cell? at this
      simp only [hc, Nat.zero_add] at this
      rw [Array.getElem?_toList]
      exact this
  rw [hc, e1]
theorem seg_none {w0 w : World} {G0 G : Mem} {L : List (List Seg)} (h : St w0 G0 w G L) {e : TypeId} {b : Nat} {cs : List Value} (hm : SgT e b 0 cs ∈ L.flatten) {o : Nat} {v : Value} : G b o ≠ some v := by
  intro hg
  have hc := h.mem b o v hg
  unfold World.cell? at hc
  rw [seg_block h hm] at hc
  simp only [List.getElem?_toArray] at hc
  have := ((h.own _ hm).2.1 o v hc).2.2
  simp only [Nat.zero_add] at this
  rw [hg] at this; cases this
theorem cell_eq {w w' : World} {b : Nat} (h : w'.heap[b]? = w.heap[b]?) (o : Nat) : w'.cell? ⟨b, o, none⟩ = w.cell? ⟨b, o, none⟩ := by unfold World.cell?; rw [h]
theorem frozen_eq {w w' : World} {b : Nat} (h : w'.heap[b]? = w.heap[b]?) (o : Nat) : w'.frozen? ⟨b, o, none⟩ = w.frozen? ⟨b, o, none⟩ := by unfold World.frozen?; rw [h]
theorem shp_eq {w w' : World} {b : Nat} (h : w'.heap[b]? = w.heap[b]?) : shp w' b = shp w b := by unfold shp; rw [h]

/-- The results' cells, once they are the starter's own. -/
def obSeg (ph : Ph) : List Seg := [SgT ph.ety ph.ob 0 (allOf ph.F ph.N).toList]
theorem add_ob {G : Mem} {ph : Ph} {b o : Nat} {v : Value} (h : (G.add (obSeg ph)) b o = some v) : G b o = some v ∨ b = ph.ob ∧ (allOf ph.F ph.N)[o]? = some v := by
  unfold Mem.add at h
  split at h
  · rename_i e; cases h; exact .inl e
  · obtain ⟨s, hs, h1, h2, h3⟩ := findSeg_has h
    simp only [obSeg, List.mem_singleton] at hs
    subst hs
    simp only at h1 h2 h3
    exact .inr ⟨h1.symm, by rw [← Array.getElem?_toList]; simpa using h3⟩

theorem St.join {w0 w : World} {G0 G : Mem} {L : List (List Seg)} {ph : Ph} (h : St w0 G0 w G L) (hob : w0.heap[ph.ob]? = some poison) : St (joinV ph w0) (G0.add (obSeg ph)) (joinV ph w) (G.add (obSeg ph)) L := by
  have hlt0 : ph.ob < w0.heap.size := (Array.getElem?_eq_some_iff.1 hob).1
  have hlt : ph.ob < w.heap.size := Nat.lt_of_lt_of_le hlt0 h.below.size
  have hpw : w.heap[ph.ob]? = some poison := (h.below.block _ hlt0).trans hob
  have hne : ∀ b, b ≠ ph.ob → (joinV ph w).heap[b]? = w.heap[b]? := fun b hb => by unfold joinV; simp only; rw [Array.getElem?_setIfInBounds_ne (Ne.symm hb)]
  have hne0 : ∀ b, b ≠ ph.ob → (joinV ph w0).heap[b]? = w0.heap[b]? := fun b hb => by unfold joinV; simp only; rw [Array.getElem?_setIfInBounds_ne (Ne.symm hb)]
  have hob' : (joinV ph w).heap[ph.ob]? = some (.cells (allOf ph.F ph.N) ph.ety) := by unfold joinV; simp only; rw [Array.getElem?_setIfInBounds_self_of_lt hlt]
  have hob0' : (joinV ph w0).heap[ph.ob]? = some (.cells (allOf ph.F ph.N) ph.ety) := by unfold joinV; simp only; rw [Array.getElem?_setIfInBounds_self_of_lt hlt0]
  have hGn : ∀ o, G ph.ob o = none := fun o => by
    cases hg : G ph.ob o with
    | none => rfl
    | some v =>
      have := h.mem _ _ _ hg
      unfold World.cell? at this
      rw [hpw] at this
      simp [poison] at this
  have hs0 : (joinV ph w0).heap.size = w0.heap.size := by unfold joinV; simp
  refine ⟨⟨h.below.os, h.below.tape, rfl, by unfold joinV; simp; exact h.below.size, fun b hb => ?_⟩, fun b o v hv => ?_, fun b o v hv => ?_, fun b o v hv => ?_, fun s hs => ?_, h.apart⟩
  · rw [hs0] at hb
    by_cases e : b = ph.ob
    · subst e; rw [hob', hob0']
    · rw [hne b e, hne0 b e]; exact h.below.block b hb
  · rcases add_ob hv with hg | ⟨rfl, hc⟩
    · have hb : b ≠ ph.ob := fun e => by subst e; rw [hGn] at hg; cases hg
      rw [cell_eq (hne b hb)]; exact h.mem _ _ _ hg
    · unfold World.cell?; rw [hob']; simpa using hc
  · rcases add_ob hv with hg | ⟨rfl, hc⟩
    · exact Mem.le_add _ _ _ _ _ (h.grow _ _ _ hg)
    · have h1 := hGn o
      have h2 : G0 ph.ob o = none := by
        cases hg : G0 ph.ob o with
        | none => rfl
        | some u => rw [h.grow _ _ _ hg] at h1; cases h1
      unfold Mem.add at hv ⊢
      rw [h2] at hv; rw [h1]; exact hv
  · rcases add_ob hv with hg | ⟨rfl, hc⟩
    · have hb : b ≠ ph.ob := fun e => by subst e; rw [hGn] at hg; cases hg
      rcases h.fresh _ _ _ hg with q | ⟨q1, q2⟩
      · exact .inl (Mem.le_add _ _ _ _ _ q)
      · exact .inr ⟨by rw [hs0]; exact q1, by rw [frozen_eq (hne b hb)]; exact q2⟩
    · refine .inl ?_
      have h2 : G0 ph.ob o = none := by
        cases hg : G0 ph.ob o with
        | none => rfl
        | some u => have := hGn o; rw [h.grow _ _ _ hg] at this; cases this
      unfold Mem.add at hv ⊢
      rw [hGn o] at hv; rw [h2]; exact hv
  · obtain ⟨q1, q2, q3, q4⟩ := h.own s hs
    have hb : s.b ≠ ph.ob := by omega
    refine ⟨by rw [hs0]; exact q1, fun i v hv => ?_, fun x hx => ?_, fun e he => ?_⟩
    · obtain ⟨r1, r2, r3⟩ := q2 i v hv
      refine ⟨by rw [cell_eq (hne _ hb)]; exact r1, by rw [frozen_eq (hne _ hb)]; exact r2, ?_⟩
      cases hg : (G.add (obSeg ph)) s.b (s.off + i) with
      | none => rfl
      | some u =>
        rcases add_ob hg with q | ⟨e, _⟩
        · rw [r3] at q; cases q
        · exact (hb e).elim
    · obtain ⟨r1, r2, r3⟩ := q3 x hx
      exact ⟨r1, by rw [hne _ hb]; exact r2, r3⟩
    · obtain ⟨r1, r2⟩ := q4 e he
      exact ⟨r1, by rw [shp_eq (hne _ hb)]; exact r2⟩

/-- Out of a pool: what it leaves, as seen from where the call began. -/
theorem St.outpool {w0 w1 w' : World} {G0 G2 G' : Mem} {L L' : List (List Seg)} {ph : Ph} {u : Array (Nat × ByteArray)} (h : St w0 G0 w1 G2 L) (hW : w0.heap.size ≤ ph.Wg) (ho : w0.heap.size ≤ ph.ob) (hlt : ph.ob < w1.heap.size)
    (hn : ∀ b o v, G2 b o = some v → b ≠ ph.Wg ∧ b ≠ ph.ob)
    (k : St (joinV ph { w1 with heap := (w1.heap.setIfInBounds ph.Wg poison).setIfInBounds ph.ob poison, output := u }) (G2.add (obSeg ph)) w' G' L') : St { w0 with output := gho 17 0 0 } G0 w' G' [] := by
  have hsz : (joinV ph { w1 with heap := (w1.heap.setIfInBounds ph.Wg poison).setIfInBounds ph.ob poison, output := u }).heap.size = w1.heap.size := by unfold joinV; simp
  have hb : ∀ b, b < w1.heap.size → b ≠ ph.Wg → b ≠ ph.ob → w'.heap[b]? = w1.heap[b]? := fun b h1 h2 h3 => by
    rw [k.below.block b (by rw [hsz]; exact h1)]
    unfold joinV
    simp only
    rw [Array.getElem?_setIfInBounds_ne (Ne.symm h3), Array.getElem?_setIfInBounds_ne (Ne.symm h3), Array.getElem?_setIfInBounds_ne (Ne.symm h2)]
  have hob : w'.heap[ph.ob]? = some (.cells (allOf ph.F ph.N) ph.ety) := by
    rw [k.below.block _ (by rw [hsz]; exact hlt)]
    unfold joinV
    simp only
    rw [Array.getElem?_setIfInBounds_self_of_lt (by simpa using hlt)]
  refine ⟨⟨k.below.os.trans h.below.os, k.below.tape.trans h.below.tape, k.below.output, Nat.le_trans h.below.size (by rw [← hsz]; exact k.below.size), fun b hlb => ?_⟩, k.mem, ?_, fun b o v hv => ?_, by simp, by simp⟩
  · simp only at hlb ⊢
    rw [hb b (Nat.lt_of_lt_of_le hlb h.below.size) (by omega) (by omega)]
    exact h.below.block b hlb
  · exact Mem.le_trans h.grow (Mem.le_trans (Mem.le_add _ _) k.grow)
  · rcases k.fresh b o v hv with q | ⟨q1, q2⟩
    · rcases add_ob q with q | ⟨rfl, _⟩
      · obtain ⟨n1, n2⟩ := hn _ _ _ q
        rcases h.fresh _ _ _ q with r | ⟨r1, r2⟩
        · exact .inl r
        · exact .inr ⟨r1, by rw [frozen_eq (hb b (lt_of_cell (h.mem _ _ _ q)) n1 n2)]; exact r2⟩
      · exact .inr ⟨ho, by unfold World.frozen?; rw [hob]; simp⟩
    · exact .inr ⟨Nat.le_trans h.below.size (by rw [← hsz]; exact q1), q2⟩
end Go.Tx
/- A whole pool as one act; the join; makeSlice of a typed row; a worker's receive and store. -/
namespace Go.Tx
open Go.Conc Go.ConcN Go.RowKit Go.Conc.Lib
open Go.ConcR (KK wgBlock WgAt stA smA)

/-- The view in a pool. -/
def poolV (ph : Ph) (w : World) : World := { w with heap := (w.heap.setIfInBounds ph.Wg poison).setIfInBounds ph.ob poison, output := gho 0 0 0 }
/-- What stands in a pool: what was owned ahead of it, but the group and the results. -/
def poolG (ph : Ph) (G : Mem) (k1 k2 : List Seg) : Mem := ((G.add k1).add k2).add [SgT ph.cty ph.C 0 [ph.cv]]

structure PoolIn (C : Cx) (ph : Ph) (G : Mem) (k1 k2 : List Seg) (G2 : Mem) (w2 : World) : Prop where
  out : w2.output = gho 0 0 0
  ob : w2.heap[ph.ob]? = some poison
  le : C.w0.heap.size ≤ w2.heap.size
  mle : Mem.le G G2
  g2 : ∀ b o v, G2 b o = some v → w2.cell? ⟨b, o, none⟩ = some v
  obn : ∀ o v, G2 ph.ob o ≠ some v
  ne : ph.Wg ≠ ph.ob ∧ ph.C ≠ ph.Wg ∧ ph.C ≠ ph.ob
  has : ∀ s ∈ k1 ++ (k2 ++ [SgT ph.cty ph.C 0 [ph.cv]]), ∀ (j : Nat) v, s.cs[j]? = some v → G2 s.b (s.off + j) = some v
  back : ∀ (w' : World) (G' : Mem) (L' : List (List Seg)) (u : Array (Nat × ByteArray)), St (joinV ph { w2 with output := u }) (G2.add (obSeg ph)) w' G' L' → St { C.w0 with output := gho 17 0 0 } C.G0 w' G' []

/-- What was owned stands in the memory, once it is frozen. -/
theorem frozen_has {w0 w : World} {G0 G : Mem} {L : List (List Seg)} {i : Nat} {c : List Seg} (h : St w0 G0 w G L) (hi : L[i]? = some c) {s : Seg} (hs : s ∈ c) {j : Nat} {v : Value} (hv : s.cs[j]? = some v) : (G.add c) s.b (s.off + j) = some v := by
  have hm : s ∈ L.flatten := List.mem_flatten.2 ⟨c, List.mem_of_getElem? hi, hs⟩
  obtain ⟨h1, _, h3⟩ := (h.own s hm).2.1 j v hv
  have hf := h.freeze hi
  cases hg : (G.add c) s.b (s.off + j) with
  | none =>
    exfalso
    unfold Mem.add at hg
    rw [h3] at hg
    simp only at hg
    rw [List.findSome?_eq_none_iff] at hg
    have := hg s hs
    rw [if_pos ⟨rfl, by omega⟩] at this
    rw [show s.off + j - s.off = j by omega, hv] at this
    cases this
  | some u =>
    have := hf.mem _ _ _ hg
    rw [h1] at this
    exact this.symm

theorem tc_pool {C : Cx} {Q : Exit → Act → World → Prop} {fr : List (Nat × Value)} {G : Mem} {c : Code} {B0 : Nat} {ph : Ph} {k1 k2 : List Seg} {cs : List Value}
    (hA : C.A = OAc C.P B0) (hB : B0 ≤ C.w0.heap.size) (ho : C.w0.output = gho 30 ph.ch 0) (hsz : cs.length = ph.N * ph.cpe) (hcp : 0 < ph.cpe) (hety : ph.ety ≠ 0)
    (hF : ∀ i, i < ph.N → (ph.F i).length = ph.cpe) (hn : 0 < ph.n) (hn' : ph.n < 2147483648)
    (hne1 : ph.tWg ≠ ph.ety) (hne2 : ph.cty ≠ ph.tWg) (hne3 : ph.cty ≠ ph.ety)
    (h : ∀ w2 G2, PoolIn C ph G k1 k2 G2 w2 → TC ⟨C.P, C.n, C.D, w2, G2, MAc C.P ph w2.heap.size⟩ c (fun e a w' => w'.output = gho 17 0 0 ∧ Q e a w') fr G2 []) :
    TC C c Q fr G [[SgT ph.tWg ph.Wg 0 [.int .u64 0, .int .u32 0]], k1, k2, [SgT ph.ety ph.ob 0 cs], [SgT ph.cty ph.C 0 [ph.cv]]] := by
  intro a w ha hS main Ac hle b k fs Z hk hc
  refine .act (K := fun _ g' w' => Run1 C.P main C.w0.heap.size Ac Z g' w') rfl (fun w1 p q => hle _ _ _ _ ?_) (fun w1 p q g' w' hK => hK)
  rw [hA]
  have hS1 := hS.push p
  have mW : SgT ph.tWg ph.Wg 0 [.int .u64 0, .int .u32 0] ∈ (List.flatten [[SgT ph.tWg ph.Wg 0 [.int .u64 0, .int .u32 0]], k1, k2, [SgT ph.ety ph.ob 0 cs], [SgT ph.cty ph.C 0 [ph.cv]]]) := by simp
  have mO : SgT ph.ety ph.ob 0 cs ∈ (List.flatten [[SgT ph.tWg ph.Wg 0 [.int .u64 0, .int .u32 0]], k1, k2, [SgT ph.ety ph.ob 0 cs], [SgT ph.cty ph.C 0 [ph.cv]]]) := by simp
  have mC : SgT ph.cty ph.C 0 [ph.cv] ∈ (List.flatten [[SgT ph.tWg ph.Wg 0 [.int .u64 0, .int .u32 0]], k1, k2, [SgT ph.ety ph.ob 0 cs], [SgT ph.cty ph.C 0 [ph.cv]]]) := by simp
  have bW := seg_block hS1 mW
  have bO := seg_block hS1 mO
  have bC := seg_block hS1 mC
  have lW := (hS1.own _ mW).1
  have lO := (hS1.own _ mO).1
  simp only at lW lO
  have ltO : ph.ob < w1.heap.size := (Array.getElem?_eq_some_iff.1 bO).1
  have ltW : ph.Wg < w1.heap.size := (Array.getElem?_eq_some_iff.1 bW).1
  have n1 : ph.Wg ≠ ph.ob := fun e => by rw [e, bO] at bW; simp only [Option.some.injEq, Obj.cells.injEq] at bW; exact hne1 bW.2.1.symm
  have n2 : ph.C ≠ ph.Wg := fun e => by rw [e, bW] at bC; simp only [Option.some.injEq, Obj.cells.injEq] at bC; exact hne2 bC.2.1.symm
  have n3 : ph.C ≠ ph.ob := fun e => by rw [e, bO] at bC; simp only [Option.some.injEq, Obj.cells.injEq] at bC; exact hne3 bC.2.1.symm
  -- what stands
  have f1 := hS1.freeze (i := 1) (c := k1) rfl
  have f2 := f1.freeze (i := 2) (c := k2) rfl
  have f3 := f2.freeze (i := 4) (c := [SgT ph.cty ph.C 0 [ph.cv]]) rfl
  have nn : ∀ b o v, poolG ph G k1 k2 b o = some v → b ≠ ph.Wg ∧ b ≠ ph.ob := fun b o v hv => by
    refine ⟨fun e => ?_, fun e => ?_⟩
    · subst e; exact seg_none f3 (e := ph.tWg) (b := ph.Wg) (cs := [.int .u64 0, .int .u32 0]) (by simp) hv
    · subst e; exact seg_none f3 (e := ph.ety) (b := ph.ob) (cs := cs) (by simp) hv
  have hs2 : (poolV ph w1).heap.size = w1.heap.size := by unfold poolV; simp
  have hin : PoolIn C ph G k1 k2 (poolG ph G k1 k2) (poolV ph w1) := by
    refine ⟨rfl, ?_, by rw [hs2]; exact hS1.below.size, Mem.le_trans (Mem.le_add _ _) (Mem.le_trans (Mem.le_add _ _) (Mem.le_add _ _)), fun b o v hv => ?_, fun o v hv => (nn _ _ _ hv).2 rfl, ⟨n1, n2, n3⟩, fun s hs j v hv => ?_, fun w' G' L' u hk' => ?_⟩
    · unfold poolV; simp only; rw [Array.getElem?_setIfInBounds_self_of_lt (by simpa using ltO)]
    · obtain ⟨n1, n2⟩ := nn b o v hv
      rw [cell_eq (w := w1) (by unfold poolV; simp only; rw [Array.getElem?_setIfInBounds_ne (Ne.symm n2), Array.getElem?_setIfInBounds_ne (Ne.symm n1)])]
      exact f3.mem _ _ _ hv
    · rcases List.mem_append.1 hs with q | q
      · exact Mem.le_add _ _ _ _ _ (Mem.le_add _ _ _ _ _ (frozen_has hS1 (i := 1) (c := k1) rfl q hv))
      rcases List.mem_append.1 q with q | q
      · exact Mem.le_add _ _ _ _ _ (frozen_has f1 (i := 2) (c := k2) rfl q hv)
      · exact frozen_has f2 (i := 4) (c := [SgT ph.cty ph.C 0 [ph.cv]]) rfl q hv
    · exact f3.outpool lW lO ltO nn (u := u) hk'
  have hrun := h _ _ hin a (poolV ph w1) ha (St.start hin.g2) main _ (Acs.le_refl _) b k fs (fun g' w' => w'.output = gho 17 0 0 ∧ Run1 C.P main C.w0.heap.size Ac Z g' w') hk (fun e a' w' ⟨q1, q2⟩ => by
    have hq := hc e a' w' q2
    cases e with
    | normal => exact .stop fun w3 p3 => ⟨p3.output.trans q1, Run1.push hq p3⟩
    | exit id => obtain ⟨k', hk', hg⟩ := hq; exact ⟨k', hk', .stop fun w3 p3 => ⟨p3.output.trans q1, Run1.push hg p3⟩⟩
    | ret => exact fun todo => .stop fun w3 p3 => ⟨p3.output.trans q1, Run1.push (hq todo) p3⟩
    | goto l => exact hq
    | panic ch => exact hq
    | outgrown => exact hq)
  simp only [hs2] at hrun
  refine .pool ph cs.toArray (hS1.outw.trans ho) bW (Nat.le_trans hB lW) bO (Nat.le_trans hB lO) (fun e => ?_) n1 (by simpa using hsz) hcp bC n2 n3 hF hn hn' hrun
  unfold Psn at e
  rw [bO] at e
  simp only [poison, Option.some.injEq, Obj.cells.injEq] at e
  exact hety e.2.1

theorem syn_makeS {P : Program} {Wr Rd : Nat → Prop} (t : TypeId) (l c : Value) : Syn P Wr Rd (Instr.makeSlice t l c) := by
  unfold Instr.makeSlice
  refine syn_bind (syn_underlying _) fun d => ?_
  repeat' first | exact syn_stuck _ | exact syn_asInt _ | exact syn_typeInfo _ | exact syn_runtimePanic _ | exact syn_choose _ | exact syn_askRoom _ | exact syn_sizeOf _ | exact syn_zeroValue _ | exact syn_newRow _ _ | exact syn_pure _ | refine syn_bind ?_ (fun _ => ?_) | split | dsimp only

section
variable {C : Cx} {Q : Exit → Act → World → Prop} {fr : List (Nat × Value)} {G : Mem} {L : List (List Seg)} {ops : Array Oper} {rest : List Oper} {o : Oper}

/-- Behind the join. -/
@[reducible] def Cx.join (C : Cx) (ph : Ph) : Cx := { C with w0 := joinV ph C.w0, G0 := C.G0.add (obSeg ph) }
theorem runL_wait {Lk : WgLink} {ph : Ph} {B' : Nat} (d : Nat) (hA : C.A = MAc C.P ph B') (H : WgLib C.P Lk) (hty : ph.tWg = Lk.tWg) (hn' : ph.n < 2147483648) (ho0 : C.w0.output = gho 10 0 0) (hps : C.w0.heap[ph.ob]? = some poison)
    (h : RunL (C.join ph) ops Q rest ((d, .tuple #[]) :: fr) (G.add (obSeg ph)) L)
    (hrun : ∀ w, (execOp (evo fr) o).run C.P w = .ok (.enter Lk.wait #[.pointer (some ⟨ph.Wg, 0, none⟩)]) w)
    (hw : wantedF ops fr o = some true := by rfl) (hd : o.dst = some d := by rfl) (hn : Nat.blt d C.n = true := by rfl) (hsel : isSel o.op = false := by rfl)
    (hcov : o.op.operands.toList.all (cov fr) = true := by as_aux_lemma => kernel_rfl) (hsy : ∀ f g, synB C.P f g (execOp (evo fr) o) 0 = true := by intro _ _; as_aux_lemma => kernel_rfl) :
    RunL C ops Q (o :: rest) fr G L := by
  intro a w ha hwS
  have hE := evalE ha hsel hcov
  unfold wpListS
  rw [if_pos (wantedF_eq ha hw)]
  refine .inl fun w1 hp1 _ => ?_
  replace hwS := hwS.push hp1
  have hcc := wait_calls (B := C.w0.heap.size) (B' := B') H hty hn' (w := w1) (hwS.outw.trans ho0)
  rw [← hA] at hcc
  refine .inr (.inr ⟨_, _, w1, OpR.of (by rw [hE]; exact hrun w1) (by rw [hE]; exact syn_of_B _ 0 hsy), hcc.mono ?_⟩)
  rintro e w' ⟨rfl, w2, hp, hp'⟩
  refine ⟨_, rfl, ?_⟩
  rw [hd]
  have hS := ((hwS.push hp).join hps).push hp'
  have := h _ _ (ha.put d _ (Nat.le_of_ble_eq_true hn)) hS
  have hsz : (joinV ph C.w0).heap.size = C.w0.heap.size := by unfold joinV; simp
  simp only [Cx.join, hsz] at this
  exact this

/-- A group's Add(1). -/
theorem runL_add {Lk : WgLink} {ph : Ph} {B' j : Nat} (d : Nat) (hA : C.A = MAc C.P ph B') (H : WgLib C.P Lk) (hty : ph.tWg = Lk.tWg) (hn' : ph.n < 2147483648) (hj : j < ph.n) (ho0 : C.w0.output = gho 0 j 0)
    (h : RunL (C.out (gho 3 j 0)) ops Q rest ((d, .tuple #[]) :: fr) G L)
    (hrun : ∀ w, (execOp (evo fr) o).run C.P w = .ok (.enter Lk.add #[.pointer (some ⟨ph.Wg, 0, none⟩), .int .i64 1]) w)
    (hw : wantedF ops fr o = some true := by rfl) (hd : o.dst = some d := by rfl) (hn : Nat.blt d C.n = true := by rfl) (hsel : isSel o.op = false := by rfl)
    (hcov : o.op.operands.toList.all (cov fr) = true := by as_aux_lemma => kernel_rfl) (hsy : ∀ f g, synB C.P f g (execOp (evo fr) o) 0 = true := by intro _ _; as_aux_lemma => kernel_rfl) :
    RunL C ops Q (o :: rest) fr G L :=
  runL_callG d (.tuple #[]) (gho 3 j 0) (fun w hw => by
    have := add_calls (B := C.w0.heap.size) (B' := B') H hty hn' hj (w := w) (hw.trans ho0)
    rw [← hA] at this
    exact this.mono fun e w' ⟨e1, w1, p, e2⟩ => ⟨e1, w1, p, e2⟩) h hw hd hn hsel hcov hrun hsy

/-- make([]T, n), its block's type known. -/
theorem runL_mkT (d t e n : Nat) {z : Value} {sz bytes : Nat} {lo co : Operand} (h63 : n ≤ 9223372036854775807) (hby : n * bytes ≤ 281474976710656)
    (hi : (C.P.info? e).map (fun i => (i.zero, i.size, i.bytes)) = some (some z, sz, bytes))
    (h : ∀ b, RunL C ops Q rest ((d, Sl (At b 0) n n) :: fr) G ([SgT e b 0 (madeCells z.cells (n * sz)).toList] :: L))
    (hb : base C.n ops fr o d = true := by as_aux_lemma => kernel_rfl)
    (hop : o.op = .makeSlice t lo co := by rfl) (ht : C.P.underlying t = some (.slice e) := by as_aux_lemma => kernel_rfl)
    (hlo : evo fr lo = I (n : Int) := by as_aux_lemma => kernel_rfl) (hco : evo fr co = I (n : Int) := by as_aux_lemma => kernel_rfl) : RunL C ops Q (o :: rest) fr G L := by
  have hx : ∀ w : World, (execOp (evo fr) o).run C.P w = .ok (.value (Sl (At w.heap.size 0) n n)) (w.alloc (.cells (madeCells z.cells (n * sz)) e)) := by
    intro w
    obtain ⟨inf, hinf, hz, hsz, hbs⟩ := info_parts hi
    have hbn : (inf.bytes : Int) * (n : Int) ≤ 281474976710656 := by
      have h2 : (inf.bytes : Int) * n = ((n * bytes : Nat) : Int) := by rw [Int.natCast_mul, Int.mul_comm, hbs]
      omega
    have hm := run_make (P := C.P) w t e inf z ht hinf hz .i64 .i64 n n (by omega) (Int.le_refl _) hbn (by omega)
    simp only [Int.toNat_natCast, hsz] at hm
    unfold execOp
    simp only [hop, hlo, hco, Sem.run_bind, hm, Result.andThen_ok, Sem.run_pure]
  refine runL_run d hb (fun w hw => ⟨_, _, G, _, hx w, hw.allocT _ e, h w.heap.size⟩) (fun w hw => synR fun _ _ => ?_)
  unfold execOp
  simp only [hop, hlo, hco]
  exact syn_bind (syn_makeS _ _ _) fun _ => trivial

/-- A worker's receive. -/
theorem runL_recv {ph : Ph} {b : Nat} (d : Nat) (hA : C.A = WAc C.P ph) (ho0 : C.w0.output = gho 0 b 0)
    (hj : ∀ i, b ≤ i → i < ph.N → RunL (C.out (gho 1 i 0)) ops Q rest ((d, .tuple #[ph.jv i, .bool true]) :: fr) G L)
    (hc : RunL (C.out (gho 2 0 0)) ops Q rest ((d, .tuple #[ph.z, .bool false]) :: fr) G L)
    (hrun : ∀ w, (execOp (evo fr) o).run C.P w = .ok (.comm #[rcase ph.ch ph.z] true (.recv true)) w)
    (hev : ∀ w, (execOp (evo fr) o).events C.P w #[] = #[] := by intro _; as_aux_lemma => kernel_rfl)
    (hw : wantedF ops fr o = some true := by rfl) (hd : o.dst = some d := by rfl) (hn : Nat.blt d C.n = true := by rfl) (hsel : isSel o.op = false := by rfl)
    (hcov : o.op.operands.toList.all (cov fr) = true := by as_aux_lemma => kernel_rfl) : RunL C ops Q (o :: rest) fr G L := by
  refine runL_act hw fun a w ha hS main Ac hle bb ops' i rst k cs Z hk ho hwt hnx => ?_
  have hE := evalE ha hsel hcov
  have e : ∀ v, Conc.served (core (Go.Conc.G (bb.at a (.inRegion ops' (i :: rst) :: k)) cs)) v = Go.Conc.G (bb.at (a.put o.dst v) (.inRegion ops' rst :: k)) cs := fun v => by
    have := Frame.finish_at bb a ops' i rst k v
    rw [ho] at this
    show ({ frame := (bb.at a (.inRegion ops' (i :: rst) :: k)).finish v, callers := cs, status := .running, dying := none, offers := none } : Goroutine) = _
    rw [this]; rfl
  refine .act (K := fun w1 g' w' => (∃ j, b ≤ j ∧ j < ph.N ∧ g' = Conc.served (core (Go.Conc.G (bb.at a (.inRegion ops' (i :: rst) :: k)) cs)) (.tuple #[ph.jv j, .bool true]) ∧ w' = w1.say 1 j 0) ∨
      (g' = Conc.served (core (Go.Conc.G (bb.at a (.inRegion ops' (i :: rst) :: k)) cs)) (.tuple #[ph.z, .bool false]) ∧ w' = w1.say 2 0 0)) rfl (fun w1 p q => hle _ _ _ _ ?_) fun w1 p q g' w' hK => ?_
  · rw [hA]
    refine .recv ((hS.push p).outw.trans ho0) (fun W hO => ?_) (fun j h1 h2 => .inl ⟨j, h1, h2, rfl, rfl⟩) (.inr ⟨rfl, rfl⟩)
    rw [stepG_comm ho hwt hk (by rw [hE]; exact hrun W), listed_none (by rw [hE]; exact hev W)]; rfl
  · rcases hK with ⟨j, h1, h2, rfl, rfl⟩ | ⟨rfl, rfl⟩
    · rw [e]
      refine hnx _ _ ?_
      rw [hd]
      exact hj j h1 h2 _ _ (ha.put d _ (Nat.le_of_ble_eq_true hn)) ((hS.push p).out _)
    · rw [e]
      refine hnx _ _ ?_
      rw [hd]
      exact hc _ _ (ha.put d _ (Nat.le_of_ble_eq_true hn)) ((hS.push p).out _)
end

/-- What a store of cells lists. -/
theorem events_putCells (P : Program) (b off : Nat) (vs : List Value) : ∀ (w : World) (i : Nat) (es : Array Event), (∀ u ∈ vs, u.oneCell' = true) →
    (∀ j, j < vs.length → ∃ u, w.cell? ⟨b, off + i + j, none⟩ = some u) → (∀ j, j < vs.length → w.frozen? ⟨b, off + i + j, none⟩ = false) →
    ∀ e ∈ ((storeCells ⟨b, off, none⟩ vs i).runT P w es).2, e ∈ es ∨ ∃ j, j < vs.length ∧ e = ⟨.cell ⟨b, off + i + j, none⟩, true, false⟩ := by
  induction vs with
  | nil => intro w i es _ _ _ e he; exact .inl he
  | cons v vs ih =>
    intro w i es h1 hex hfr e he
    have hadd : (⟨b, off, none⟩ : Addr).add i = ⟨b, off + i, none⟩ := by unfold Addr.add; split <;> simp_all
    obtain ⟨u, hu⟩ := hex 0 (by simp)
    have hf := hfr 0 (by simp)
    simp only [Nat.add_zero] at hu hf
    have hv := h1 v (by simp)
    have hs : ((storeCells ⟨b, off, none⟩ (v :: vs) i).runT P w es) = ((storeCells ⟨b, off, none⟩ vs (i + 1)).runT P (w.setCell ⟨b, off + i, none⟩ v) (es.push ⟨.cell ⟨b, off + i, none⟩, true, false⟩)) := by
      show (Sem.bind (store ((⟨b, off, none⟩ : Addr).add i) v) fun _ => storeCells ⟨b, off, none⟩ vs (i + 1)).runT P w es = _
      rw [hadd]
      cases v <;> first | (simp [Value.oneCell'] at hv; done) | (simp [-Sem.runT_eq, store, Sem.bind, Sem.runT, hu, hf]; rfl)
    rw [hs] at he
    have := ih (w.setCell ⟨b, off + i, none⟩ v) (i + 1) _ (fun u hu => h1 u (by simp [hu]))
      (fun j hj => by
        obtain ⟨u, hu⟩ := hex (j + 1) (by simp; omega)
        refine ⟨u, ?_⟩
        rw [World.cell?_setCell_other _ _ _ _ (by simp <;> omega)]
        rw [show off + (i + 1) + j = off + i + (j + 1) by omega]; exact hu)
      (fun j hj => by
        rw [World.frozen?_setCell]
        have := hfr (j + 1) (by simp; omega)
        rwa [show off + i + (j + 1) = off + (i + 1) + j by omega] at this) e he
    rcases this with q | ⟨j, hj, q⟩
    · rw [Array.mem_push] at q
      rcases q with q | q
      · exact .inl q
      · exact .inr ⟨0, by simp, by simpa using q⟩
    · exact .inr ⟨j + 1, by simp; omega, by rw [q, show off + (i + 1) + j = off + i + (j + 1) by omega]⟩

theorem putAt_cons (cs : Array Value) (o : Nat) (v : Value) (vs : List Value) : putAt cs o (v :: vs) = putAt (cs.setIfInBounds o v) (o + 1) vs := by
  unfold putAt
  simp only [List.zipIdx_cons, List.foldl_cons, Nat.add_zero, Nat.zero_add]
  rw [List.zipIdx_succ, List.foldl_map]
  congr 1
  funext cs p
  simp only
  congr 1
  omega
theorem putCells_block (b : Nat) (t : TypeId) (vs : List Value) : ∀ (W : World) (o : Nat) (cs : Array Value), W.heap[b]? = some (.cells cs t) → putCells W b o vs = { W with heap := W.heap.setIfInBounds b (.cells (putAt cs o vs) t) } := by
  induction vs with
  | nil =>
    intro W o cs h
    show W = _
    have : W.heap.setIfInBounds b (.cells (putAt cs o []) t) = W.heap := by
      apply Array.ext_getElem?
      intro i
      rw [Array.getElem?_setIfInBounds]
      split
      · rename_i e; subst e; split
        · exact h.symm
        · rename_i hh; exact absurd (Array.getElem?_eq_some_iff.1 h).1 hh
      · rfl
    rw [this]
  | cons v vs ih =>
    intro W o cs h
    have hlt := (Array.getElem?_eq_some_iff.1 h).1
    have e : W.setCell ⟨b, o, none⟩ v = { W with heap := W.heap.setIfInBounds b (.cells (cs.setIfInBounds o v) t) } := by
      unfold World.setCell
      congr 1
      apply Array.ext_getElem?
      intro i
      rw [Array.getElem?_modify, Array.getElem?_setIfInBounds]
      by_cases hi : b = i
      · subst hi; obtain ⟨_, hb⟩ := Array.getElem?_eq_some_iff.1 h; simp [hlt, hb]
      · simp [hi]
    rw [putCells, e, ih _ _ (cs.setIfInBounds o v) (by simp only; rw [Array.getElem?_setIfInBounds_self_of_lt hlt]), putAt_cons]
    simp [Array.setIfInBounds_setIfInBounds]

section
variable {C : Cx} {Q : Exit → Act → World → Prop} {fr : List (Nat × Value)} {G : Mem} {L : List (List Seg)} {ops : Array Oper} {rest : List Oper} {o : Oper}
/-- A worker's store of its job's result. -/
theorem runL_storeA {ph : Ph} {j : Nat} (v : Value) (hA : C.A = WAc C.P ph) (ho0 : C.w0.output = gho 1 j 0) (hj : j < ph.N) (hv : v.cells.toList = ph.F j) (hl : (ph.F j).length = ph.cpe) (h1 : v.cells.toList.all Value.oneCell' = true)
    (h : RunL (C.out (gho 0 (j + 1) 0)) ops Q rest fr G L) {t : TypeId} {x y : Operand} (ht : (C.P.info? t).isSome = true ∧ C.P.cellsOf t = ph.cpe)
    (hop : o.op = .store t x y := by rfl) (hx : evo fr x = Pt ph.ob (0 + j * ph.cpe) := by as_aux_lemma => kernel_rfl) (hy : evo fr y = v := by as_aux_lemma => kernel_rfl)
    (hw : wantedF ops fr o = some true := by rfl) (hd : o.dst = none := by rfl) (hcov : o.op.operands.toList.all (cov fr) = true := by as_aux_lemma => kernel_rfl) : RunL C ops Q (o :: rest) fr G L := by
  refine runL_act hw fun a w ha hS main Ac hle bb ops' i rst k cs Z hk ho hwt hnx => ?_
  have hE := evalE ha (by rw [hop]; rfl) hcov
  have hlen : v.cells.toList.length = C.P.cellsOf t := by rw [hv, hl, ht.2]
  refine .act (K := fun w1 g' w' => g' = Go.Conc.G (bb.at (a.put o.dst undef) (.inRegion ops' rst :: k)) cs ∧ w' = w1.say 0 (j + 1) 0) rfl (fun w1 p q => hle _ _ _ _ ?_) fun w1 p q g' w' hK => ?_
  · rw [hA]
    refine .store ((hS.push p).outw.trans ho0) fun W dcs hO hblk hdsz => ?_
    have hin : j * ph.cpe + ph.cpe ≤ dcs.size := by
      rw [hdsz, ← Nat.succ_mul]; exact Nat.mul_le_mul_right _ hj
    have hlp : v.cells.toList.length = ph.cpe := by rw [hv, hl]
    have hex : ∀ jj, jj < v.cells.toList.length → ∃ u, W.cell? ⟨ph.ob, 0 + j * ph.cpe + jj, none⟩ = some u := fun jj hjj => by
      unfold World.cell?
      rw [hblk]
      exact ⟨dcs[0 + j * ph.cpe + jj]'(by omega), by simp⟩
    have hfr : ∀ jj, jj < v.cells.toList.length → W.frozen? ⟨ph.ob, 0 + j * ph.cpe + jj, none⟩ = false := fun jj hjj => by
      unfold World.frozen?
      rw [hblk]; simp
    have hst := run_storeVar_seg (P := C.P) ht.1 hlen h1 hex hfr
    have hput := putCells_block ph.ob ph.ety v.cells.toList W (0 + j * ph.cpe) dcs hblk
    rw [hput] at hst
    have hrun : (execOp a.eval o).run C.P W = .ok .skip { W with heap := W.heap.setIfInBounds ph.ob (.cells (putAt dcs (0 + j * ph.cpe) v.cells.toList) ph.ety) } := by
      rw [hE]; unfold execOp; simp only [hop, Instr.storeAt, hx, hy]
      simp only [Instr.sureAddr, Sem.run_bind, Sem.run_pure, Result.andThen_ok, hst]
    refine ⟨_, listed C.P bb.fn a o W, ?_, fun e he => ?_, rfl, rfl⟩
    · rw [stepG_none ho hwt hk hrun, hv, Nat.zero_add]
    · have hm := mem_listed he
      rw [hE] at hm
      unfold execOp at hm
      simp only [hop, Instr.storeAt, hx, hy, Instr.sureAddr] at hm
      have hev := events_putCells C.P ph.ob (0 + j * ph.cpe) v.cells.toList W 0 #[] (List.all_eq_true.1 h1) (by simpa using hex) (by simpa using hfr)
      obtain ⟨inf, hinf⟩ := Option.isSome_iff_exists.1 ht.1
      have hE2 : (storeVar t ⟨ph.ob, 0 + j * ph.cpe, none⟩ v).events C.P W #[] = (storeCells ⟨ph.ob, 0 + j * ph.cpe, none⟩ v.cells.toList 0).events C.P W #[] := by
        unfold storeVar
        simp only [Sem.events_bind, events_sizeOf, run_sizeOf' W hinf, Result.evThen_ok]
        rw [if_neg (by simpa using hlen)]
      simp only [Sem.events_bind, Sem.run_bind, Sem.run_pure, Sem.events_pure, Result.evThen_ok, Result.andThen_ok, hst, hE2] at hm
      rcases hev e hm with q | ⟨jj, hjj, q⟩
      · simp at q
      · rw [q]
        unfold stEv
        simp only [List.mem_toArray, List.mem_map, List.mem_range]
        exact ⟨jj, by omega, by simp⟩
  · obtain ⟨rfl, rfl⟩ := hK
    refine hnx _ _ ?_
    rw [hd]
    exact h _ _ ha ((hS.push p).out _)
end
end Go.Tx
