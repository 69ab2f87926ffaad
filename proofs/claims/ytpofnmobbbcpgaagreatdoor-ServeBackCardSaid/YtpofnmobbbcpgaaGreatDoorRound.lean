/- Ranges over a function: the round's codes by the engine's triples, the statement itself by the kit's law, the return behind it. -/
import Derived.Test.YtpofnmobbbcpgaaGreatDoorRow
import Derived.RangeFuncNested
import Derived.RangeFuncCalls
import Derived.RangeFuncLeaves
import Derived.TacticsInMore
import Derived.LoopNIn
set_option linter.unusedVariables false
namespace Go.Tx
open Go.RowKit
/-! ### From the plain walk to the walk in a round -/
/-- The wide fence, in a round or in none. -/
abbrev FR (R : Option Nat) : Fence := { Fence.wide with round := R }
def isDef : Op → Bool
  | .defer _ => true
  | _ => false
theorem semAt_plain {R : Option Nat} {ρ : Operand → Value} {o : Oper} (h : isDef o.op = false) : Oper.semAt R ρ o = execOp ρ o := by
  cases R with
  | none => exact Oper.semAt_none ρ o
  | some l => exact Oper.semAt_some l ρ o (fun c e => by rw [e] at h; cases h)
theorem callsR {R : Option Nat} {n : Nat} {P : Program} {f : FuncId} {args : Array Value} {w : World} {T : Ending → World → Prop} : CallsIn (FR R) n P f args w T ↔ Calls P f args w T :=
  (callsIn_wide (n := n) : CallsIn Fence.wide n P f args w T ↔ _)
theorem rowsR {R : Option Nat} {n : Nat} {P : Program} {row : String} {args : Array Value} {w : World} {T : Value → World → Prop} (h : Rows P row args w T) : RowsIn (FR R) n P row args w T := fun c cs _ => by
  obtain ⟨v, w', r, s⟩ := h c cs
  exact ⟨v, w', r, (stepsIn_wide (P := P)).2 s⟩
theorem operIn_of {R : Option Nat} {n : Nat} {P : Program} {o : Oper} {a : Act} {w : World} {K K' : Act → World → Prop} {Q : Exit → Act → World → Prop} (hQ : ¬ LetsOut Q) (hd : isDef o.op = false) (hk : ∀ a w, K a w → K' a w) (h : o.wp P a w K Q) : o.wpIn (FR R) n P a w K' Q := by
  refine ⟨fun _ _ => trivial, ?_⟩
  show o.uponIn (FR R) n P a K' Q ((o.semAt R a.eval).run P w)
  rw [semAt_plain hd]
  unfold Oper.wp at h
  generalize (execOp a.eval o).run P w = r at h ⊢
  cases r with
  | ok x w' =>
    cases x <;> simp only [Oper.upon] at h <;> first
      | exact hk _ _ h
      | exact h.elim
      | (refine ⟨fun hc => by simp [Fence.wide] at hc, callsR.2 (Calls.mono h fun e w'' he => ?_)⟩; cases e <;> first | exact hk _ _ he | exact he)
      | exact ⟨fun hc => by simp [Fence.wide] at hc, rowsR (Rows.mono h fun v w'' he => hk _ _ he)⟩
  | halt x w' => cases x <;> simp only [Oper.upon] at h <;> first | exact h | exact h.elim
theorem wpListIn_of {R : Option Nat} {n : Nat} {P : Program} {ops : Array Oper} {Q : Exit → Act → World → Prop} (hQ : ¬ LetsOut Q) : ∀ (l : List Oper) (a : Act) (w : World), (l.all fun o => !isDef o.op) = true → wpList P ops Q l a w → wpListIn (FR R) n P ops Q l a w
  | [], a, w, _, h => h
  | o :: l, a, w, hd, h => by
    simp only [List.all_cons, Bool.and_eq_true, Bool.not_eq_true'] at hd
    unfold wpList at h; unfold wpListIn
    split
    · rename_i hw
      rw [if_pos hw] at h
      rcases h with h | ⟨_, h⟩
      · exact operIn_of hQ hd.1 (fun a w h => wpListIn_of hQ l a w hd.2 h) h
      · exact absurd h hQ
    · rename_i hw
      rw [if_neg hw] at h
      exact ⟨fun _ _ => trivial, wpListIn_of hQ l _ w hd.2 h⟩
/-! ### Triples in a round -/
/-- The code in a round (or in none), by the fenced logic. -/
def TR (R : Option Nat) (n : Nat) (C : Cx) (c : Code) (Q : Exit → Act → World → Prop) (fr : List (Nat × Value)) (G : Mem) (L : List (List Seg)) : Prop :=
  ∀ a w, Fr C.n C.D a fr → St C.w0 C.G0 w G L → c.wpIn (FR R) n C.P Q a w
section
variable {R : Option Nat} {n : Nat} {C : Cx} {Q : Exit → Act → World → Prop} {fr : List (Nat × Value)} {G : Mem} {L : List (List Seg)}
theorem tr_region {id : Nat} {l : List Oper} (hQ : ¬ LetsOut Q) (h : RunL C l.toArray Q l fr G L) (hd : (l.all fun o => !isDef o.op) = true := by rfl) : TR R n C (.region id l.toArray false) Q fr G L :=
  fun a w ha hw => wpIn_region_lit (wpListIn_of hQ l a w hd (h a w ha hw))
theorem tr_seq {x y : Code} (h : TR R n C x (Exit.then (y.wpIn (FR R) n C.P Q) Q) fr G L) : TR R n C (.seq x y) Q fr G L := fun a w ha hw => wpIn_seq (h a w ha hw)
theorem tr_skip (h : TQ C Q .normal fr G L) : TR R n C .skip Q fr G L := fun a w ha hw => wpIn_skip (h a w ha hw)
theorem tr_ret (h : TQ C Q .ret fr G L) : TR R n C .ret Q fr G L := fun a w ha hw => wpIn_ret (h a w ha hw)
theorem tr_exit {id : Nat} (h : TQ C Q (.exit id) fr G L) : TR R n C (.exit id) Q fr G L := fun a w ha hw => wpIn_exit (h a w ha hw)
theorem tr_block {id : Nat} {c : Code} (h : TR R n C c (Exit.inBlock id Q) fr G L) : TR R n C (.block id c) Q fr G L := fun a w ha hw => wpIn_block (h a w ha hw)
theorem tr_cond {t : Nat} {b : Bool} {x y : Code} (hb : look fr t = some (Bo b)) (h1 : b = true → TR R n C x Q fr G L) (h2 : b = false → TR R n C y Q fr G L) : TR R n C (.cond (.tmp t) x y) Q fr G L :=
  fun a w ha hw => wpIn_cond_split (t := b) (by simp [Act.eval, ha.slot t _ hb]) (fun e => h1 e a w ha hw) (fun e => h2 e a w ha hw)
theorem tqr_then {x : Code} (h : TR R n C x Q fr G L) : TQ C (Exit.then (x.wpIn (FR R) n C.P Q) Q) .normal fr G L := fun a w ha hw => h a w ha hw
theorem tr_keep {c : Code} (fr' : List (Nat × Value)) (h : (fr'.map fun p => look fr p.1) = fr'.map fun p => some p.2) (k : TR R n C c Q fr' G L) : TR R n C c Q fr G L :=
  fun a w ha hw => k a w (ha.sub (sub_of_map h)) hw
end
theorem letsOut_then {K : Act → World → Prop} {Q : Exit → Act → World → Prop} (h : ¬ LetsOut Q) : ¬ LetsOut (Exit.then K Q) := h
theorem letsOut_block {id : Nat} {Q : Exit → Act → World → Prop} (h : ¬ LetsOut Q) : ¬ LetsOut (Exit.inBlock id Q) := h
theorem wp_to {n : Nat} {P : Program} {c : Code} {Q : Exit → Act → World → Prop} {a : Act} {w : World} (h : c.wpIn (FR none) n P Q a w) : c.wp P Q a w := wpIn_wide.1 h
theorem wp_in {n : Nat} {P : Program} {c : Code} {Q : Exit → Act → World → Prop} {a : Act} {w : World} (h : c.wp P Q a w) : c.wpIn (FR none) n P Q a w := wpIn_wide.2 h
/-! ### A store into a box that lay when the walk began -/
structure OldBox (w0 : World) (G0 : Mem) (p : Nat) : Prop where
  lt : p < w0.heap.size
  cell : ∃ u, w0.cell? ⟨p, 0, none⟩ = some u
  fz : w0.frozen? ⟨p, 0, none⟩ = false
  out : G0 p 0 = none
theorem OldBox.set {w0 : World} {G0 : Mem} {p : Nat} (h : OldBox w0 G0 p) (q : Nat) (v : Value) : OldBox (w0.setCell ⟨q, 0, none⟩ v) G0 p := by
  obtain ⟨h1, ⟨u, h2⟩, h3, h4⟩ := h
  exact ⟨by rw [World.size_setCell]; exact h1, cell?_setCell_some h2, by rw [World.frozen?_setCell]; exact h3, h4⟩
theorem St.stOld {w0 w : World} {G0 G : Mem} {L : List (List Seg)} (h : St w0 G0 w G L) {p : Nat} (hp : OldBox w0 G0 p) (v : Value) : St (w0.setCell ⟨p, 0, none⟩ v) G0 (w.setCell ⟨p, 0, none⟩ v) G L := by
  have hG : G p 0 = none := by
    cases hg : G p 0 with
    | none => rfl
    | some u =>
      rcases h.fresh p 0 u hg with h1 | h1
      · rw [hp.out] at h1; cases h1
      · have := hp.lt; have := h1.1; omega
  refine ⟨⟨h.below.os, h.below.tape, h.below.output, by rw [World.size_setCell, World.size_setCell]; exact h.below.size, fun k hk => ?_⟩, fun b o u hu => ?_, h.grow, fun b o u hu => by rw [World.size_setCell, World.frozen?_setCell]; exact h.fresh b o u hu, fun s hs => ?_, h.apart⟩
  · rw [World.size_setCell] at hk
    unfold World.setCell
    simp only [Array.getElem?_modify]
    rw [h.below.block k hk]
  · rw [World.cell?_setCell_other]
    · exact h.mem b o u hu
    · intro e; cases e; rw [hG] at hu; contradiction
  · obtain ⟨o1, o2, o3, o4⟩ := h.own s hs
    have hne : s.b ≠ p := by have := hp.lt; omega
    refine ⟨by rw [World.size_setCell]; exact o1, fun i x hx => ?_, fun x hx => ?_, fun e he => ⟨(o4 e he).1, shape_setCell (o4 e he).2⟩⟩
    · obtain ⟨q1, q2, q3⟩ := o2 i x hx
      refine ⟨?_, by rw [World.frozen?_setCell]; exact q2, q3⟩
      rw [World.cell?_setCell_other]
      · exact q1
      · intro e; exact hne (congrArg Addr.block e).symm
    · obtain ⟨q1, q2, q3⟩ := o3 x hx
      exact ⟨q1, (Below.heap_setCell _ _ _ _ hne).trans q2, q3⟩
theorem runL_stOld {C : Cx} {Q : Exit → Act → World → Prop} {fr : List (Nat × Value)} {G : Mem} {L : List (List Seg)} {ops : Array Oper} {rest : List Oper} {o : Oper} (p : Nat) (v : Value) (hp : OldBox C.w0 C.G0 p)
    (h : RunL ⟨C.P, C.n, C.D, C.w0.setCell ⟨p, 0, none⟩ v, C.G0⟩ ops Q rest fr G L)
    (hc : (chkSt C.P ops fr o 1, v.cells.toList, v.oneCell') = (some (Pt p 0, v), [v], true) := by as_aux_lemma => kernel_rfl) : RunL C ops Q (o :: rest) fr G L := by
  intro a w ha hw
  simp only [Prod.mk.injEq] at hc
  obtain ⟨hc, hvs, hone⟩ := hc
  unfold chkSt at hc
  split at hc
  case h_2 => cases hc
  rename_i t x y hop
  cases hx : (o.dst.isNone && wantB true (wantedF ops fr o) && cov fr x && cov fr y && (C.P.info? t).isSome && Nat.beq (C.P.cellsOf t) 1) with
  | false => rw [hx] at hc; cases hc
  | true =>
    rw [hx] at hc
    simp only [cond_true, Option.some.injEq, Prod.mk.injEq] at hc
    simp only [Bool.and_eq_true, Option.isNone_iff_eq_none] at hx
    obtain ⟨⟨⟨⟨⟨hd, hwt⟩, hcx⟩, hcy⟩, hinf⟩, hsz⟩ := hx
    have hsz' := Nat.eq_of_beq_eq_true hsz
    have hwant : wantedF ops fr o = some true := by
      cases hx : wantedF ops fr o with
      | none => rw [hx] at hwt; simp [wantB] at hwt
      | some b => rw [hx] at hwt; simp [wantB] at hwt; rw [← hwt]
    have hcell : ∃ u, w.cell? ⟨p, 0, none⟩ = some u := by
      obtain ⟨u, hu⟩ := hp.cell
      exact ⟨u, (hw.below.cell (p := ⟨p, 0, none⟩) hp.lt).trans hu⟩
    have hfz : w.frozen? ⟨p, 0, none⟩ = false := (hw.below.frozen (p := ⟨p, 0, none⟩) hp.lt).trans hp.fz
    have hl := run_storeVar_seg (P := C.P) (t := t) (w := w) (b := p) (off := 0) (v := v) hinf (by rw [hvs, hsz']; rfl) (by rw [hvs]; simpa using hone)
      (fun j hj => by rw [hvs] at hj; have : j = 0 := by simp at hj; exact hj
                      subst this; exact hcell)
      (fun j hj => by rw [hvs] at hj; have : j = 0 := by simp at hj; exact hj
                      subst this; exact hfz)
    rw [hvs] at hl
    have hE : a.eval x = .pointer (some ⟨p, 0, none⟩) := (ha.eval x hcx).trans hc.1
    have hE' : a.eval y = v := (ha.eval y hcy).trans hc.2
    unfold wpList
    rw [if_pos (wantedF_eq ha hwant)]
    refine .inl ?_
    unfold Oper.wp execOp
    simp only [hop, hE, hE', Instr.storeAt, Instr.sureAddr, Sem.run_bind, Sem.run_pure, Result.andThen_ok, hl]
    show wpList C.P ops Q rest (a.put o.dst undef) _
    rw [hd]
    exact h _ _ ha (hw.stOld hp v)
/-! ### The contract of a function that ranges over a function -/
abbrev BM (P : Program) (fn : Func) (T : Ending → World → Prop) : Exit → Act → World → Prop := bodyPostM (FR none) 3 P fn T
abbrev dfr (d : Nat) : List Deferred := [{ target := .collected d, args := #[] }]
theorem con_ofM {P : Program} {f : FuncId} {args : Array Value} {G : Mem} {L : List (List Seg)} {Post : Value → Mem → List (List Seg) → Prop} {fn : Func} {c : Code}
    (hf : P.funcs[f]? = some fn) (n : Nat) (fr : List (Nat × Value)) (hb : fn.body = some c)
    (h : ∀ w0 G0, TC ⟨P, n, [], w0, G0⟩ c (BM P fn (BP w0 G0 G Post)) fr G L)
    (hn : fn.ntmps = n := by rfl) (ha : Nat.ble args.size n = true := by rfl)
    (hfr : (fr.map fun p => args[p.1]?) = fr.map fun p => some p.2 := by as_aux_lemma => kernel_rfl) : Con P f args G L Post := fun w0 G0 w hw =>
  (callsR (R := none) (n := 3)).1 (callsIn_of_wp_marks (F := FR none) (n := 3) hf hb trivial (wp_in (h w0 G0 _ w (by rw [hn]; exact fr_enter fr hfr (Nat.le_of_ble_eq_true ha)) hw)) rfl)
section
variable {P : Program} {n : Nat} {w0 : World} {G0 : Mem} {fn : Func} {T : Ending → World → Prop} {fr : List (Nat × Value)} {G : Mem} {L : List (List Seg)}
theorem tqm_ret (is : List Nat) (vs : List Value) (hR : ∀ w, St w0 G0 w G L → T (.returned (packR vs)) w)
    (h : (fn.results.toList.length, fn.results.toList.length, (fn.results.toList.zip is).map (entR P fr L)) = (is.length, vs.length, ((fn.results.toList.zip is).zip vs).map (expR L)) := by as_aux_lemma => kernel_rfl) : TQ ⟨P, n, [], w0, G0⟩ (BM P fn T) .ret fr G L := fun a w ha hw => by
  show LeavesInM (FR none) 3 P fn a.tmps T a.defers .returning w
  rw [ha.defers]
  exact ⟨packR vs, run_results' ha hw fn is vs h, hR w hw⟩
theorem tqm_end (is : List Nat) (vs : List Value) (hR : ∀ w, St w0 G0 w G L → T (.returned (packR vs)) w)
    (h : (fn.results.toList.length, fn.results.toList.length, (fn.results.toList.zip is).map (entR P fr L)) = (is.length, vs.length, ((fn.results.toList.zip is).zip vs).map (expR L)) := by as_aux_lemma => kernel_rfl) : TQ ⟨P, n, [], w0, G0⟩ (BM P fn T) .normal fr G L := tqm_ret (n := n) is vs hR h
/-- The return behind a range over a function: the block of the deferred calls is taken. -/
theorem tqd_ret {d : Nat} (is : List Nat) (vs : List Value) (hR : ∀ w, St w0 G0 w G ([Ob d (.deferred none)] :: L) → T (.returned (packR vs)) w)
    (h : (fn.results.toList.length, fn.results.toList.length, (fn.results.toList.zip is).map (entR P fr ([Ob d (.deferred none)] :: L))) = (is.length, vs.length, ((fn.results.toList.zip is).zip vs).map (expR ([Ob d (.deferred none)] :: L))) := by as_aux_lemma => kernel_rfl) :
    TQ ⟨P, n, dfr d, w0, G0⟩ (BM P fn T) .ret fr G ([Ob d (.deferred (some []))] :: L) := fun a w ha hw => by
  show LeavesInM (FR none) 3 P fn a.tmps T a.defers .returning w
  rw [ha.defers]
  have hb : w.heap[d]? = some (.deferred (some [])) := ((hw.own (Ob d (.deferred (some []))) (by simp)).2.2.1 _ rfl).2.1
  have hw' := hw.setO (i := 0) (b := d) (x := .deferred (some [])) rfl (.deferred none) rfl
  refine ⟨by simp, .inl ⟨d, _, rfl, run_takeDeferred hb, ?_⟩⟩
  exact ⟨packR vs, run_results' ha hw' fn is vs h, hR _ hw'⟩
theorem tqd_end {d : Nat} (is : List Nat) (vs : List Value) (hR : ∀ w, St w0 G0 w G ([Ob d (.deferred none)] :: L) → T (.returned (packR vs)) w)
    (h : (fn.results.toList.length, fn.results.toList.length, (fn.results.toList.zip is).map (entR P fr ([Ob d (.deferred none)] :: L))) = (is.length, vs.length, ((fn.results.toList.zip is).zip vs).map (expR ([Ob d (.deferred none)] :: L))) := by as_aux_lemma => kernel_rfl) :
    TQ ⟨P, n, dfr d, w0, G0⟩ (BM P fn T) .normal fr G ([Ob d (.deferred (some []))] :: L) := tqd_ret (n := n) is vs hR h
end
/-! ### A range over a function whose rounds write nothing of the caller's but three boxes, on leaving -/
def boxes3 (b1 b2 b3 : Nat) (v1 v2 v3 : Value) : List (List Seg) := [[Sg b1 0 [v1]], [Sg b2 0 [v2]], [Sg b3 0 [v3]]]
def put3 (b1 b2 b3 : Nat) (v1 v2 v3 : Value) (W : World) : World := ((W.setCell ⟨b3, 0, none⟩ v3).setCell ⟨b2, 0, none⟩ v2).setCell ⟨b1, 0, none⟩ v1
/-- All cells of a world, the boxes left out. -/
def memOut (b1 b2 b3 : Nat) (W : World) : Mem := fun b o => if (b = b1 ∨ b = b2 ∨ b = b3) ∧ o = 0 then none else W.cell? ⟨b, o, none⟩
theorem st_grown {w0 W W' : World} {G0 G : Mem} {L : List (List Seg)} {B : Nat} {row : Option Nat} (h : St w0 G0 W G L) (hg : W.grownBy W' row) (hr : ∀ r, row = some r → B ≤ r ∧ ∃ o : Obj, W.heap[r]? = some o ∧ o.isCells = false) (hB : w0.heap.size ≤ B) (hob : ∀ s ∈ L.flatten, s.ob = none) : St w0 G0 W' G L := by
  have hr2 : ∀ r, row = some r → ∃ o : Obj, W.heap[r]? = some o ∧ o.isCells = false := fun r e => (hr r e).2
  refine ⟨h.below.trans ⟨hg.os, hg.tape, hg.output, hg.size, fun k hk => hg.block k (by have := h.below.size; omega) (fun e => by have := (hr k e.symm).1; omega)⟩, fun b o v hv => cell_kept (h.mem b o v hv) hg hr2, h.grow, fun b o v hv => (h.fresh b o v hv).imp_right fun q => ⟨q.1, (frozen_kept (h.mem b o v hv) hg hr2).trans q.2⟩, fun s hs => ?_, h.apart⟩
  obtain ⟨o1, o2, o3, o4⟩ := h.own s hs
  refine ⟨o1, fun i x hx => ?_, fun x hx => (by rw [hob s hs] at hx; cases hx), fun e he => ⟨(o4 e he).1, ?_⟩⟩
  · obtain ⟨q1, q2, q3⟩ := o2 i x hx
    exact ⟨cell_kept q1 hg hr2, (frozen_kept q1 hg hr2).trans q2, q3⟩
  · obtain ⟨c, hc, hs⟩ := shape_iff.1 (o4 e he).2
    refine shape_iff.2 ⟨c, ?_, hs⟩
    rw [grownBy_keeps_cells hg hr2 hc rfl]; exact hc
theorem st_low {w0 W' : World} {G Gm G' : Mem} {L' : List (List Seg)} (h : St w0 Gm W' G' L') (hle : Mem.le G Gm) : St w0 G W' G [] :=
  ⟨h.below, fun b o v hv => h.mem _ _ _ (h.grow _ _ _ (hle _ _ _ hv)), Mem.le_refl _, fun _ _ _ x => .inl x, by simp, by simp⟩
theorem st_addOb {w0 W : World} {G0 G : Mem} {L : List (List Seg)} {D : Nat} {x : Obj} (h : St w0 G0 W G L) (hx : W.heap[D]? = some x) (hi : isOb x = true) (hD : w0.heap.size ≤ D) (hob : ∀ s ∈ L.flatten, s.ob = none) : St w0 G0 W G ([Ob D x] :: L) := by
  refine ⟨h.below, h.mem, h.grow, h.fresh, fun s hs => ?_, ?_⟩
  · rw [List.flatten_cons, List.mem_append] at hs
    rcases hs with hs | hs
    · obtain rfl : s = _ := by simpa using hs
      refine ⟨hD, by simp, fun y hy => ?_, by simp⟩
      cases hy; exact ⟨hi, hx, rfl, rfl⟩
    · exact h.own s hs
  · rw [List.flatten_cons, List.singleton_append, List.pairwise_cons]
    refine ⟨fun s hs b o h1 h2 => ?_, h.apart⟩
    obtain ⟨e1, e2, e3⟩ := h1
    obtain ⟨f1, f2, f3⟩ := h2
    obtain ⟨_, o2, _⟩ := h.own s hs
    simp only [Seg.len, hob s hs] at f3
    have hc := (o2 (o - s.off) _ (List.getElem?_eq_getElem (by omega))).1
    have e4 : s.b = D := by rw [f1]; exact e1.symm
    rw [e4] at hc
    have := cell_not_ob hc hx
    rw [hi] at this; cases this
theorem keeps_of {w0 W W' : World} {G G' : Mem} {L' : List (List Seg)} (h : St W G W' G' L') (B : Nat) : KeepsFrom B W W' :=
  ⟨h.below.size, fun k o _ hk _ => (h.below.block k (Array.getElem?_eq_some_iff.1 hk).1).trans hk⟩
theorem keeps_put3 (b1 b2 b3 : Nat) (v1 v2 v3 : Value) (W : World) (B : Nat) : KeepsFrom B W (put3 b1 b2 b3 v1 v2 v3 W) :=
  (((KeepsOthers.setCell _ _ _).from B).trans ((KeepsOthers.setCell _ _ _).from B)).trans ((KeepsOthers.setCell _ _ _).from B)
theorem st_put3 {w0 W : World} {G0 G : Mem} {b1 b2 b3 : Nat} {u1 u2 u3 : Value} (v1 v2 v3 : Value) (h : St w0 G0 W G (boxes3 b1 b2 b3 u1 u2 u3)) : St w0 G0 (put3 b1 b2 b3 v1 v2 v3 W) G (boxes3 b1 b2 b3 v1 v2 v3) := by
  have h3 := h.store (i := 2) (s := Sg b3 0 [u3]) rfl 0 [v3] (by simp)
  have h2 := h3.store (i := 1) (s := Sg b2 0 [u2]) rfl 0 [v2] (by simp)
  exact h2.store (i := 0) (s := Sg b1 0 [u1]) rfl 0 [v1] (by simp)
theorem boxes3_ob {b1 b2 b3 : Nat} {v1 v2 v3 : Value} : ∀ s ∈ (boxes3 b1 b2 b3 v1 v2 v3).flatten, s.ob = none := by
  intro s hs
  simp [boxes3] at hs
  rcases hs with rfl | rfl | rfl <;> rfl
section
variable {C : Cx} {Q : Exit → Act → World → Prop} {fr : List (Nat × Value)} {G : Mem}
theorem tc_range3 {α : Type} {t p1 p2 : Nat} {assign body : Code} {b1 b2 b3 : Nat} {u1 u2 u3 : Value} {gf : Nat} {lb : Array Value} (hfr : look fr t = some (.func (.func gf) #[] lb)) (hD : C.D = [])
    (hp1 : p1 < C.n) (hp2 : p2 < C.n) (eg : ∀ args w, (callFunc gf args).run C.P w = .ok (.enter gf args) w)
    (e1 e2 : α → Value) (S Sp : List α → Prop) (N : Nat)
    (hseq : ∀ w, St C.w0 C.G0 w G (boxes3 b1 b2 b3 u1 u2 u3) → SeqStopsK (FR none) 2 C.P gf lb (fun x => #[e1 x, e2 x]) (Below w.heap.size) S Sp N w)
    (J : List α → Prop) (hJ : J []) (out : List α → Option (Value × Value × Value)) (cells : α → List Value) (frB : α → Nat → List (Nat × Value))
    (hA : ∀ l x W, TR (some l) 1 ⟨C.P, C.n, [], W, G⟩ assign (Exit.then (fun a' W' => ∃ b, Fr C.n [] a' (frB x b) ∧ St W G W' G [[Sg b 0 (cells x)]]) (fun _ _ _ => False)) ((p2, e2 x) :: (p1, e1 x) :: fr) G [])
    (hB : ∀ l pre x b W Gm, J pre → Mem.le G Gm → (∀ j v, (cells x)[j]? = some v → Gm b (0 + j) = some v) → OldBox W Gm b1 → OldBox W Gm b2 → OldBox W Gm b3 →
      TR (some l) 1 ⟨C.P, C.n, [], W, Gm⟩ body (fun e _ W' => match e with
        | .normal => J (pre ++ [x]) ∧ ∃ G' L', St W Gm W' G' L'
        | .ret => ∃ v1 v2 v3, out (pre ++ [x]) = some (v1, v2, v3) ∧ ∃ G' L', St (put3 b1 b2 b3 v1 v2 v3 W) Gm W' G' L'
        | _ => False) (frB x b) Gm [])
    (hdone : ∀ D xs, S xs → J xs → TQ ⟨C.P, C.n, dfr D, C.w0, C.G0⟩ Q .normal fr G ([Ob D (.deferred (some []))] :: boxes3 b1 b2 b3 u1 u2 u3))
    (hstop : ∀ D pre v1 v2 v3, Sp pre → out pre = some (v1, v2, v3) → TQ ⟨C.P, C.n, dfr D, C.w0, C.G0⟩ Q .ret fr G ([Ob D (.deferred (some []))] :: boxes3 b1 b2 b3 v1 v2 v3)) :
    TC C (.rangeFunc (.tmp t) #[p1, p2] assign body) Q fr G (boxes3 b1 b2 b3 u1 u2 u3) := by
  intro a w ha hw
  refine wp_to (n := 3) ?_
  have hg : a.eval (.tmp t) = .func (.func gf) #[] lb := by simp [Act.eval, ha.slot t _ hfr]
  have own : ∀ {W : World} {v1 v2 v3 : Value}, St C.w0 C.G0 W G (boxes3 b1 b2 b3 v1 v2 v3) → ((W.cell? ⟨b1, 0, none⟩ = some v1 ∧ W.frozen? ⟨b1, 0, none⟩ = false ∧ G b1 0 = none) ∧ (W.cell? ⟨b2, 0, none⟩ = some v2 ∧ W.frozen? ⟨b2, 0, none⟩ = false ∧ G b2 0 = none) ∧ (W.cell? ⟨b3, 0, none⟩ = some v3 ∧ W.frozen? ⟨b3, 0, none⟩ = false ∧ G b3 0 = none)) := fun {W v1 v2 v3} h =>
    ⟨(h.own (Sg b1 0 [v1]) (by simp [boxes3])).2.1 0 v1 rfl, (h.own (Sg b2 0 [v2]) (by simp [boxes3])).2.1 0 v2 rfl, (h.own (Sg b3 0 [v3]) (by simp [boxes3])).2.1 0 v3 rfl⟩
  have hD2 : ∀ D, Fr C.n (dfr D) { a with defers := { target := .collected D, args := #[] } :: a.defers } fr := fun D => ⟨ha.size, by simp [ha.defers, hD], ha.slot⟩
  refine wpIn_rangeFunc_ownH (F := FR none) (n := 3) rfl (by decide) hg trivial eg (hseq w hw) belowK_t (belowK_b (Nat.le_refl _)) (Below.refl _ _) (fun _ => rfl)
    (fun pre W => J pre ∧ St C.w0 C.G0 W G (boxes3 b1 b2 b3 u1 u2 u3) ∧ w.heap.size ≤ W.heap.size)
    (fun c pre W => c = .ret ∧ ∃ v1 v2 v3, out pre = some (v1, v2, v3) ∧ St C.w0 C.G0 W G (boxes3 b1 b2 b3 v1 v2 v3))
    (fun pre A B row h hg hr => ⟨h.1, st_grown h.2.1 hg hr hw.below.size boxes3_ob, Nat.le_trans h.2.2 hg.size⟩)
    (fun c pre A B row h hg hr => by obtain ⟨h1, v1, v2, v3, h2, h3⟩ := h; exact ⟨h1, v1, v2, v3, h2, st_grown h3 hg hr hw.below.size boxes3_ob⟩)
    ⟨hJ, hw, Nat.le_refl _⟩
    (fun x a' W => ∃ b, w.heap.size ≤ b ∧ Fr C.n [] a' (frB x b) ∧ ∀ j v, (cells x)[j]? = some v → W.cell? ⟨b, 0 + j, none⟩ = some v)
    (fun x a' _ A B row h hg hr => by obtain ⟨b, h1, h2, h3⟩ := h; exact ⟨b, h1, h2, fun j v hv => cell_kept (h3 j v hv) hg (fun r e => (hr r e).2)⟩) ?assign ?body ?done ?stop
  case assign =>
    intro l pre x W K hI hK
    obtain ⟨hJ1, hS, hsz⟩ := hI
    have ha0 : Fr C.n [] { a with defers := [] } fr := ⟨ha.size, rfl, ha.slot⟩
    have hFr := (ha0.put p1 (e1 x) hp1).put p2 (e2 x) hp2
    have e0 : (#[p1, p2].zip #[e1 x, e2 x]).foldl (fun t (p, v) => t.setIfInBounds p v) a.tmps = (a.tmps.setIfInBounds p1 (e1 x)).setIfInBounds p2 (e2 x) := by simp
    rw [e0]
    refine wpIn_mono (hA l x W _ W hFr (St.start hS.mem)) ?_
    intro e a' W' he
    cases e with
    | normal =>
      obtain ⟨b, hF, hSt⟩ := he
      have hb := hSt.own (Sg b 0 (cells x)) (by simp)
      refine hK a' W' (keeps_of (w0 := W) hSt _) (hSt.below.mono hsz) ⟨hJ1, ?_, Nat.le_trans hsz hSt.below.size⟩ ⟨b, Nat.le_trans hsz hb.1, hF, fun j v hv => (hb.2.1 j v hv).1⟩
      exact (hS.call hSt).dropAt _ (by simp)
    | _ => exact he.elim
  case body =>
    rintro l pre x a' W hl hr ⟨hJ1, hS, hsz⟩ ⟨b, hb, hF, hc⟩ hlen
    obtain ⟨⟨c1, f1, g1⟩, ⟨c2, f2, g2⟩, c3, f3, g3⟩ := own hS
    obtain ⟨⟨k1, _⟩, ⟨k2, _⟩, k3, _⟩ := own hw
    have l1 := lt_of_cell k1; have l2 := lt_of_cell k2; have l3 := lt_of_cell k3
    have hle : Mem.le G (memOut b1 b2 b3 W) := by
      intro b' o v hv
      unfold memOut
      rw [if_neg]
      · exact hS.mem _ _ _ hv
      · rintro ⟨rfl | rfl | rfl, rfl⟩
        · rw [g1] at hv; cases hv
        · rw [g2] at hv; cases hv
        · rw [g3] at hv; cases hv
    have hm : ∀ b' o v, memOut b1 b2 b3 W b' o = some v → W.cell? ⟨b', o, none⟩ = some v := by
      intro b' o v hv
      unfold memOut at hv
      split at hv
      · cases hv
      · exact hv
    have hT := hB l pre x b W (memOut b1 b2 b3 W) hJ1 hle (fun j v hv => by
      unfold memOut
      rw [if_neg (by rintro ⟨e | e | e, _⟩ <;> omega)]
      exact hc j v hv) ⟨lt_of_cell c1, ⟨_, c1⟩, f1, by simp [memOut]⟩ ⟨lt_of_cell c2, ⟨_, c2⟩, f2, by simp [memOut]⟩ ⟨lt_of_cell c3, ⟨_, c3⟩, f3, by simp [memOut]⟩
    refine wpIn_mono (hT a' W hF (St.start hm)) ?_
    intro e a'' W' he
    cases e with
    | normal =>
      obtain ⟨hJ2, G', L', hSt⟩ := he
      exact ⟨keeps_of (w0 := W) hSt _, hSt.below.mono hsz, hJ2, hS.call (st_low hSt hle), Nat.le_trans hsz hSt.below.size⟩
    | ret =>
      obtain ⟨v1, v2, v3, ho, G', L', hSt⟩ := he
      exact ⟨(keeps_put3 b1 b2 b3 v1 v2 v3 W _).trans (keeps_of (w0 := W) hSt _), rfl, v1, v2, v3, ho, (st_put3 v1 v2 v3 hS).call (st_low hSt hle)⟩
    | _ => exact he.elim
  case done =>
    rintro D xs W hDw hS2 ⟨hJ2, hSt, _⟩ hK
    exact hdone D xs hS2 hJ2 _ W (hD2 D) (st_addOb hSt hK rfl (Nat.le_trans hw.below.size hDw) boxes3_ob)
  case stop =>
    rintro D c pre W hDw hSp ⟨rfl, v1, v2, v3, ho, hSt⟩ hK
    exact wpIn_ret (hstop D pre v1 v2 v3 hSp ho _ W (hD2 D) (st_addOb hSt hK rfl (Nat.le_trans hw.below.size hDw) boxes3_ob))
end
/-! ### Operations at a world that stays -/
def RW (R : Option Nat) (n : Nat) (C : Cx) (ops : Array Oper) (Q : Exit → Act → World → Prop) (rest : List Oper) (fr : List (Nat × Value)) (w : World) : Prop := ∀ a, Fr C.n C.D a fr → wpListIn (FR R) n C.P ops Q rest a w
def TW (R : Option Nat) (n : Nat) (C : Cx) (c : Code) (Q : Exit → Act → World → Prop) (fr : List (Nat × Value)) (w : World) : Prop := ∀ a, Fr C.n C.D a fr → c.wpIn (FR R) n C.P Q a w
section
variable {R : Option Nat} {n : Nat} {C : Cx} {ops : Array Oper} {Q : Exit → Act → World → Prop} {rest : List Oper} {fr : List (Nat × Value)} {w : World} {o : Oper}
theorem rw_base {d : Nat} (hb : base C.n ops fr o d = true) {a : Act} (ha : Fr C.n C.D a fr) : execOp a.eval o = execOp (evo fr) o ∧ Region.wanted o (yielded ops a.tmps) = true ∧ o.dst = some d ∧ d < C.n := by
  unfold base at hb
  simp only [Bool.and_eq_true] at hb
  obtain ⟨⟨⟨⟨hd, hn⟩, hwt⟩, hsel⟩, hcov⟩ := hb
  have hwant : wantedF ops fr o = some true := by
    cases hx : wantedF ops fr o with
    | none => rw [hx] at hwt; simp [wantB] at hwt
    | some b => rw [hx] at hwt; simp [wantB] at hwt; rw [← hwt]
  refine ⟨execOp_congr _ _ _ (fun cs b e => by rw [e] at hsel; simp [isSel] at hsel) (fun x hx => ha.eval x (List.all_eq_true.1 hcov x (by simpa using hx))), wantedF_eq ha hwant, ?_, Nat.le_of_ble_eq_true hn⟩
  cases h : o.dst with
  | none => rw [h] at hd; cases hd
  | some e => rw [h] at hd; rw [Nat.eq_of_beq_eq_true hd]
theorem rw_run (d : Nat) (v : Value) (hr : (execOp (evo fr) o).run C.P w = .ok (.value v) w) (h : RW R n C ops Q rest ((d, v) :: fr) w)
    (hb : base C.n ops fr o d = true := by as_aux_lemma => kernel_rfl) (hdf : isDef o.op = false := by rfl) : RW R n C ops Q (o :: rest) fr w := by
  intro a ha
  obtain ⟨hE, hw, hd, hn⟩ := rw_base hb ha
  unfold wpListIn
  rw [if_pos hw]
  refine ⟨fun _ _ => trivial, ?_⟩
  show o.uponIn (FR R) n C.P a _ Q ((o.semAt R a.eval).run C.P w)
  rw [semAt_plain hdf, hE, hr]
  show wpListIn (FR R) n C.P ops Q rest (a.put o.dst v) w
  rw [hd]
  exact h _ (ha.put d v hn)
theorem rw_p (d : Nat) (v v' : Value) (e : v = v') (h : RW R n C ops Q rest ((d, v') :: fr) w)
    (hb : base C.n ops fr o d = true := by as_aux_lemma => kernel_rfl) (hdf : isDef o.op = false := by rfl)
    (hr : ∀ w, (execOp (evo fr) o).run C.P w = .ok (.value v) w := by intro _; as_aux_lemma => kernel_rfl) : RW R n C ops Q (o :: rest) fr w := by
  subst e; exact rw_run d v (hr w) h hb hdf
theorem rw_ld (d t : Nat) {b o' : Nat} {cs : List Value} (k : Nat) (v : Value) (hc : ∀ j v, cs[j]? = some v → w.cell? ⟨b, o' + j, none⟩ = some v)
    (h : RW R n C ops Q rest ((d, v) :: fr) w)
    (hb : base C.n ops fr o d = true := by as_aux_lemma => kernel_rfl)
    (hx : (chkLd fr o, loadOK C.P t cs k, loadVal C.P t cs k) = (some (t, Pt b (o' + k)), true, v) := by as_aux_lemma => kernel_rfl) : RW R n C ops Q (o :: rest) fr w := by
  simp only [Prod.mk.injEq] at hx
  obtain ⟨hx, hok, hv⟩ := hx
  unfold chkLd at hx
  split at hx
  case h_2 => cases hx
  rename_i t' x hop
  simp only [Option.some.injEq, Prod.mk.injEq] at hx
  obtain ⟨rfl, hx⟩ := hx
  have := run_loadVar_seg (P := C.P) (t := t') (w := w) (b := b) (off := o') (k := k) (cs := cs) hc hok
  refine rw_run d v ?_ h hb (by rw [hop]; rfl)
  unfold execOp
  simp only [hop, hx, Instr.loadAt, Instr.sureAddr, Sem.run_bind, Sem.run_pure, Result.andThen_ok, this, hv]
theorem rw_idx (d e sz : Nat) {b off len cap : Nat} {ik : IntKind} (k : Nat) (hk : k < len) (h : RW R n C ops Q rest ((d, Pt b (off + k * sz)) :: fr) w)
    (hb : base C.n ops fr o d = true := by as_aux_lemma => kernel_rfl)
    (hc : chkIdx C.P fr o e sz = some (Sl (At b off) len cap, .int ik (k : Int)) := by as_aux_lemma => kernel_rfl) (hdf : isDef o.op = false := by rfl) : RW R n C ops Q (o :: rest) fr w :=
  rw_run d _ (run_idx hc hk w) h hb hdf
theorem rw_yield {l : Nat} {args : Array Value} {T : Ending → World → Prop} (d : Nat) (hY : YieldAt (FR R) (n - 1) C.P l args w T)
    (h : ∀ e w', T e w' → ∃ u, e = .returned u ∧ RW R n C ops Q rest ((d, u) :: fr) w')
    (hr : ∀ w, (execOp (evo fr) o).run C.P w = (Instr.yield l args).run C.P w := by intro _; as_aux_lemma => kernel_rfl)
    (hb : base C.n ops fr o d = true := by as_aux_lemma => kernel_rfl) (hdf : isDef o.op = false := by rfl) : RW R n C ops Q (o :: rest) fr w := by
  intro a ha
  obtain ⟨hE, hw, hd, hn⟩ := rw_base hb ha
  obtain ⟨fn, tmps, assign, body, hy, hR⟩ := hY
  unfold wpListIn
  rw [if_pos hw]
  refine ⟨fun _ _ => trivial, ?_⟩
  show o.uponIn (FR R) n C.P a _ Q ((o.semAt R a.eval).run C.P w)
  rw [semAt_plain hdf, hE, hr, hy]
  refine ⟨fun hc => by simp [Fence.wide] at hc, hR.mono ?_⟩
  intro e w' he
  obtain ⟨u, rfl, hk⟩ := h e w' he
  show wpListIn (FR R) n C.P ops Q rest (a.put o.dst u) w'
  rw [hd]
  exact hk _ (ha.put d u hn)
theorem rw_nil (h : ∀ a, Fr C.n C.D a fr → Q .normal a w) : RW R n C ops Q [] fr w := fun a ha => h a ha
theorem tw_region {id : Nat} {l : List Oper} (h : RW R n C l.toArray Q l fr w) : TW R n C (.region id l.toArray false) Q fr w := fun a ha => wpIn_region_lit (h a ha)
theorem tw_seq {x y : Code} (h : TW R n C x (Exit.then (y.wpIn (FR R) n C.P Q) Q) fr w) : TW R n C (.seq x y) Q fr w := fun a ha => wpIn_seq (h a ha)
theorem tw_block {id : Nat} {c : Code} (h : TW R n C c (Exit.inBlock id Q) fr w) : TW R n C (.block id c) Q fr w := fun a ha => wpIn_block (h a ha)
theorem tw_keep {c : Code} (fr' : List (Nat × Value)) (k : TW R n C c Q fr' w) (h : (fr'.map fun p => look fr p.1) = fr'.map fun p => some p.2 := by as_aux_lemma => kernel_rfl) : TW R n C c Q fr w := fun a ha => k a (ha.sub (sub_of_map h))
theorem tw_cond {t : Nat} {b : Bool} {x y : Code} (h1 : b = true → TW R n C x Q fr w) (h2 : b = false → TW R n C y Q fr w) (hb : look fr t = some (Bo b) := by as_aux_lemma => kernel_rfl) : TW R n C (.cond (.tmp t) x y) Q fr w :=
  fun a ha => wpIn_cond_split (t := b) (by simp [Act.eval, ha.slot t _ hb]) (fun e => h1 e a ha) (fun e => h2 e a ha)
/-- A loop of which each round is walked at its own world. -/
theorem tw_loop {c : Code} {σ : Type} (F : σ → List (Nat × Value)) (J : σ → World → Prop) (μ : σ → Nat) (s0 : σ) (h0 : J s0 w)
    (round : ∀ s w, J s w → TW R n C c (Exit.then (fun a' w' => ∃ s', J s' w' ∧ μ s' < μ s ∧ Fr C.n C.D a' (F s')) Q) (F s) w)
    (hfr : ((F s0).map fun p => look fr p.1) = (F s0).map fun p => some p.2 := by as_aux_lemma => kernel_rfl) : TW R n C (.loop c) Q fr w := by
  intro a ha
  have key : ∀ (m : Nat) (s : σ) (a : Act) (w : World), μ s < m → J s w → Fr C.n C.D a (F s) → Code.roundsIn (FR R) n C.P c Q m a w := by
    intro m
    induction m with
    | zero => intro s a w hm; omega
    | succ m ih =>
      intro s a w hm hJ hF
      exact wpIn_mono (round s w hJ a hF) (fun e a' w' he => by
        cases e with
        | normal => obtain ⟨s', h1, h2, h3⟩ := he; exact ih s' a' w' (by omega) h1 h3
        | _ => exact he)
  exact wpIn_loop_rounds (μ s0 + 1) (key (μ s0 + 1) s0 a w (Nat.lt_succ_self _) h0 (ha.sub (sub_of_map hfr)))
def TQW (C : Cx) (Q : Exit → Act → World → Prop) (e : Exit) (fr : List (Nat × Value)) (w : World) : Prop := ∀ a, Fr C.n C.D a fr → Q e a w
theorem tw_skip (h : TQW C Q .normal fr w) : TW R n C .skip Q fr w := fun a ha => wpIn_skip (h a ha)
theorem tw_ret (h : TQW C Q .ret fr w) : TW R n C .ret Q fr w := fun a ha => wpIn_ret (h a ha)
theorem tw_exit {id : Nat} (h : TQW C Q (.exit id) fr w) : TW R n C (.exit id) Q fr w := fun a ha => wpIn_exit (h a ha)
theorem rw_end (h : TQW C Q .normal fr w) : RW R n C ops Q [] fr w := fun a ha => h a ha
theorem tqw_then {x : Code} (h : TW R n C x Q fr w) : TQW C (Exit.then (x.wpIn (FR R) n C.P Q) Q) .normal fr w := fun a ha => h a ha
end
theorem callsIn_tw {P : Program} {f : FuncId} {args : Array Value} {w : World} {T : Ending → World → Prop} {fn : Func} {c : Code} (hf : P.funcs[f]? = some fn) (n k : Nat) (fr : List (Nat × Value)) (hb : fn.body = some c)
    (h : TW none n ⟨P, k, [], w, fun _ _ => none⟩ c (bodyPost P fn T) fr w) (hn : fn.ntmps = k := by rfl) (ha : Nat.ble args.size k = true := by rfl)
    (hfr : (fr.map fun p => args[p.1]?) = fr.map fun p => some p.2 := by as_aux_lemma => kernel_rfl) : CallsIn (FR none) n P f args w T :=
  callsIn_of_wp (F := FR none) (n := n) hf hb trivial (h _ (by rw [hn]; exact fr_enter fr hfr (Nat.le_of_ble_eq_true ha))) rfl
end Go.Tx
