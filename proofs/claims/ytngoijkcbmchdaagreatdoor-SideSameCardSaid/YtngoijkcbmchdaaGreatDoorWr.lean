/- Rules for acts in the engine: what a walk may do as a goroutine among others. -/
import Derived.Test.YtngoijkcbmchdaaGreatDoorRul
import Derived.Test.YtngoijkcbmchdaaGreatDoorWa
import Derived.Laws.MakeOwn
import Derived.Conc.TokenWalk
import Derived.Conc.SmallLaws
set_option linter.unusedVariables false
set_option linter.unusedSimpArgs false
namespace Go.Tx
open Go.Conc Go.ConcN Go.RowKit
open Go.ConcR (KK wgBlock WgAt stA smA)

/-- The same context, the view's beginning saying something else. -/
@[reducible] def Cx.out (C : Cx) (o : Array (Nat × ByteArray)) : Cx := { C with w0 := { C.w0 with output := o } }
theorem St.out {w0 w : World} {G0 G : Mem} {L : List (List Seg)} (h : St w0 G0 w G L) (o : Array (Nat × ByteArray)) : St { w0 with output := o } G0 { w with output := o } G L :=
  ⟨⟨h.below.os, h.below.tape, rfl, h.below.size, h.below.block⟩, h.mem, h.grow, h.fresh, h.own, h.apart⟩
theorem St.outw {w0 w : World} {G0 G : Mem} {L : List (List Seg)} (h : St w0 G0 w G L) : w.output = w0.output := h.below.output

section
variable {C : Cx} {Q : Exit → Act → World → Prop} {fr : List (Nat × Value)} {G : Mem} {L : List (List Seg)} {ops : Array Oper} {rest : List Oper} {o : Oper}

theorem evalE {a : Act} (ha : Fr C.n C.D a fr) (hsel : isSel o.op = false) (hcov : o.op.operands.toList.all (cov fr) = true) : execOp a.eval o = execOp (evo fr) o :=
  execOp_congr _ _ _ (fun cs b e => by rw [e] at hsel; simp [isSel] at hsel) (fun x hx => ha.eval x (List.all_eq_true.1 hcov x (by simpa using hx)))

/-- An operation as an act: at its place in whatever frame. -/
theorem runL_act (hw : wantedF ops fr o = some true)
    (h : ∀ (a : Act) (w : World), Fr C.n C.D a fr → St C.w0 C.G0 w G L → ∀ (main : Bool) (Ac : Acs), C.A.le Ac → ∀ (b : Frame) (ops' : Array Oper) (i : Nat) (rst : List Nat) (k : List Item) (cs : List Frame) (Z : Goroutine → World → Prop), b.kind ≠ .early →
      ops'[i]? = some o → Region.wanted o (yielded ops' a.tmps) = true → (∀ a' w', wpListS C.P C.w0.heap.size C.A ops Q rest a' w' → Run1 C.P main C.w0.heap.size Ac Z (Go.Conc.G (b.at a' (.inRegion ops' rst :: k)) cs) w') →
      Run1 C.P main C.w0.heap.size Ac Z (Go.Conc.G (b.at a (.inRegion ops' (i :: rst) :: k)) cs) w) : RunL C ops Q (o :: rest) fr G L := by
  intro a w ha hS
  unfold wpListS
  rw [if_pos (wantedF_eq ha hw)]
  exact .inr (h a w ha hS)

/-- A deferred call. -/
theorem runL_defer {f : FuncId} {xs : Array Operand} {ats : Array TypeId} {vs : Array Value} (h : RunL { C with D := dcall f vs :: C.D } ops Q rest fr G L)
    (hop : o.op = .defer { callee := .value (.func f), args := xs, argTypes := ats } := by rfl) (hd : o.dst = none := by rfl) (hw : wantedF ops fr o = some true := by rfl) (hcov : xs.toList.all (cov fr) = true := by as_aux_lemma => kernel_rfl) (hvs : xs.map (evo fr) = vs := by as_aux_lemma => kernel_rfl) :
    RunL C ops Q (o :: rest) fr G L := by
  refine runL_act hw fun a w ha hS main Ac hA b ops' i rst k cs Z hk ho hwt hn => ?_
  have he : xs.map a.eval = vs := by
    rw [← hvs]
    apply Array.ext'
    simp only [Array.toList_map]
    exact List.map_congr_left fun x hx => ha.eval x (List.all_eq_true.1 hcov x hx)
  refine .idle rfl (fun _ => stepG_defer ho hwt hk hop) (hn _ _ ?_)
  rw [hd, he]
  exact h _ _ ⟨ha.size, by show dcall f vs :: a.defers = dcall f vs :: C.D; rw [ha.defers], ha.slot⟩ hS

/-- make(chan T). -/
theorem runL_chan {B0 : Nat} (d : Nat) (hA : C.A = OAc C.P B0) (h : ∀ r, RunL (C.out (gho 30 r 0)) ops Q rest ((d, .chan (some r)) :: fr) G L)
    (hw : wantedF ops fr o = some true := by rfl) (hd : o.dst = some d := by rfl) (hn : Nat.blt d C.n = true := by rfl) (hsel : isSel o.op = false := by rfl)
    (hcov : o.op.operands.toList.all (cov fr) = true := by as_aux_lemma => kernel_rfl)
    (hrun : ∀ w, (execOp (evo fr) o).run C.P w = .ok (.value (.chan (some w.heap.size))) { w with heap := w.heap.push (.chan 0 #[] false 0 0 false) } := by intro _; as_aux_lemma => kernel_rfl)
    (hev : ∀ w, (execOp (evo fr) o).events C.P w #[] = #[] := by intro _; as_aux_lemma => kernel_rfl) : RunL C ops Q (o :: rest) fr G L := by
  refine runL_act hw fun a w ha hS main Ac hle b ops' i rst k cs Z hk ho hwt hnx => ?_
  have hE := evalE ha hsel hcov
  refine .act (K := fun w1 g' w' => g' = Go.Conc.G (b.at (a.put o.dst (.chan (some w1.heap.size))) (.inRegion ops' rst :: k)) cs ∧ w' = { w1 with heap := w1.heap.push poison, output := gho 30 w1.heap.size 0 }) rfl (fun w1 p q => hle _ _ _ _ ?_) fun w1 p q g' w' hK => ?_
  · rw [hA]
    refine .chan false fun W hO => ⟨_, ?_, rfl, rfl⟩
    rw [stepG_value ho hwt hk (by rw [hE]; exact hrun W), listed_none (by rw [hE]; exact hev W), hO.size]
  · obtain ⟨rfl, rfl⟩ := hK
    refine hnx _ _ ?_
    rw [hd]
    have p2 : Push w1 { w1 with heap := w1.heap.push poison } := ⟨rfl, rfl, rfl, by simp, fun bb hb => by simp only; rw [Array.getElem?_push, if_neg (by omega)], fun bb h1 h2 => by
      simp only [Array.size_push] at h2
      unfold Psn; simp only; rw [Array.getElem?_push, if_pos (by omega)]⟩
    exact h _ _ _ (ha.put d _ (Nat.le_of_ble_eq_true hn)) (((hS.push p).push p2).out _)

/-- A call that the library's walk shows: the view is pushed, and says something else. -/
theorem runL_callG (d : Nat) {f : FuncId} {args : Array Value} (v : Value) (o' : Array (Nat × ByteArray)) (hc : ∀ w, w.output = C.w0.output → CallsS C.P C.w0.heap.size C.A f args w fun e w' => e = .returned v ∧ ∃ w1, Push w w1 ∧ w' = { w1 with output := o' })
    (h : RunL (C.out o') ops Q rest ((d, v) :: fr) G L)
    (hw : wantedF ops fr o = some true := by rfl) (hd : o.dst = some d := by rfl) (hn : Nat.blt d C.n = true := by rfl) (hsel : isSel o.op = false := by rfl)
    (hcov : o.op.operands.toList.all (cov fr) = true := by as_aux_lemma => kernel_rfl) (hrun : ∀ w, (execOp (evo fr) o).run C.P w = .ok (.enter f args) w := by intro _; as_aux_lemma => kernel_rfl) (hsy : ∀ f g, synB C.P f g (execOp (evo fr) o) 0 = true := by intro _ _; as_aux_lemma => kernel_rfl) :
    RunL C ops Q (o :: rest) fr G L := by
  intro a w ha hwS
  have hE := evalE ha hsel hcov
  unfold wpListS
  rw [if_pos (wantedF_eq ha hw)]
  refine .inl fun w1 hp1 _ => ?_
  replace hwS := hwS.push hp1
  refine .inr (.inr ⟨f, args, w1, OpR.of (by rw [hE]; exact hrun w1) (by rw [hE]; exact syn_of_B _ 0 hsy), (hc w1 hwS.outw).mono ?_⟩)
  rintro e w' ⟨rfl, w2, hp, rfl⟩
  refine ⟨v, rfl, ?_⟩
  rw [hd]
  exact h _ _ (ha.put d v (Nat.le_of_ble_eq_true hn)) ((hwS.push hp).out _)

/-- A go statement: the child sees what is lent. -/
theorem runL_go {ph : Ph} {B' j : Nat} {df : Deferred} {fn : Fn} {caps : Array Value} (hA : C.A = MAc C.P ph B') (ho0 : C.w0.output = gho 3 j 0) (hdf : df.target = .fn fn caps)
    (hch : ∀ w, St C.w0 C.G0 w G L → Run1 C.P false w.heap.size (WAc C.P ph) (fun _ _ => False) (born C.P df) (w.lend B')) (h : RunL (C.out (gho 0 (j + 1) 0)) ops Q rest fr G L)
    (hw : wantedF ops fr o = some true := by rfl) (hd : o.dst = none := by rfl) (hsel : isSel o.op = false := by rfl)
    (hcov : o.op.operands.toList.all (cov fr) = true := by as_aux_lemma => kernel_rfl)
    (hrun : ∀ w, (execOp (evo fr) o).run C.P w = .ok (.spawn df) w := by intro _; as_aux_lemma => kernel_rfl) (hev : ∀ w, (execOp (evo fr) o).events C.P w #[] = #[] := by intro _; as_aux_lemma => kernel_rfl) : RunL C ops Q (o :: rest) fr G L := by
  refine runL_act hw fun a w ha hS main Ac hle b ops' i rst k cs Z hk ho hwt hnx => ?_
  have hE := evalE ha hsel hcov
  refine .act (K := fun w1 g' w' => g' = Go.Conc.G (b.at (a.put o.dst undef) (.inRegion ops' rst :: k)) cs ∧ w' = w1.say 0 (j + 1) 0) rfl (fun w1 p q => hle _ _ _ _ ?_) fun w1 p q g' w' hK => ?_
  · rw [hA]
    refine .go ((hS.push p).outw.trans ho0) fun W hO => ⟨_, _, ?_, hch w1 (hS.push p), rfl, rfl⟩
    rw [stepG_spawn ho hwt hk (by rw [hE]; exact hrun W) hdf, listed_none (by rw [hE]; exact hev W)]
  · obtain ⟨rfl, rfl⟩ := hK
    refine hnx _ _ ?_
    rw [hd]
    exact h _ _ ha ((hS.push p).out _)

/-- A send. -/
theorem runL_send {ph : Ph} {B' j : Nat} (hA : C.A = MAc C.P ph B') (ho0 : C.w0.output = gho 0 ph.n j) (hj : j < ph.N) (h : RunL (C.out (gho 0 ph.n (j + 1))) ops Q rest fr G L) {x y : Operand}
    (hop : o.op = .send x y := by rfl) (hx : evo fr x = .chan (some ph.ch) := by as_aux_lemma => kernel_rfl) (hy : evo fr y = ph.jv j := by as_aux_lemma => kernel_rfl)
    (hw : wantedF ops fr o = some true := by rfl) (hd : o.dst = none := by rfl) (hcov : o.op.operands.toList.all (cov fr) = true := by as_aux_lemma => kernel_rfl) : RunL C ops Q (o :: rest) fr G L := by
  refine runL_act hw fun a w ha hS main Ac hle b ops' i rst k cs Z hk ho hwt hnx => ?_
  have hE := evalE ha (by rw [hop]; rfl) hcov
  have hrun : ∀ W, (execOp (evo fr) o).run C.P W = .ok (.comm #[scase ph.ch (ph.jv j) (.tuple #[])] true .send) W := fun W => by unfold execOp; simp only [hop, hx, hy]; rfl
  have hev : ∀ W, (execOp (evo fr) o).events C.P W #[] = #[] := fun W => by unfold execOp; simp only [hop, hx, hy]; rfl
  refine .act (K := fun w1 g' w' => g' = Conc.served (core (Go.Conc.G (b.at a (.inRegion ops' (i :: rst) :: k)) cs)) undef ∧ w' = w1.say 0 ph.n (j + 1)) rfl (fun w1 p q => hle _ _ _ _ ?_) fun w1 p q g' w' hK => ?_
  · rw [hA]
    refine .send (.tuple #[]) ((hS.push p).outw.trans ho0) hj (fun W hO => ?_) ⟨rfl, rfl⟩
    rw [stepG_comm ho hwt hk (by rw [hE]; exact hrun W), listed_none (by rw [hE]; exact hev W)]; rfl
  · obtain ⟨rfl, rfl⟩ := hK
    have e : Conc.served (core (Go.Conc.G (b.at a (.inRegion ops' (i :: rst) :: k)) cs)) undef = Go.Conc.G (b.at (a.put o.dst undef) (.inRegion ops' rst :: k)) cs := by
      have := Frame.finish_at b a ops' i rst k undef
      rw [ho] at this
      show ({ frame := (b.at a (.inRegion ops' (i :: rst) :: k)).finish undef, callers := cs, status := .running, dying := none, offers := none } : Goroutine) = _
      rw [this]; rfl
    rw [e]
    refine hnx _ _ ?_
    rw [hd]
    exact h _ _ ha ((hS.push p).out _)

/-- close(c), in whatever function's frame. -/
theorem stepG_close_any {P : Program} {main : Bool} {b : Frame} {a : Act} {ops : Array Oper} {i : Nat} {rest : List Nat} {o : Oper} {kk : List Item} {cs : List Frame} {w : World} {x : Operand} {ats : Array TypeId} (ho : ops[i]? = some o) (hw : Region.wanted o (yielded ops a.tmps) = true) (hk : b.kind ≠ .early) (hop : o.op = .call { callee := .builtin .close, args := #[x], argTypes := ats })
    {c s r : Nat} {tm : Bool} (hx : a.eval x = .chan (some c)) (hc : w.heap[c]? = some (.chan 0 #[] false s r tm)) :
    stepG P main (Go.Conc.G (b.at a (.inRegion ops (i :: rest) :: kk)) cs) w = .go (Go.Conc.G (b.at (a.put o.dst (.tuple #[])) (.inRegion ops rest :: kk)) cs) (w.setChan c 0 #[] true s r tm) (closeEvents c) := by
  simp only [Act.eval, Array.getD_eq_getD_getElem?] at hx
  have hr : (execOp a.eval o).run P w = .ok (.value (.tuple #[])) (w.setChan c 0 #[] true s r tm) := by
    unfold execOp
    simp only [hop]
    simp [go_sem, hx, run_close_open _ _ hc, World.setChan]
  have he : (execOp a.eval o).events P w #[] = closeEvents c := by
    unfold execOp
    simp only [hop]
    simp [go_sem, hx, events_close_open _ _ hc, closeEvents]
  rw [stepG_value ho hw hk hr]
  congr 1
  unfold listed
  rw [he]
  simp [seen, closeEvents]

/-- close(c). -/
theorem runL_close {ph : Ph} {B' : Nat} (hA : C.A = MAc C.P ph B') (ho0 : C.w0.output = gho 0 ph.n ph.N) (h : RunL (C.out (gho 10 0 0)) ops Q rest fr G L) {x : Operand} {ats : Array TypeId}
    (hop : o.op = .call { callee := .builtin .close, args := #[x], argTypes := ats } := by rfl) (hx : evo fr x = .chan (some ph.ch) := by as_aux_lemma => kernel_rfl)
    (hw : wantedF ops fr o = some true := by rfl) (hd : o.dst = none := by rfl) (hcov : cov fr x = true := by as_aux_lemma => kernel_rfl) : RunL C ops Q (o :: rest) fr G L := by
  refine runL_act hw fun a w ha hS main Ac hle b ops' i rst k cs Z hk ho hwt hnx => ?_
  have hxe : a.eval x = .chan (some ph.ch) := (ha.eval x hcov).trans hx
  refine .act (K := fun w1 g' w' => g' = Go.Conc.G (b.at (a.put o.dst (.tuple #[])) (.inRegion ops' rst :: k)) cs ∧ w' = w1.say 10 0 0) rfl (fun w1 p q => hle _ _ _ _ ?_) fun w1 p q g' w' hK => ?_
  · rw [hA]
    refine .close ((hS.push p).outw.trans ho0) ?_ (fun W s r tm hO hch => ⟨_, ?_, rfl, rfl, rfl⟩)
    · unfold mayWake; simp [Go.Conc.G, Frame.at, ho, hop]
    · exact stepG_close_any ho hwt hk hop hxe hch
  · obtain ⟨rfl, rfl⟩ := hK
    refine hnx _ _ ?_
    rw [hd]
    exact h _ _ ha ((hS.push p).out _)
end
end Go.Tx
