/- The walk of one goroutine in company, without counts: its own view of memory, in which every block of somebody else is a poisoned one; what a program of the semantics does in the view it does in every world that lies over the view. -/
import Derived.Conc.Listed
import Derived.Conc.Own5
import Derived.Orders
import Derived.Tactics
import Derived.KernelRfl
import Derived.Below
set_option linter.unusedVariables false
set_option linter.unusedSimpArgs false
namespace Go.Tx
open Go.Conc Go.RowKit

/-! ### Views -/
/-- A block that is somebody else's. -/
def poison : Obj := .cells #[] 0
def Psn (w : World) (b : Nat) : Prop := w.heap[b]? = some poison
def isView : Obj → Bool
  | .view .. => true
  | _ => false
/-- What a program of ours does not make. -/
def isBad (o : Obj) : Bool := isView o || o.isChan
def NoView (w : World) : Prop := ∀ (b : Nat) x, w.heap[b]? = some x → isView x = false

/-- What the others may have done ahead of a step: they have made blocks, and asked the tape. -/
structure Push (w w1 : World) : Prop where
  os : w1.os = w.os
  tape : w1.tape = w.tape
  output : w1.output = w.output
  size : w.heap.size ≤ w1.heap.size
  old : ∀ b, b < w.heap.size → w1.heap[b]? = w.heap[b]?
  new : ∀ b, w.heap.size ≤ b → b < w1.heap.size → Psn w1 b
theorem Push.refl (w : World) : Push w w := ⟨rfl, rfl, rfl, Nat.le_refl _, fun _ _ => rfl, fun _ h h' => by omega⟩
theorem Push.trans {a b c : World} (h : Push a b) (k : Push b c) : Push a c := by
  refine ⟨k.os.trans h.os, k.tape.trans h.tape, k.output.trans h.output, Nat.le_trans h.size k.size, fun i hi => (k.old i (Nat.lt_of_lt_of_le hi h.size)).trans (h.old i hi), fun i hi hi' => ?_⟩
  by_cases e : i < b.heap.size
  · exact (k.old i e).trans (h.new i hi e)
  · exact k.new i (by omega) hi'
theorem Push.drew (w : World) (d : Nat) : Push w { w with drawn := d } := ⟨rfl, rfl, rfl, Nat.le_refl _, fun _ _ => rfl, fun _ h h' => by simp only at h'; omega⟩
theorem Push.cell {w w1 : World} (h : Push w w1) {a : Addr} {v : Value} (hc : w.cell? a = some v) : w1.cell? a = some v := by
  have hb := World.block_lt_of_cell? w a hc
  unfold World.cell? at *
  rw [h.old _ hb]; exact hc
theorem Push.frozen {w w1 : World} (h : Push w w1) {a : Addr} (hb : a.block < w.heap.size) : w1.frozen? a = w.frozen? a := by
  unfold World.frozen?
  rw [h.old _ hb]
theorem Push.below {w w1 : World} (h : Push w w1) {B : Nat} (hB : B ≤ w.heap.size) : Below B w w1 :=
  ⟨h.os, h.tape, h.output, h.size, fun b hb => h.old b (by omega)⟩

/-- A world over a view: the same but for what is poisoned in the view. (Of what was written to the outside nothing is asked: a view's `output` is free for what its owner knows besides.) -/
structure Over (Pz : Nat → Prop) (w W : World) : Prop where
  size : W.heap.size = w.heap.size
  os : W.os = w.os
  tape : W.tape = w.tape
  drawn : W.drawn = w.drawn
  same : ∀ b, ¬ Pz b → W.heap[b]? = w.heap[b]?
  pz : ∀ b, Pz b → Psn w b

/-- It never comes to an end of its own. -/
def Dead {α : Type} (P : Program) (s : Sem α) : Prop := ∀ w r w', s.run P w ≠ .ok r w'

/-! ### Programs of the semantics that keep to what they are given: what they write lies in Wr; of what they ask the shape of lies in Rd -/
def Syn {α : Type} (P : Program) (Wr Rd : Nat → Prop) : Sem α → Prop
  | .pure _ => True
  | .load m _ k => m = .plain ∧ ∀ v, Syn P Wr Rd (k v)
  | .store m a _ k => m = .plain ∧ Wr a.block ∧ Syn P Wr Rd k
  | .new o k => isBad o = false ∧ ∀ r, Syn P Wr Rd (k r)
  | .shape r k => (Rd r ∧ ∀ x, Syn P Wr Rd (k x)) ∨ Dead P (.shape r k)
  | .frozen a k => Rd a.block ∧ ∀ x, Syn P Wr Rd (k x)
  | .freeze a _ k => Wr a.block ∧ Rd a.block ∧ Syn P Wr Rd k
  | .getObj r k => Rd r ∧ ∀ o, Syn P Wr Rd (k o)
  | .setObj r o k => Rd r ∧ Wr r ∧ isBad o = false ∧ Syn P Wr Rd k
  | .choose _ k => ∀ n, Syn P Wr Rd (k n)
  | .sys _ _ => False
  | .program k => Syn P Wr Rd (k P)
  | .mark m k => (m = .noRoom ∨ ∃ f, m = .extern f) ∧ Syn P Wr Rd k
  | .halt _ => True

/-- The same along the way that the program takes in world w. -/
def SynR {α : Type} (P : Program) (Wr Rd : Nat → Prop) : Sem α → World → Prop
  | .pure _, _ => True
  | .load m a k, w => m = .plain ∧ ∃ v, w.cell? a = some v ∧ SynR P Wr Rd (k v) w
  | .store m a v k, w => m = .plain ∧ Wr a.block ∧ (∃ u, w.cell? a = some u) ∧ ((∀ cs, v ≠ .agg cs) ∧ (∀ cs, v ≠ .tuple cs) ∧ w.frozen? a = false) ∧ SynR P Wr Rd k (w.setCell a v)
  | .new o k, w => isBad o = false ∧ SynR P Wr Rd (k w.heap.size) { w with heap := w.heap.push o }
  | .shape r k, w => Rd r ∧ SynR P Wr Rd (k (w.shape? r)) w
  | .frozen a k, w => Rd a.block ∧ SynR P Wr Rd (k (w.frozen? a)) w
  | .freeze a n k, w => Wr a.block ∧ Rd a.block ∧ SynR P Wr Rd k (w.freeze a n)
  | .getObj r k, w => Rd r ∧ ∀ o, w.heap[r]? = some o → (∀ c t z, o ≠ .cells c t z) → SynR P Wr Rd (k o) w
  | .setObj r o k, w => Rd r ∧ Wr r ∧ isBad o = false ∧ (∃ x, w.heap[r]? = some x ∧ ∀ c t z, x ≠ .cells c t z) ∧ SynR P Wr Rd k { w with heap := w.heap.setIfInBounds r o }
  | .choose q k, w => if q.forced then SynR P Wr Rd (k 0) w else SynR P Wr Rd (k (q.cut (w.tape w.drawn q))) { w with drawn := w.drawn + 1 }
  | .sys _ _, _ => False
  | .program k, w => SynR P Wr Rd (k P) w
  | .mark m k, w => (m = .noRoom ∨ ∃ f, m = .extern f) ∧ SynR P Wr Rd k w
  | .halt _, _ => True

/-- An entry that is our own. -/
def EvO (Wr Pz : Nat → Prop) (hi : Nat) (e : Event) : Prop :=
  (∃ l b wr, e = ⟨l, wr, false⟩ ∧ ((∃ a, l = .cell a ∧ a.block = b) ∨ l = .obj b) ∧ ¬ Pz b ∧ (wr = true → Wr b) ∧ b < hi) ∨ e = ⟨.mark .noRoom, false, true⟩ ∨ ∃ f, e = ⟨.mark (.extern f), false, true⟩

theorem poison_cell {w : World} {a : Addr} (h : Psn w a.block) : w.cell? a = none := by
  unfold World.cell?
  rw [show w.heap[a.block]? = some (.cells #[] 0) from h]
  simp
theorem Over.cell {Pz : Nat → Prop} {w W : World} (h : Over Pz w W) {a : Addr} {v : Value} (hc : w.cell? a = some v) : ¬ Pz a.block ∧ W.cell? a = some v := by
  have hn : ¬ Pz a.block := fun hp => by rw [poison_cell (h.pz _ hp)] at hc; cases hc
  refine ⟨hn, ?_⟩
  unfold World.cell? at *
  rw [h.same _ hn]; exact hc
theorem Over.frozen {Pz : Nat → Prop} {w W : World} (h : Over Pz w W) {a : Addr} (hn : ¬ Pz a.block) : W.frozen? a = w.frozen? a := by
  unfold World.frozen?
  rw [h.same _ hn]
theorem Over.shape {Pz : Nat → Prop} {w W : World} (h : Over Pz w W) {r : Nat} (hn : ¬ Pz r) : W.shape? r = w.shape? r := by
  unfold World.shape?
  rw [h.same _ hn]
theorem Over.setCell {Pz : Nat → Prop} {w W : World} (h : Over Pz w W) {a : Addr} (v : Value) (hn : ¬ Pz a.block) : Over Pz (w.setCell a v) (W.setCell a v) := by
  refine ⟨by simp [World.setCell, h.size], h.os, h.tape, h.drawn, fun b hb => ?_, fun b hb => ?_⟩
  · unfold World.setCell
    simp only
    rw [Array.getElem?_modify, Array.getElem?_modify, h.same b hb]
  · have := h.pz b hb
    unfold Psn World.setCell at *
    simp only
    rw [Array.getElem?_modify, if_neg (fun e => hn (by rw [e]; exact hb))]; exact this
theorem setCell_other {w : World} {a : Addr} {v : Value} {b : Nat} (h : a.block ≠ b) : (w.setCell a v).heap[b]? = w.heap[b]? := by
  unfold World.setCell
  simp only
  rw [Array.getElem?_modify, if_neg h]
theorem noView_setCell {w : World} (h : NoView w) (a : Addr) (v : Value) : NoView (w.setCell a v) := by
  intro b x hx
  unfold World.setCell at hx
  simp only at hx
  rw [Array.getElem?_modify] at hx
  split at hx
  · cases hh : w.heap[b]? with
    | none => rw [hh] at hx; cases hx
    | some y =>
      rw [hh] at hx
      have := h b y hh
      cases y <;> simp at hx <;> subst hx <;> first | rfl | exact this
  · exact h b x hx

/-- Of what Rd names nothing is a channel. -/
def NoChan (Rd : Nat → Prop) (w : World) : Prop := ∀ (b : Nat) x, Rd b → w.heap[b]? = some x → x.isChan = false
theorem noChan_setCell {Rd : Nat → Prop} {w : World} (h : NoChan Rd w) (a : Addr) (v : Value) : NoChan Rd (w.setCell a v) := by
  intro b x hb hx
  unfold World.setCell at hx
  simp only at hx
  rw [Array.getElem?_modify] at hx
  split at hx
  · cases hh : w.heap[b]? with
    | none => rw [hh] at hx; cases hx
    | some y =>
      rw [hh] at hx
      have := h b y hb hh
      cases y <;> simp at hx <;> subst hx <;> first | rfl | exact this
  · exact h b x hb hx
theorem freeze_size (w : World) (a : Addr) (n : Nat) : (w.freeze a n).heap.size = w.heap.size := by unfold World.freeze; split <;> simp
theorem freeze_at (w : World) (a : Addr) (n b : Nat) : (w.freeze a n).heap[b]? = if n ≠ 0 ∧ a.block = b then (w.heap[b]?).map fun | .cells c elem (lo, hi) => .cells c elem (if lo == hi then (a.off, a.off + n) else (min lo a.off, max hi (a.off + n))) | o => o else w.heap[b]? := by
  unfold World.freeze
  by_cases h0 : n = 0
  · simp [h0]
  · rw [if_neg h0]
    simp only
    rw [Array.getElem?_modify]
    by_cases e : a.block = b
    · rw [if_pos e, if_pos ⟨h0, e⟩]; rfl
    · rw [if_neg e, if_neg (fun x => e x.2)]
theorem freeze_other {w : World} {a : Addr} {n b : Nat} (h : a.block ≠ b) : (w.freeze a n).heap[b]? = w.heap[b]? := by
  rw [freeze_at, if_neg (fun x => h x.2)]
theorem freeze_from {w : World} {a : Addr} {n b : Nat} {x : Obj} (h : (w.freeze a n).heap[b]? = some x) : ∃ y, w.heap[b]? = some y ∧ isView x = isView y ∧ x.isChan = y.isChan := by
  rw [freeze_at] at h
  split at h
  · obtain ⟨y, hy, rfl⟩ := Option.map_eq_some_iff.1 h
    refine ⟨y, hy, ?_⟩
    cases y <;> exact ⟨rfl, rfl⟩
  · exact ⟨x, h, rfl, rfl⟩
theorem noView_freeze {w : World} (h : NoView w) (a : Addr) (n : Nat) : NoView (w.freeze a n) := fun b x hx => by
  obtain ⟨y, hy, e, _⟩ := freeze_from hx
  rw [e]; exact h b y hy
theorem noChan_freeze {Rd : Nat → Prop} {w : World} (h : NoChan Rd w) (a : Addr) (n : Nat) : NoChan Rd (w.freeze a n) := fun b x hb hx => by
  obtain ⟨y, hy, _, e⟩ := freeze_from hx
  rw [e]; exact h b y hb hy
theorem Over.freeze {Pz : Nat → Prop} {w W : World} (h : Over Pz w W) {a : Addr} (n : Nat) (hn : ¬ Pz a.block) : Over Pz (w.freeze a n) (W.freeze a n) := by
  have ho : ∀ w : World, (w.freeze a n).os = w.os ∧ (w.freeze a n).tape = w.tape ∧ (w.freeze a n).drawn = w.drawn ∧ (w.freeze a n).output = w.output := fun w => by unfold World.freeze; split <;> exact ⟨rfl, rfl, rfl, rfl⟩
  obtain ⟨a1, a2, a3, a4⟩ := ho w
  obtain ⟨b1, b2, b3, b4⟩ := ho W
  refine ⟨by rw [freeze_size, freeze_size, h.size], by rw [a1, b1, h.os], by rw [a2, b2, h.tape], by rw [a3, b3, h.drawn], fun b hb => ?_, fun b hb => ?_⟩
  · rw [freeze_at, freeze_at, h.same b hb]
  · have := h.pz b hb
    unfold Psn at *
    rw [freeze_other (fun e => hn (by rw [e]; exact hb))]; exact this
theorem bad_view {o : Obj} (h : isBad o = false) : isView o = false := by unfold isBad at h; simp at h; exact h.1
theorem bad_chan {o : Obj} (h : isBad o = false) : o.isChan = false := by unfold isBad at h; simp at h; exact h.2
theorem plain_ne : (Mode.plain == Mode.atomic) = false := rfl
/-- What it does in the view it does in the world over it. -/
theorem sem_local {α : Type} {P : Program} {Wr Rd Pz : Nat → Prop} (hRd : ∀ b, Rd b → ¬ Pz b) : ∀ (s : Sem α) (w W w' : World) (es : Array Event) (r : α),
    SynR P Wr Rd s w → NoView w → NoChan Rd w → Over Pz w W → (s.runT P w es).1 = .ok r w' →
    ∃ W' new, s.runT P W es = (.ok r W', es ++ new) ∧ (s.runT P w es).2 = es ++ new ∧ Over Pz w' W' ∧ (∀ b, b < W.heap.size → (¬ Wr b ∨ Pz b) → W'.heap[b]? = W.heap[b]?) ∧
      (W.heap.size ≤ W'.heap.size ∧ W'.output = W.output) ∧ NoView w' ∧ ∀ e ∈ new, EvO Wr Pz W'.heap.size e := by
  intro s
  induction s with
  | pure a =>
    intro w W w' es r _ hv hc ho h
    simp only [Sem.runT, Result.ok.injEq] at h
    obtain ⟨rfl, rfl⟩ := h
    exact ⟨W, #[], by simp [Sem.runT], by simp [Sem.runT], ho, fun _ _ _ => rfl, ⟨Nat.le_refl _, rfl⟩, hv, by simp⟩
  | load m a k ih =>
    intro w W w' es r hs hv hq ho h
    obtain ⟨rfl, v, hc, hs⟩ := hs
    obtain ⟨hn, hC⟩ := ho.cell hc
    simp only [Sem.runT, hc, plain_ne] at h
    obtain ⟨W', new, h1, h2, h3, h4, h5, h6, h7⟩ := ih v w W w' _ r hs hv hq ho h
    refine ⟨W', #[⟨.cell a, false, false⟩] ++ new, ?_, ?_, h3, h4, h5, h6, fun e he => ?_⟩
    · simp only [Sem.runT, hC, plain_ne]; rw [h1]; simp
    · simp only [Sem.runT, hc, plain_ne]; rw [h2]; simp
    · rcases Array.mem_append.1 he with he | he
      · obtain rfl : e = _ := by simpa using he
        exact .inl ⟨_, _, false, rfl, .inl ⟨a, rfl, rfl⟩, hn, by simp, by have := World.block_lt_of_cell? W a hC; omega⟩
      · exact h7 e he
  | store m a v k ih =>
    intro w W w' es r hs hv hq ho h
    obtain ⟨rfl, hwr, ⟨u, hc⟩, _, hs⟩ := hs
    cases hc0 : w.cell? a with
    | none => rw [hc0] at hc; cases hc
    | some u0 =>
      obtain ⟨hn, hC⟩ := ho.cell hc
      have hagg : ¬ (∃ cs, v = .agg cs) ∧ ¬ (∃ cs, v = .tuple cs) := by
        constructor
        · rintro ⟨cs, rfl⟩; simp [Sem.runT] at h
        · rintro ⟨cs, rfl⟩; simp [Sem.runT] at h
      have eq : ∀ (w : World), w.cell? a = some u → ∀ es, (Sem.store Mode.plain a v k).runT P w es = if w.frozen? a then (.halt (.unsupported (.unsafePointer "a write to bytes that a string shares")) w, es) else k.runT P (w.setCell a v) (es.push ⟨.cell a, true, false⟩) := by
        intro w hw es
        cases v <;> first | (exact absurd ⟨_, rfl⟩ hagg.1) | (exact absurd ⟨_, rfl⟩ hagg.2) | (simp only [Sem.runT, hw]; rfl)
      rw [eq w hc] at h
      cases hf : w.frozen? a with
      | true => rw [hf] at h; simp at h
      | false =>
        rw [hf] at h
        simp only [Bool.false_eq_true, if_false] at h
        obtain ⟨W', new, h1, h2, h3, h4, h5, h6, h7⟩ := ih (w.setCell a v) (W.setCell a v) w' _ r hs (noView_setCell hv a v) (noChan_setCell hq a v) (ho.setCell v hn) h
        refine ⟨W', #[⟨.cell a, true, false⟩] ++ new, ?_, ?_, h3, fun b hb hx => ?_, by simpa [World.setCell] using h5, h6, fun e he => ?_⟩
        · rw [eq W hC, ho.frozen hn, hf]; simp only [Bool.false_eq_true, if_false]; rw [h1]; simp
        · rw [eq w hc, hf]; simp only [Bool.false_eq_true, if_false]; rw [h2]; simp
        · rw [h4 b (by simpa [World.setCell] using hb) hx]
          exact setCell_other (fun e => by subst e; rcases hx with hx | hx; exact hx hwr; exact hn hx)
        · rcases Array.mem_append.1 he with he | he
          · obtain rfl : e = _ := by simpa using he
            exact .inl ⟨_, _, true, rfl, .inl ⟨a, rfl, rfl⟩, hn, fun _ => hwr, by have := World.block_lt_of_cell? W a hC; simp [World.setCell] at h5; omega⟩
          · exact h7 e he
  | new o k ih =>
    intro w W w' es r hs hv hq ho h
    obtain ⟨hnv, hs⟩ := hs
    simp only [Sem.runT] at h
    have ho' : Over Pz { w with heap := w.heap.push o } { W with heap := W.heap.push o } := by
      refine ⟨by simp [ho.size], ho.os, ho.tape, ho.drawn, fun b hb => ?_, fun b hb => ?_⟩
      · simp only [Array.getElem?_push, ho.size, ho.same b hb]
      · have := ho.pz b hb
        have hlt := (Array.getElem?_eq_some_iff.1 this).1
        unfold Psn at *
        simp only
        rw [Array.getElem?_push, if_neg (by omega)]; exact this
    have hv' : NoView { w with heap := w.heap.push o } := by
      intro b x hx
      simp only at hx
      rw [Array.getElem?_push] at hx
      split at hx
      · cases hx; exact bad_view hnv
      · exact hv b x hx
    have hq' : NoChan Rd { w with heap := w.heap.push o } := by
      intro b x hb hx
      simp only at hx
      rw [Array.getElem?_push] at hx
      split at hx
      · cases hx; exact bad_chan hnv
      · exact hq b x hb hx
    obtain ⟨W', new, h1, h2, h3, h4, h5, h6, h7⟩ := ih w.heap.size _ { W with heap := W.heap.push o } w' _ r hs hv' hq' ho' h
    refine ⟨W', new, ?_, ?_, h3, fun b hb hx => ?_, by simp at h5; exact ⟨by omega, h5.2⟩, h6, h7⟩
    · simp only [Sem.runT]; rw [ho.size]; exact h1
    · simp only [Sem.runT]; exact h2
    · rw [h4 b (by simp; omega) hx]
      simp only
      rw [Array.getElem?_push, if_neg (by omega)]
  | shape b k ih =>
    intro w W w' es r hs hv hq ho h
    obtain ⟨hr, hs⟩ := hs
    simp only [Sem.runT] at h
    obtain ⟨W', new, h1, h2, h3⟩ := ih _ w W w' _ r hs hv hq ho h
    exact ⟨W', new, by simp only [Sem.runT]; rw [ho.shape (hRd _ hr)]; exact h1, by simp only [Sem.runT]; exact h2, h3⟩
  | frozen a k ih =>
    intro w W w' es r hs hv hq ho h
    obtain ⟨hr, hs⟩ := hs
    simp only [Sem.runT] at h
    obtain ⟨W', new, h1, h2, h3⟩ := ih _ w W w' _ r hs hv hq ho h
    exact ⟨W', new, by simp only [Sem.runT]; rw [ho.frozen (hRd _ hr)]; exact h1, by simp only [Sem.runT]; exact h2, h3⟩
  | freeze a n k ih =>
    intro w W w' es r hs hv hq ho h
    obtain ⟨hwr, hr, hs⟩ := hs
    have hn := hRd _ hr
    simp only [Sem.runT] at h
    obtain ⟨W', new, h1, h2, h3, h4, h5, h6, h7⟩ := ih (w.freeze a n) (W.freeze a n) w' _ r hs (noView_freeze hv a n) (noChan_freeze hq a n) (ho.freeze n hn) h
    refine ⟨W', new, by simp only [Sem.runT]; exact h1, by simp only [Sem.runT]; exact h2, h3, fun b hb hx => ?_, by rw [freeze_size] at h5; exact ⟨h5.1, h5.2.trans (by unfold World.freeze; split <;> rfl)⟩, h6, h7⟩
    rw [h4 b (by rw [freeze_size]; exact hb) hx]
    exact freeze_other (fun e => by subst e; rcases hx with hx | hx; exact hx hwr; exact hn hx)
  | getObj b k ih =>
    intro w W w' es r hs hv hq ho h
    obtain ⟨hr, hs⟩ := hs
    have hn := hRd _ hr
    cases hh : w.heap[b]? with
    | none => simp [Sem.run, hh] at h
    | some x =>
      have hH : W.heap[b]? = some x := (ho.same _ hn).trans hh
      have hx := hq _ _ hr hh
      have eq : ∀ (w : World), w.heap[b]? = some x → (∀ c t f, x ≠ .cells c t f) → ∀ es, (Sem.getObj b k).runT P w es = (k x).runT P w (es.push ⟨.obj b, false, false⟩) := by
        intro w hw hne es
        cases x <;> first | exact absurd rfl (hne _ _ _) | (simp only [Sem.runT, hw, hx])
      have hne : ∀ c t f, x ≠ .cells c t f := by rintro c t f rfl; simp [Sem.run, hh] at h
      rw [eq w hh hne] at h
      obtain ⟨W', new, h1, h2, h3, h4, h5, h6, h7⟩ := ih x w W w' _ r (hs x hh hne) hv hq ho h
      refine ⟨W', #[⟨.obj b, false, false⟩] ++ new, ?_, ?_, h3, h4, h5, h6, fun e he => ?_⟩
      · rw [eq W hH hne, h1]; simp
      · rw [eq w hh hne, h2]; simp
      · rcases Array.mem_append.1 he with he | he
        · obtain rfl : e = _ := by simpa using he
          exact .inl ⟨_, b, false, rfl, .inr rfl, hn, by simp, by have := (Array.getElem?_eq_some_iff.1 hH).1; omega⟩
        · exact h7 e he
  | setObj b o k ih =>
    intro w W w' es r hs hv hq ho h
    obtain ⟨hr, hwr, hbad, _, hs⟩ := hs
    have hn := hRd _ hr
    have hoc := bad_chan hbad
    cases hh : w.heap[b]? with
    | none => simp [Sem.run, hh] at h
    | some x =>
      have hH : W.heap[b]? = some x := (ho.same _ hn).trans hh
      have hne : ∀ c t f, x ≠ .cells c t f := by rintro c t f rfl; simp [Sem.run, hh] at h
      have eq : ∀ (w : World), w.heap[b]? = some x → ∀ es, (Sem.setObj b o k).runT P w es = k.runT P { w with heap := w.heap.setIfInBounds b o } (es.push ⟨.obj b, true, false⟩) := by
        intro w hw es
        cases x <;> first | exact absurd rfl (hne _ _ _) | (simp only [Sem.runT, hw, hoc])
      rw [eq w hh] at h
      have hlt := (Array.getElem?_eq_some_iff.1 hh).1
      have ho' : Over Pz { w with heap := w.heap.setIfInBounds b o } { W with heap := W.heap.setIfInBounds b o } := by
        refine ⟨by simp [ho.size], ho.os, ho.tape, ho.drawn, fun c hc => ?_, fun c hc => ?_⟩
        · simp only [Array.getElem?_setIfInBounds, ho.size, ho.same c hc]
        · have := ho.pz c hc
          unfold Psn at *
          simp only
          rw [Array.getElem?_setIfInBounds_ne (fun e => hn (by rw [e]; exact hc))]; exact this
      have hv' : NoView { w with heap := w.heap.setIfInBounds b o } := by
        intro c x hx
        simp only [Array.getElem?_setIfInBounds] at hx
        split at hx
        · cases hx; exact bad_view hbad
        · exact hv c x hx
      have hq' : NoChan Rd { w with heap := w.heap.setIfInBounds b o } := by
        intro c x hc hx
        simp only [Array.getElem?_setIfInBounds] at hx
        split at hx
        · cases hx; exact hoc
        · exact hq c x hc hx
      obtain ⟨W', new, h1, h2, h3, h4, h5, h6, h7⟩ := ih _ { W with heap := W.heap.setIfInBounds b o } w' _ r hs hv' hq' ho' h
      refine ⟨W', #[⟨.obj b, true, false⟩] ++ new, ?_, ?_, h3, fun c hc hx => ?_, by simpa using h5, h6, fun e he => ?_⟩
      · rw [eq W hH, h1]; simp
      · rw [eq w hh, h2]; simp
      · rw [h4 c (by simpa using hc) hx]
        simp only
        rw [Array.getElem?_setIfInBounds_ne (fun e => by subst e; rcases hx with hx | hx; exact hx hwr; exact hn hx)]
      · rcases Array.mem_append.1 he with he | he
        · obtain rfl : e = _ := by simpa using he
          exact .inl ⟨_, b, true, rfl, .inr rfl, hn, fun _ => hwr, by have := (Array.getElem?_eq_some_iff.1 hH).1; simp at h5; omega⟩
        · exact h7 e he
  | choose q k ih =>
    intro w W w' es r hs hv hq ho h
    simp only [Sem.runT] at h
    split at h
    · rename_i hf
      simp only [SynR, hf, if_true] at hs
      obtain ⟨W', new, h1, h2, h3⟩ := ih _ w W w' _ r hs hv hq ho h
      exact ⟨W', new, by simp only [Sem.runT, hf, if_true]; exact h1, by simp only [Sem.runT, hf, if_true]; exact h2, h3⟩
    · rename_i hf
      simp only [SynR, hf, if_false, Bool.false_eq_true] at hs
      have ho' : Over Pz { w with drawn := w.drawn + 1 } { W with drawn := W.drawn + 1 } := ⟨ho.size, ho.os, ho.tape, by simp [ho.drawn], ho.same, ho.pz⟩
      obtain ⟨W', new, h1, h2, h3⟩ := ih _ { w with drawn := w.drawn + 1 } { W with drawn := W.drawn + 1 } w' _ r hs (fun b x hx => hv b x hx) (fun b x hb hx => hq b x hb hx) ho' h
      exact ⟨W', new, by simp only [Sem.runT, hf, if_false, Bool.false_eq_true]; rw [ho.tape, ho.drawn] at *; exact h1, by simp only [Sem.runT, hf, if_false, Bool.false_eq_true]; exact h2, h3⟩
  | sys c k ih => intro w W w' es r hs; exact hs.elim
  | program k ih =>
    intro w W w' es r hs hv hq ho h
    simp only [Sem.runT] at h
    obtain ⟨W', new, h1, h2, h3⟩ := ih P w W w' _ r hs hv hq ho h
    exact ⟨W', new, by simp only [Sem.runT]; exact h1, by simp only [Sem.runT]; exact h2, h3⟩
  | mark m k ih =>
    intro w W w' es r hs hv hq ho h
    obtain ⟨hm, hs⟩ := hs
    simp only [Sem.runT] at h
    obtain ⟨W', new, h1, h2, h3, h4, h5, h6, h7⟩ := ih w W w' _ r hs hv hq ho h
    refine ⟨W', #[⟨.mark m, false, true⟩] ++ new, ?_, ?_, h3, h4, h5, h6, fun e he => ?_⟩
    · simp only [Sem.runT]; rw [h1]; simp
    · simp only [Sem.runT]; rw [h2]; simp
    · rcases Array.mem_append.1 he with he | he
      · obtain rfl : e = _ := by simpa using he
        rcases hm with rfl | ⟨f, rfl⟩
        · exact .inr (.inl rfl)
        · exact .inr (.inr ⟨f, rfl⟩)
      · exact h7 e he
  | halt x =>
    intro w W w' es r _ hv hc ho h
    simp [Sem.runT] at h

theorem synR_of {α : Type} {P : Program} {Wr Rd : Nat → Prop} : ∀ (s : Sem α) (w w' : World) (r : α), Syn P Wr Rd s → NoView w → s.run P w = .ok r w' → SynR P Wr Rd s w := by
  intro s
  induction s with
  | pure a => exact fun _ _ _ _ _ _ => trivial
  | load m a k ih =>
    intro w w' r hs hv h
    obtain ⟨rfl, hs⟩ := hs
    cases hc : w.cell? a with
    | none =>
      have hfl : ∀ x, w.farLoad P a false ≠ .ok x := by
        intro x hx
        unfold World.farLoad at hx
        split at hx
        · rename_i at_ u hh; have := hv _ _ hh; cases this
        · cases hx
      simp only [Sem.run, hc, plain_ne] at h
      split at h
      · rename_i v t hh; exact absurd hh (hfl _)
      · cases h
    | some v =>
      simp only [Sem.run, hc] at h
      exact ⟨rfl, v, hc, ih v w w' r (hs v) hv h⟩
  | store m a v k ih =>
    intro w w' r hs hv h
    obtain ⟨rfl, hwr, hs⟩ := hs
    cases hc : w.cell? a with
    | none =>
      have hfl : ∀ x, w.farStore P a v false ≠ .ok x := by
        intro x hx
        unfold World.farStore at hx
        split at hx
        · rename_i at_ u hh; have := hv _ _ hh; cases this
        · cases hx
      cases v <;> simp only [Sem.run, hc, plain_ne] at h <;> first
        | (cases h; done)
        | (split at h <;> first | (rename_i hh; exact absurd hh (hfl _)) | (cases h; done))
    | some u =>
      have hk : (∀ cs, v ≠ .agg cs) ∧ (∀ cs, v ≠ .tuple cs) ∧ w.frozen? a = false ∧ k.run P (w.setCell a v) = .ok r w' := by
        cases hf : w.frozen? a <;> cases v <;> simp only [Sem.run, hc, hf] at h <;> first
          | (cases h; done)
          | exact ⟨fun _ e => (by cases e), fun _ e => (by cases e), rfl, h⟩
      exact ⟨rfl, hwr, ⟨u, hc⟩, ⟨hk.1, hk.2.1, hk.2.2.1⟩, ih _ w' r hs (noView_setCell hv a v) hk.2.2.2⟩
  | new o k ih =>
    intro w w' r hs hv h
    simp only [Sem.run] at h
    refine ⟨hs.1, ih _ _ w' r (hs.2 _) ?_ h⟩
    intro b x hx
    simp only at hx
    rw [Array.getElem?_push] at hx
    split at hx
    · cases hx; exact bad_view hs.1
    · exact hv b x hx
  | shape b k ih =>
    intro w w' r hs hv h
    rcases hs with hs | hd
    · simp only [Sem.run] at h
      exact ⟨hs.1, ih _ w w' r (hs.2 _) hv h⟩
    · exact absurd h (hd _ _ _)
  | frozen a k ih =>
    intro w w' r hs hv h
    simp only [Sem.run] at h
    exact ⟨hs.1, ih _ w w' r (hs.2 _) hv h⟩
  | freeze a n k ih =>
    intro w w' r hs hv h
    simp only [Sem.run] at h
    exact ⟨hs.1, hs.2.1, ih _ w' r hs.2.2 (noView_freeze hv a n) h⟩
  | getObj b k ih =>
    intro w w' r hs hv h
    refine ⟨hs.1, fun o ho hne => ih o w w' r (hs.2 o) hv ?_⟩
    cases o <;> simp only [Sem.run, ho] at h <;> first | exact h | (cases h; done)
  | setObj b o k ih =>
    intro w w' r hs hv h
    cases hh : w.heap[b]? with
    | none => simp only [Sem.run, hh] at h; cases h
    | some x =>
      refine ⟨hs.1, hs.2.1, hs.2.2.1, ⟨x, hh, by rintro c t z rfl; simp only [Sem.run, hh] at h; cases h⟩, ?_⟩
      have hk : k.run P { w with heap := w.heap.setIfInBounds b o } = .ok r w' := by
        cases x <;> simp only [Sem.run, hh] at h <;> first | exact h | (cases h; done)
      refine ih _ w' r hs.2.2.2 ?_ hk
      intro c x hx
      simp only [Array.getElem?_setIfInBounds] at hx
      split at hx
      · have hlt := (Array.getElem?_eq_some_iff.1 hh).1
        first | (cases hx; exact bad_view hs.2.2.1) | (rw [if_pos hlt] at hx; cases hx; exact bad_view hs.2.2.1)
      · exact hv c x hx
  | choose q k ih =>
    intro w w' r hs hv h
    simp only [Sem.run] at h
    unfold SynR
    split
    · rename_i hf; rw [if_pos hf] at h; exact ih _ w w' r (hs _) hv h
    · rename_i hf; rw [if_neg hf] at h; exact ih _ _ w' r (hs _) (fun b x hx => hv b x hx) h
  | sys c k ih => intro w w' r hs; exact hs.elim
  | program k ih => intro w w' r hs hv h; simp only [Sem.run] at h; exact ih P w w' r hs hv h
  | mark m k ih => intro w w' r hs hv h; simp only [Sem.run] at h; exact ⟨hs.1, ih w w' r hs.2 hv h⟩
  | halt x => exact fun _ _ _ _ _ _ => trivial

theorem sem_keep {α : Type} {P : Program} {Wr Rd : Nat → Prop} : ∀ (s : Sem α) (w w' : World) (r : α), SynR P Wr Rd s w → s.run P w = .ok r w' → w'.os = w.os ∧ w'.tape = w.tape ∧ w'.output = w.output := by
  intro s
  induction s with
  | pure a => intro w w' r _ h; simp only [Sem.run, Result.ok.injEq] at h; obtain ⟨_, rfl⟩ := h; exact ⟨rfl, rfl, rfl⟩
  | load m a k ih => intro w w' r hs h; obtain ⟨_, v, hc, hs⟩ := hs; rw [Sem.run, hc] at h; exact ih v w w' r hs h
  | store m a v k ih =>
    intro w w' r hs h
    obtain ⟨_, _, ⟨u, hc⟩, ⟨h4, h5, h6⟩, hs⟩ := hs
    have hk : k.run P (w.setCell a v) = .ok r w' := by
      cases v <;> first | exact absurd rfl (h4 _) | exact absurd rfl (h5 _) | (simp only [Sem.run, hc, h6] at h; exact h)
    have := ih _ w' r hs hk; exact this
  | new o k ih => intro w w' r hs h; rw [Sem.run] at h; have := ih _ _ w' r hs.2 h; exact this
  | shape b k ih => intro w w' r hs h; rw [Sem.run] at h; exact ih _ w w' r hs.2 h
  | frozen a k ih => intro w w' r hs h; rw [Sem.run] at h; exact ih _ w w' r hs.2 h
  | freeze a n k ih =>
    intro w w' r hs h
    rw [Sem.run] at h
    have := ih _ w' r hs.2.2 h
    have e : (w.freeze a n).os = w.os ∧ (w.freeze a n).tape = w.tape ∧ (w.freeze a n).output = w.output := by unfold World.freeze; split <;> exact ⟨rfl, rfl, rfl⟩
    exact ⟨this.1.trans e.1, this.2.1.trans e.2.1, this.2.2.trans e.2.2⟩
  | getObj b k ih =>
    intro w w' r hs h
    cases hh : w.heap[b]? with
    | none => simp [Sem.run, hh] at h
    | some x =>
      have hne : ∀ c t z, x ≠ .cells c t z := by rintro c t z rfl; simp [Sem.run, hh] at h
      refine ih x w w' r (hs.2 x hh hne) ?_
      cases x <;> first | exact absurd rfl (hne _ _ _) | (simp only [Sem.run, hh] at h; exact h)
  | setObj b o k ih =>
    intro w w' r hs h
    obtain ⟨_, _, _, ⟨x, hh, hne⟩, hs⟩ := hs
    have hk : k.run P { w with heap := w.heap.setIfInBounds b o } = .ok r w' := by
      cases x <;> first | exact absurd rfl (hne _ _ _) | (simp only [Sem.run, hh] at h; exact h)
    have := ih _ w' r hs hk; exact this
  | choose q k ih =>
    intro w w' r hs h
    rw [Sem.run] at h
    unfold SynR at hs
    split at hs
    · rename_i hf; rw [if_pos hf] at h; exact ih _ w w' r hs h
    · rename_i hf; rw [if_neg hf] at h; have := ih _ _ w' r hs h; exact this
  | sys c k ih => intro w w' r hs; exact hs.elim
  | program k ih => intro w w' r hs h; rw [Sem.run] at h; exact ih P w w' r hs h
  | mark m k ih => intro w w' r hs h; rw [Sem.run] at h; exact ih w w' r hs.2 h
  | halt x => intro w w' r _ h; simp [Sem.run] at h

/-! ### Steps of our own -/
def EvM (B : Nat) (Pz : Nat → Prop) (hi : Nat) (e : Event) : Prop :=
  (∃ l b wr, e = ⟨l, wr, false⟩ ∧ ((∃ a, l = .cell a ∧ a.block = b) ∨ l = .obj b) ∧ ¬ Pz b ∧ (wr = true → B ≤ b) ∧ b < hi) ∨ e = ⟨.mark .noRoom, false, true⟩

theorem seen_no_extern {P : Program} {fn : FuncId} {es : Array Event} {e : Event} (h : e ∈ seen P fn es) : ∀ f, e.loc ≠ .mark (.extern f) := by
  rw [seen_def] at h
  have key : ∀ (l : List Event) (q : Bool) (kept : Array Event), (∀ e ∈ kept, ∀ f, e.loc ≠ .mark (.extern f)) →
      ∀ e ∈ (l.foldl (seenStep fun f => (P.funcs[f]?).any (·.norace)) (q, kept)).2, ∀ f, e.loc ≠ .mark (.extern f) := by
    intro l
    induction l with
    | nil => exact fun q kept h => h
    | cons a l ih =>
      intro q kept hk
      simp only [List.foldl_cons, seenStep]
      split
      · exact ih _ _ hk
      · rename_i hne
        refine ih _ _ ?_
        split
        · exact hk
        · intro e he
          rcases Array.mem_push.1 he with he | rfl
          · exact hk e he
          · exact fun f hf => hne f hf
  exact key _ _ _ (by simp) e h

/-- The step is the same in every world over the view; it writes no block below B. -/
def Tr (P : Program) (main : Bool) (B : Nat) (g : Goroutine) (w : World) (g' : Goroutine) (w' : World) (es : Array Event) : Prop :=
  (w'.os = w.os ∧ w'.tape = w.tape ∧ w'.output = w.output) ∧ ∀ W, Over (Psn w) w W → ∃ W', stepG P main g W = .go g' W' es ∧ Over (Psn w) w' W' ∧ (∀ b, b < W.heap.size → (b < B ∨ Psn w b) → W'.heap[b]? = W.heap[b]?) ∧
    (W.heap.size ≤ W'.heap.size ∧ W'.output = W.output) ∧ ∀ e ∈ es, EvM B (Psn w) W'.heap.size e

theorem Tr.idle {P : Program} {main : Bool} {B : Nat} {g g' : Goroutine} {w : World} (h : ∀ w, stepG P main g w = .go g' w #[]) : Tr P main B g w g' w #[] :=
  ⟨⟨rfl, rfl, rfl⟩, fun W hW => ⟨W, h W, hW, fun _ _ _ => rfl, ⟨Nat.le_refl _, rfl⟩, by simp⟩⟩
theorem Tr.mono {P : Program} {main : Bool} {B B' : Nat} {g g' : Goroutine} {w w' : World} {es : Array Event} (h : Tr P main B g w g' w' es) (hB : B' ≤ B) : Tr P main B' g w g' w' es := by
  refine ⟨h.1, fun W hW => ?_⟩
  obtain ⟨W', h1, h2, h3, h4, h5⟩ := h.2 W hW
  refine ⟨W', h1, h2, fun b hb hx => h3 b hb (hx.imp (fun x => by omega) id), h4, fun e he => ?_⟩
  rcases h5 e he with ⟨l, b, wr, rfl, p0, p1, p2, p3⟩ | rfl
  · exact .inl ⟨l, b, wr, rfl, p0, p1, fun x => by have := p2 x; omega, p3⟩
  · exact .inr rfl

/-- The acts of a protocol: what goroutine g may do in view w, and what K asks of it behind the act. -/
abbrev Acs := Bool → Goroutine → World → (Goroutine → World → Prop) → Prop
def noAct : Acs := fun _ _ _ _ => False
def Acs.le (A A' : Acs) : Prop := ∀ main g w K, A main g w K → A' main g w K
theorem noAct_le (A : Acs) : noAct.le A := fun _ _ _ _ h => h.elim
theorem Acs.le_refl (A : Acs) : A.le A := fun _ _ _ _ h => h
theorem Acs.le_trans {A A' A'' : Acs} (h : A.le A') (k : A'.le A'') : A.le A'' := fun m g w K x => k m g w K (h m g w K x)

/-- On the way to Z, by steps of our own; ahead of each the others may have pushed blocks. No count. -/
inductive Run1 (P : Program) (main : Bool) (B : Nat) (Ac : Acs) (Z : Goroutine → World → Prop) : Goroutine → World → Prop
  | stop {g : Goroutine} {w : World} : (∀ w1, Push w w1 → Z g w1) → Run1 P main B Ac Z g w
  | step {g : Goroutine} {w : World} (g' : World → Goroutine) (w' : World → World) (es : World → Array Event) : g.status = .running →
      (∀ w1, Push w w1 → NoView w1 → Tr P main B g w1 (g' w1) (w' w1) (es w1) ∧ NoView (w' w1)) →
      (∀ w1, Push w w1 → NoView w1 → Run1 P main B Ac Z (g' w1) (w' w1)) → Run1 P main B Ac Z g w
  | act {g : Goroutine} {w : World} (K : World → Goroutine → World → Prop) : g.status = .running → (∀ w1, Push w w1 → NoView w1 → Ac main g w1 (K w1)) →
      (∀ w1, Push w w1 → NoView w1 → ∀ g' w', K w1 g' w' → Run1 P main B Ac Z g' w') → Run1 P main B Ac Z g w

section
variable {P : Program} {main : Bool} {B : Nat} {Ac : Acs} {Z : Goroutine → World → Prop}

theorem Run1.mk {g : Goroutine} {w : World} (hs : g.status = .running)
    (h : ∀ w1, Push w w1 → NoView w1 → ∃ g' w' es, Tr P main B g w1 g' w' es ∧ NoView w' ∧ Run1 P main B Ac Z g' w') : Run1 P main B Ac Z g w := by
  have h' : ∀ w1, ∃ x : Goroutine × World × Array Event, Push w w1 → NoView w1 → (Tr P main B g w1 x.1 x.2.1 x.2.2 ∧ NoView x.2.1) ∧ Run1 P main B Ac Z x.1 x.2.1 := by
    intro w1
    by_cases hp : Push w w1 ∧ NoView w1
    · obtain ⟨g', w', es, a, b, c⟩ := h w1 hp.1 hp.2
      exact ⟨⟨g', w', es⟩, fun _ _ => ⟨⟨a, b⟩, c⟩⟩
    · exact ⟨⟨g, w, #[]⟩, fun p q => (hp ⟨p, q⟩).elim⟩
  exact .step (fun w1 => (h' w1).choose.1) (fun w1 => (h' w1).choose.2.1) (fun w1 => (h' w1).choose.2.2) hs
    (fun w1 p q => ((h' w1).choose_spec p q).1) (fun w1 p q => ((h' w1).choose_spec p q).2)

theorem Run1.push {g : Goroutine} {w w1 : World} (h : Run1 P main B Ac Z g w) (hp : Push w w1) : Run1 P main B Ac Z g w1 := by
  cases h with
  | stop h => exact .stop fun w2 h2 => h w2 (hp.trans h2)
  | step g' w' es hs h1 h2 => exact .step g' w' es hs (fun w2 k2 => h1 w2 (hp.trans k2)) (fun w2 k2 => h2 w2 (hp.trans k2))
  | act K hs h1 h2 => exact .act K hs (fun w2 k2 => h1 w2 (hp.trans k2)) (fun w2 k2 => h2 w2 (hp.trans k2))

theorem Run1.bind {Z' : Goroutine → World → Prop} {g : Goroutine} {w : World} (h : Run1 P main B Ac Z g w) (hz : ∀ g w, Z g w → Run1 P main B Ac Z' g w) : Run1 P main B Ac Z' g w := by
  induction h with
  | stop h => exact hz _ _ (h _ (Push.refl _))
  | step g' w' es hs h1 h2 ih => exact .step g' w' es hs h1 ih
  | act K hs h1 h2 ih => exact .act K hs h1 ih

theorem Run1.mono {B' : Nat} {g : Goroutine} {w : World} (h : Run1 P main B Ac Z g w) (hB : B' ≤ B) : Run1 P main B' Ac Z g w := by
  induction h with
  | stop h => exact .stop h
  | step g' w' es hs h1 h2 ih => exact .step g' w' es hs (fun w1 p q => ⟨(h1 w1 p q).1.mono hB, (h1 w1 p q).2⟩) ih
  | act K hs h1 h2 ih => exact .act K hs h1 ih
theorem Run1.acts {Ac' : Acs} {g : Goroutine} {w : World} (h : Run1 P main B Ac Z g w) (hA : Ac.le Ac') : Run1 P main B Ac' Z g w := by
  induction h with
  | stop h => exact .stop h
  | step g' w' es hs h1 h2 ih => exact .step g' w' es hs h1 ih
  | act K hs h1 h2 ih => exact .act K hs (fun w1 p q => hA _ _ _ _ (h1 w1 p q)) ih

/-- A move of control. -/
theorem Run1.idle {g g' : Goroutine} {w : World} (hs : g.status = .running) (hstep : ∀ w, stepG P main g w = .go g' w #[]) (h : Run1 P main B Ac Z g' w) : Run1 P main B Ac Z g w :=
  .mk hs fun w1 p q => ⟨g', w1, #[], .idle hstep, q, h.push p⟩
end

/-! ### Pieces of code -/
def Aft (P : Program) (main : Bool) (B : Nat) (Ac : Acs) (Z : Goroutine → World → Prop) (b : Frame) (k : List Item) (cs : List Frame) : Exit → Act → World → Prop
  | .normal, a, w => Run1 P main B Ac Z (G (b.at a k) cs) w
  | .exit id, a, w => ∃ k', exitTo id k = some k' ∧ Run1 P main B Ac Z (G (b.at a k') cs) w
  | .ret, a, w => ∀ todo, Run1 P main B Ac Z (G { b.at a todo with mode := .returning } cs) w
  | _, _, _ => False

theorem Aft.pass {P : Program} {main : Bool} {B : Nat} {Ac : Acs} {Z : Goroutine → World → Prop} {b : Frame} {x : Item} {k : List Item} {cs : List Frame} {e : Exit} {a : Act} {w : World} (hx : x.plain = true) (he : e ≠ .normal)
    (h : Aft P main B Ac Z b k cs e a w) : Aft P main B Ac Z b (x :: k) cs e a w := by
  cases e with
  | normal => exact absurd rfl he
  | exit id => obtain ⟨k', hk, hg⟩ := h; exact ⟨k', by cases x <;> simp_all [exitTo, Item.plain], hg⟩
  | ret => exact h
  | goto l => exact h
  | panic ch => exact h
  | outgrown => exact h

end Go.Tx
namespace Go
open Go.Conc Go.RowKit Go.Tx in
def Code.wpV (P : Program) (B : Nat) (A : Acs) (c : Code) (Q : Exit → Act → World → Prop) (a : Act) (w : World) : Prop :=
  ∀ (main : Bool) (Ac : Acs), A.le Ac → ∀ (b : Frame) (k : List Item) (cs : List Frame) (Z : Goroutine → World → Prop), b.kind ≠ .early →
    (∀ e a' w', Q e a' w' → Aft P main B Ac Z b k cs e a' w') → Run1 P main B Ac Z (G (b.at a (.code c :: k)) cs) w
end Go
namespace Go.Tx
open Go.Conc Go.RowKit
def OpsS (P : Program) (B : Nat) (A : Acs) (ops : Array Oper) (todo : List Nat) (Q : Exit → Act → World → Prop) (a : Act) (w : World) : Prop :=
  ∀ (main : Bool) (Ac : Acs), A.le Ac → ∀ (b : Frame) (k : List Item) (cs : List Frame) (Z : Goroutine → World → Prop), b.kind ≠ .early →
    (∀ e a' w', Q e a' w' → Aft P main B Ac Z b k cs e a' w') → Run1 P main B Ac Z (G (b.at a (.inRegion ops todo :: k)) cs) w

section
variable {P : Program} {B : Nat} {A : Acs} {Q : Exit → Act → World → Prop} {a : Act} {w : World}

theorem wpV_mono {c : Code} {Q' : Exit → Act → World → Prop} (h : c.wpV P B A Q a w) (hq : ∀ e a w, Q e a w → Q' e a w) : c.wpV P B A Q' a w :=
  fun main Ac hA b k cs Z hk hc => h main Ac hA b k cs Z hk fun e a' w' q => hc e a' w' (hq e a' w' q)
theorem wpV_skip (h : Q .normal a w) : Code.skip.wpV P B A Q a w := fun _ _ _ _ _ _ _ _ hc => .idle rfl (fun _ => stepG_skip) (hc _ _ _ h)
theorem wpV_label {l : Nat} (h : Q .normal a w) : (Code.label l).wpV P B A Q a w := fun _ _ _ _ _ _ _ _ hc => .idle rfl (fun _ => stepG_label) (hc _ _ _ h)
theorem wpV_ret (h : Q .ret a w) : Code.ret.wpV P B A Q a w := fun _ _ _ _ _ _ _ _ hc => .idle rfl (fun _ => stepG_ret') (hc _ _ _ h _)
theorem wpV_exit {id : Nat} (h : Q (.exit id) a w) : (Code.exit id).wpV P B A Q a w := fun main Ac hA b k cs Z hk hc => by
  obtain ⟨k', hk', hg⟩ := hc _ _ _ h
  exact .idle rfl (fun _ => stepG_exit hk') hg
theorem wpV_seq {x y : Code} (h : x.wpV P B A (Exit.then (y.wpV P B A Q) Q) a w) : (Code.seq x y).wpV P B A Q a w := by
  intro main Ac hA b k cs Z hk hc
  refine .idle rfl (fun _ => stepG_seq) (h main Ac hA b (.code y :: k) cs Z hk fun e a' w' q => ?_)
  cases e with
  | normal => exact q main Ac hA b k cs Z hk hc
  | exit id => exact (hc _ _ _ q).pass rfl (by simp)
  | ret => exact (hc _ _ _ q).pass (x := .code y) rfl (by simp)
  | goto l => exact hc _ _ _ q
  | panic ch => exact hc _ _ _ q
  | outgrown => exact hc _ _ _ q
theorem wpV_cond {c : Operand} {x y : Code} {t : Bool} (hc : a.eval c = .bool t) (h : (if t then x else y).wpV P B A Q a w) : (Code.cond c x y).wpV P B A Q a w :=
  fun main Ac hA b k cs Z hk hq => .idle rfl (fun _ => stepG_cond hc) (h main Ac hA b k cs Z hk hq)
theorem wpV_cond_true {c : Operand} {x y : Code} (hc : a.eval c = .bool true) (h : x.wpV P B A Q a w) : (Code.cond c x y).wpV P B A Q a w := wpV_cond hc h
theorem wpV_cond_false {c : Operand} {x y : Code} (hc : a.eval c = .bool false) (h : y.wpV P B A Q a w) : (Code.cond c x y).wpV P B A Q a w := wpV_cond hc h
theorem wpV_cond_split {c : Operand} {x y : Code} {t : Bool} (hc : a.eval c = .bool t) (ht : t = true → x.wpV P B A Q a w) (hf : t = false → y.wpV P B A Q a w) : (Code.cond c x y).wpV P B A Q a w := by
  cases t
  · exact wpV_cond hc (hf rfl)
  · exact wpV_cond hc (ht rfl)
theorem wpV_block {id : Nat} {c : Code} (h : c.wpV P B A (Exit.inBlock id Q) a w) : (Code.block id c).wpV P B A Q a w := by
  intro main Ac hA b k cs Z hk hc
  refine .idle rfl (fun _ => stepG_block) (h main Ac hA b (.inBlock id :: k) cs Z hk fun e a' w' q => ?_)
  cases e with
  | normal => exact .idle rfl (fun _ => stepG_inBlock) (hc _ _ _ q)
  | exit id' =>
    by_cases hid : id' = id
    · simp only [Exit.inBlock, hid, if_true] at q
      exact ⟨k, by simp [exitTo, hid], hc _ _ _ q⟩
    · simp only [Exit.inBlock, hid, if_false] at q
      obtain ⟨k', hk', hg⟩ := hc _ _ _ q
      have : (id == id') = false := by simp; exact fun h => hid h.symm
      exact ⟨k', by simp [exitTo, this, hk'], hg⟩
  | ret => exact hc _ _ _ q
  | goto l => exact hc _ _ _ q
  | panic ch => exact hc _ _ _ q
  | outgrown => exact hc _ _ _ q
theorem wpV_loop_rel {c : Code} {σ : Type} (R : σ → Act → World → Prop) (μ : σ → Nat) (s0 : σ) (h₀ : R s0 a w)
    (round : ∀ s a w, R s a w → c.wpV P B A (Exit.then (fun a' w' => ∃ s', R s' a' w' ∧ μ s' < μ s) Q) a w) : (Code.loop c).wpV P B A Q a w := by
  intro main Ac hA b k cs Z hk hc
  have key : ∀ n s a w, μ s = n → R s a w → Run1 P main B Ac Z (G (b.at a (.code c :: .inLoop c :: k)) cs) w := by
    intro n
    induction n using Nat.strongRecOn with
    | _ n ih =>
      intro s a w hn hI
      refine round s a w hI main Ac hA b (.inLoop c :: k) cs Z hk fun e a' w' q => ?_
      cases e with
      | normal =>
        obtain ⟨s', hI', hlt⟩ := q
        exact .idle rfl (fun _ => stepG_inLoop) (ih (μ s') (hn ▸ hlt) s' a' w' rfl hI')
      | exit id => exact (hc _ _ _ q).pass rfl (by simp)
      | ret => exact (hc _ _ _ q).pass (x := .inLoop c) rfl (by simp)
      | goto l => exact hc _ _ _ q
      | panic ch => exact hc _ _ _ q
      | outgrown => exact hc _ _ _ q
  exact .idle rfl (fun _ => stepG_loop) (key _ s0 a w rfl h₀)

/-! ### Operations -/
/-- The operation comes to this in the view, and keeps to what it is given. -/
def OpR (P : Program) (B : Nat) (s : Sem Next) (w1 : World) (x : Next) (w' : World) : Prop :=
  s.run P w1 = .ok x w' ∧ ∃ Wr Rd, (NoView w1 → SynR P Wr Rd s w1) ∧ (∀ b, Wr b → B ≤ b) ∧ (∀ b, Rd b → ¬ Psn w1 b) ∧ NoChan Rd w1

theorem OpR.loc {s : Sem Next} {w1 w' : World} {x : Next} (h : OpR P B s w1 x w') (hv : NoView w1) :
    (NoView w' ∧ w'.os = w1.os ∧ w'.tape = w1.tape ∧ w'.output = w1.output) ∧ ∃ es, (∀ e ∈ es, EvO (fun b => B ≤ b) (Psn w1) w'.heap.size e) ∧ ∀ W, Over (Psn w1) w1 W → ∃ W', s.run P W = .ok x W' ∧ s.events P W #[] = es ∧ Over (Psn w1) w' W' ∧
      (∀ b, b < W.heap.size → (b < B ∨ Psn w1 b) → W'.heap[b]? = W.heap[b]?) ∧ (W.heap.size ≤ W'.heap.size ∧ W'.output = W.output) := by
  obtain ⟨hr, Wr, Rd, hs, hW, hR, hC⟩ := h
  have hself : Over (Psn w1) w1 w1 := ⟨rfl, rfl, rfl, rfl, fun _ _ => rfl, fun _ h => h⟩
  have hr' : (s.runT P w1 #[]).1 = .ok x w' := by rw [Sem.runT_eq]; exact hr
  obtain ⟨_, new, _, h2, hov, _, _, h6, h7⟩ := sem_local hR s w1 w1 w' #[] x (hs hv) hv hC hself hr'
  refine ⟨⟨h6, sem_keep s w1 w' x (hs hv) hr⟩, new, fun e he => ?_, fun W hW' => ?_⟩
  · rcases h7 e he with ⟨l, b, wr, p1, p0, p2, p3, p4⟩ | h
    · exact .inl ⟨l, b, wr, p1, p0, p2, fun q => hW _ (p3 q), by have := hov.size; omega⟩
    · exact .inr h
  · obtain ⟨W', new', k1, k2, k3, k4, k5, _, _⟩ := sem_local hR s w1 W w' #[] x (hs hv) hv hC hW' hr'
    have e : new' = new := by
      have := k2.symm.trans h2
      simpa using this
    subst e
    refine ⟨W', ?_, ?_, k3, fun b hb hx => k4 b hb (hx.imp (fun hb hw => by have := hW b hw; omega) id), k5⟩
    · have := congrArg Prod.fst k1; rw [Sem.runT_eq] at this; exact this
    · unfold Sem.events; rw [k1]; simp

theorem evM_seen {fn : FuncId} {es : Array Event} {Pz : Nat → Prop} {hi hi' : Nat} (h : ∀ e ∈ es, EvO (fun b => B ≤ b) Pz hi e) (hh : hi' = hi) : ∀ e ∈ seen P fn es, EvM B Pz hi' e := by
  subst hh
  intro e he
  rcases h e (mem_seen he) with ⟨l, b, wr, p1, p2, p3, p4, p5⟩ | h | ⟨f, rfl⟩
  · exact .inl ⟨l, b, wr, p1, p2, p3, p4, p5⟩
  · exact .inr h
  · exact absurd rfl (seen_no_extern he f)

/-- A call, up to the callee's way out. -/
def CallsS (P : Program) (B : Nat) (A : Acs) (f : FuncId) (args : Array Value) (w : World) (R : Ending → World → Prop) : Prop :=
  ∀ (main : Bool) (Ac : Acs), A.le Ac → ∀ (cs : List Frame) (Z : Goroutine → World → Prop),
    (∀ v w' fr fn, R (.returned v) w' → fr.mode = .returning → fr.defers = [] → fr.kind = .normal → P.funcs[fr.fn]? = some fn →
      (∀ w1, Push w' w1 → (results fn fr.tmps).run P w1 = .ok v w1) → Syn P (fun _ => False) (fun _ => False) (results fn fr.tmps) → Run1 P main B Ac Z (G fr cs) w') →
    Run1 P main B Ac Z (G (Frame.enter P f args .normal) cs) w

theorem CallsS.mono {f : FuncId} {args : Array Value} {R R' : Ending → World → Prop} (h : CallsS P B A f args w R) (hr : ∀ e w', R e w' → R' e w') : CallsS P B A f args w R' :=
  fun main Ac hA cs Z hz => h main Ac hA cs Z fun v w' fr fn q => hz v w' fr fn (hr _ _ q)

theorem CallsS.lower {B' : Nat} {f : FuncId} {args : Array Value} {R : Ending → World → Prop} (h : CallsS P B A f args w R) (hB : B' ≤ B) : CallsS P B' A f args w R := by
  intro main Ac hA cs Z hz
  have := (h main Ac hA cs (fun g w' => ∃ v fr fn, g = G fr cs ∧ R (.returned v) w' ∧ fr.mode = .returning ∧ fr.defers = [] ∧ fr.kind = .normal ∧ P.funcs[fr.fn]? = some fn ∧
      (∀ w1, Push w' w1 → (results fn fr.tmps).run P w1 = .ok v w1) ∧ Syn P (fun _ => False) (fun _ => False) (results fn fr.tmps) ∨ Run1 P main B' Ac Z g w') fun v w' fr fn q1 q2 q3 q4 q5 q6 q7 => ?_).mono hB
  · refine this.bind fun g w' hx => ?_
    rcases hx with ⟨v, fr, fn, h1 | h1⟩
    · obtain ⟨rfl, q1, q2, q3, q4, q5, q6, q7⟩ := h1
      exact hz v w' fr fn q1 q2 q3 q4 q5 q6 q7
    · exact h1
  · refine .stop fun w1 p => ⟨v, fr, fn, .inr ?_⟩
    exact (hz v w' fr fn q1 q2 q3 q4 q5 q6 q7).push p

theorem CallsS.up {A' : Acs} {f : FuncId} {args : Array Value} {R : Ending → World → Prop} (h : CallsS P B A f args w R) (hA : A.le A') : CallsS P B A' f args w R :=
  fun main Ac hA' cs Z hz => h main Ac (Acs.le_trans hA hA') cs Z hz
end
end Go.Tx
namespace Go
open Go.Conc Go.RowKit Go.Tx in
/-- What an operation is to come to. -/
def Oper.wpV (P : Program) (B : Nat) (A : Acs) (o : Oper) (a : Act) (w : World) (next : Act → World → Prop) : Prop :=
  (∀ w1, Push w w1 → NoView w1 →
    (∃ v w', OpR P B (execOp a.eval o) w1 (.value v) w' ∧ next (a.put o.dst v) w') ∨
    (∃ w', OpR P B (execOp a.eval o) w1 .skip w' ∧ next (a.put o.dst undef) w') ∨
    (∃ f args w', OpR P B (execOp a.eval o) w1 (.enter f args) w' ∧ CallsS P B A f args w' fun e w'' => ∃ v, e = .returned v ∧ next (a.put o.dst v) w'')) ∨
  (∀ (main : Bool) (Ac : Acs), A.le Ac → ∀ (b : Frame) (ops : Array Oper) (i : Nat) (rest : List Nat) (k : List Item) (cs : List Frame) (Z : Goroutine → World → Prop), b.kind ≠ .early → ops[i]? = some o →
    Region.wanted o (yielded ops a.tmps) = true → (∀ a' w', next a' w' → Run1 P main B Ac Z (G (b.at a' (.inRegion ops rest :: k)) cs) w') → Run1 P main B Ac Z (G (b.at a (.inRegion ops (i :: rest) :: k)) cs) w)
end Go
namespace Go.Tx
open Go.Conc Go.RowKit
section
variable {P : Program} {B : Nat} {A : Acs} {Q : Exit → Act → World → Prop} {a : Act} {w : World}
theorem Oper.wpV_mono {o : Oper} {K K' : Act → World → Prop} (h : ∀ a w, K a w → K' a w) (hh : o.wpV P B A a w K) : o.wpV P B A a w K' := by
  rcases hh with hh | hh
  · refine .inl fun w1 p q => ?_
    rcases hh w1 p q with ⟨v, w', h1, h2⟩ | ⟨w', h1, h2⟩ | ⟨f, args, w', h1, h2⟩
    · exact .inl ⟨v, w', h1, h _ _ h2⟩
    · exact .inr (.inl ⟨w', h1, h _ _ h2⟩)
    · exact .inr (.inr ⟨f, args, w', h1, h2.mono fun e w'' ⟨v, e1, e2⟩ => ⟨v, e1, h _ _ e2⟩⟩)
  · exact .inr fun main Ac hA b ops i rest k cs Z h1 h2 h3 hn => hh main Ac hA b ops i rest k cs Z h1 h2 h3 fun a' w' q => hn a' w' (h _ _ q)

theorem opsS_nil {ops : Array Oper} (h : Q .normal a w) : OpsS P B A ops [] Q a w := fun _ _ _ _ _ _ _ _ hc => .idle rfl (fun _ => stepG_region_end) (hc _ _ _ h)

theorem opsS_unwanted {ops : Array Oper} {i : Nat} {rest : List Nat} {o : Oper} (ho : ops[i]? = some o) (hw : Region.wanted o (yielded ops a.tmps) = false)
    (h : OpsS P B A ops rest Q (a.put o.dst undef) w) : OpsS P B A ops (i :: rest) Q a w :=
  fun main Ac hA b k cs Z hk hc => .idle rfl (fun _ => stepG_unwanted ho hw) (h main Ac hA b k cs Z hk hc)

theorem opsS_cons {ops : Array Oper} {i : Nat} {rest : List Nat} {o : Oper} (ho : ops[i]? = some o) (hw : Region.wanted o (yielded ops a.tmps) = true)
    (h : o.wpV P B A a w (fun a' w' => OpsS P B A ops rest Q a' w')) : OpsS P B A ops (i :: rest) Q a w := by
  intro main Ac hA b k cs Z hk hc
  rcases h with h | h
  case inr => exact h main Ac hA b ops i rest k cs Z hk ho hw fun a' w' q => q main Ac hA b k cs Z hk hc
  refine .mk rfl fun w1 p q => ?_
  rcases h w1 p q with ⟨v, w', h1, h2⟩ | ⟨w', h1, h2⟩ | ⟨f, args, w', h1, h2⟩
  · obtain ⟨⟨hv, hko⟩, es, he, hl⟩ := h1.loc q
    refine ⟨_, w', seen P b.fn es, ⟨hko, fun W hW => ?_⟩, hv, h2 main Ac hA b k cs Z hk hc⟩
    obtain ⟨W', k1, k2, k3, k4, k5⟩ := hl W hW
    refine ⟨W', ?_, k3, k4, k5, evM_seen he k3.size⟩
    rw [stepG_value ho hw hk k1]; unfold listed; rw [k2]
  · obtain ⟨⟨hv, hko⟩, es, he, hl⟩ := h1.loc q
    refine ⟨_, w', seen P b.fn es, ⟨hko, fun W hW => ?_⟩, hv, h2 main Ac hA b k cs Z hk hc⟩
    obtain ⟨W', k1, k2, k3, k4, k5⟩ := hl W hW
    refine ⟨W', ?_, k3, k4, k5, evM_seen he k3.size⟩
    rw [stepG_none ho hw hk k1]; unfold listed; rw [k2]
  · obtain ⟨⟨hv, hko⟩, es, he, hl⟩ := h1.loc q
    refine ⟨_, w', seen P b.fn es, ⟨hko, fun W hW => ?_⟩, hv, h2 main Ac hA (b.at a (.inRegion ops (i :: rest) :: k) :: cs) Z fun v w'' fr fn hR m1 m2 m3 m4 m5 m6 => ?_⟩
    · obtain ⟨W', k1, k2, k3, k4, k5⟩ := hl W hW
      refine ⟨W', ?_, k3, k4, k5, evM_seen he k3.size⟩
      rw [stepG_enter ho hw hk k1]; unfold listed; rw [k2]
    · obtain ⟨u, e, hn⟩ := hR
      cases e
      have hfin : (b.at a (.inRegion ops (i :: rest) :: k)).finish v = b.at (a.put o.dst v) (.inRegion ops rest :: k) := by rw [Frame.finish_at, ho]; rfl
      refine .mk rfl fun w2 p2 q2 => ?_
      have hself : Over (Psn w2) w2 w2 := ⟨rfl, rfl, rfl, rfl, fun _ _ => rfl, fun _ h => h⟩
      have hr' : ((results fn fr.tmps).runT P w2 #[]).1 = .ok v w2 := by rw [Sem.runT_eq]; exact m5 w2 p2
      obtain ⟨_, new, _, g2, hgo, _, _, _, g7⟩ := sem_local (Wr := fun _ => False) (Rd := fun _ => False) (Pz := Psn w2) (fun _ h => h.elim) _ w2 w2 w2 #[] v (synR_of _ _ _ _ m6 q2 (m5 w2 p2)) q2 (fun _ _ h => h.elim) hself hr'
      refine ⟨G ((b.at a (.inRegion ops (i :: rest) :: k)).finish v) cs, w2, seen P fr.fn new, ⟨⟨rfl, rfl, rfl⟩, fun W hW => ?_⟩, q2, ?_⟩
      · obtain ⟨W', new', k1, k2, k3, k4, k5, _, _⟩ := sem_local (Wr := fun _ => False) (Rd := fun _ => False) (Pz := Psn w2) (fun _ h => h.elim) _ w2 W w2 #[] v (synR_of _ _ _ _ m6 q2 (m5 w2 p2)) q2 (fun _ _ h => h.elim) hW hr'
        have e : new' = new := by
          have := k2.symm.trans g2
          simpa using this
        subst e
        refine ⟨W', ?_, k3, fun b hb hx => k4 b hb (.inl (by simp)), k5, evM_seen (B := B) (hi := W'.heap.size) (fun e he => ?_) rfl⟩
        · obtain ⟨ffn, ftmps, ftodo, fdefers, fmode, fkind, fround⟩ := fr
          simp only at m1 m2 m3 m4
          subst m1 m2 m3
          have kr : (results fn ftmps).run P W = .ok v W' := by have := congrArg Prod.fst k1; rw [Sem.runT_eq] at this; exact this
          have ke : (results fn ftmps).events P W #[] = new' := by unfold Sem.events; rw [k1]; simp
          simp [G, stepG, unwind, doReturn, m4, kr, ke, GStep.after]
        · rcases g7 e he with ⟨l, x, wr, p1, p0, p2, p3, p4⟩ | h
          · exact .inl ⟨l, x, wr, p1, p0, p2, fun q => (p3 q).elim, by have := hgo.size; have := k3.size; omega⟩
          · exact .inr h
      · rw [hfin]
        exact Run1.push (hn main Ac hA b k cs Z hk hc) p2

theorem wpV_region {id : Nat} {ops : Array Oper} (h : OpsS P B A ops (List.range ops.size) Q a w) : (Code.region id ops false).wpV P B A Q a w :=
  fun main Ac hA b k cs Z hk hc => .idle rfl (fun _ => stepG_region) (h main Ac hA b k cs Z hk hc)

def wpListS (P : Program) (B : Nat) (A : Acs) (ops : Array Oper) (Q : Exit → Act → World → Prop) : List Oper → Act → World → Prop
  | [], a, w => Q .normal a w
  | o :: rest, a, w => if Region.wanted o (yielded ops a.tmps) then o.wpV P B A a w (wpListS P B A ops Q rest) else wpListS P B A ops Q rest (a.put o.dst undef) w

theorem opsS_of_list {ops : Array Oper} (l : List Oper) : ∀ k a w, (∀ j, l[j]? = ops[k + j]?) → wpListS P B A ops Q l a w → OpsS P B A ops (List.range' k l.length) Q a w := by
  induction l with
  | nil => intro k a w _ h; exact opsS_nil h
  | cons o l ih =>
    intro k a w h hw
    have h0 : ops[k]? = some o := by simpa using (h 0).symm
    have ih' := fun a w => ih (k + 1) a w (fun j => by have := h (j + 1); simpa [Nat.add_assoc, Nat.add_comm 1 j] using this)
    rw [List.length_cons, List.range'_succ]
    unfold wpListS at hw
    split at hw
    · rename_i hx; exact opsS_cons h0 hx (Oper.wpV_mono (fun a w q => ih' a w q) hw)
    · rename_i hx; exact opsS_unwanted h0 (by simpa using hx) (ih' _ _ hw)

theorem wpV_region_lit {id : Nat} {l : List Oper} (h : wpListS P B A l.toArray Q l a w) : (Code.region id l.toArray false).wpV P B A Q a w := by
  refine wpV_region ?_
  have := opsS_of_list (P := P) (B := B) (Q := Q) (ops := l.toArray) l 0 a w (by simp) h
  rw [List.range_eq_range']
  simpa using this

/-! ### A region that draws its order -/
def wpOpS (P : Program) (B : Nat) (A : Acs) (ops : Array Oper) (i : Nat) (K : Act → World → Prop) (a : Act) (w : World) : Prop :=
  match ops[i]? with
  | none => False
  | some o => if Region.wanted o (yielded ops a.tmps) then o.wpV P B A a w K else K (a.put o.dst undef) w
theorem wpOpS_mono {ops : Array Oper} {i : Nat} {K K' : Act → World → Prop} (h : ∀ a w, K a w → K' a w) (hh : wpOpS P B A ops i K a w) : wpOpS P B A ops i K' a w := by
  unfold wpOpS at *
  split
  · simp_all
  · rename_i o ho
    simp only [ho] at hh
    split
    · rename_i hw; simp only [hw, if_true] at hh; exact Oper.wpV_mono h hh
    · rename_i hw; simp only [hw] at hh; exact h _ _ hh
theorem opsS_of_op {ops : Array Oper} {i : Nat} {rest : List Nat} (h : wpOpS P B A ops i (fun a' w' => OpsS P B A ops rest Q a' w') a w) : OpsS P B A ops (i :: rest) Q a w := by
  unfold wpOpS at h
  split at h
  · exact h.elim
  · rename_i o ho
    split at h
    · rename_i hw; exact opsS_cons ho hw h
    · rename_i hw; exact opsS_unwanted ho (by simpa using hw) h
def wpAnyS (P : Program) (B : Nat) (A : Acs) (md : Region.Mode) (ops : Array Oper) (Q : Exit → Act → World → Prop) : Nat → Array Bool → Act → World → Prop
  | 0, listed, a, w => Region.ready md ops listed = [] ∧ Q .normal a w
  | fuel + 1, listed, a, w =>
    (Region.ready md ops listed = [] → Q .normal a w) ∧
    ∀ i ∈ Region.ready md ops listed, wpOpS P B A ops i (wpAnyS P B A md ops Q fuel (listed.setIfInBounds i true)) a w
theorem wpAnyS_sound {ops : Array Oper} {md : Region.Mode} : ∀ (fuel t : Nat) (listed : Array Bool) (a : Act) (w : World), wpAnyS P B A md ops Q fuel listed a w →
    OpsS P B A ops (Region.linearise.go md ops fuel t listed []) Q a w := by
  intro fuel
  induction fuel with
  | zero => intro t listed a w h; simpa [Region.linearise.go] using opsS_nil h.2
  | succ fuel ih =>
    intro t listed a w h
    obtain ⟨h₀, h₁⟩ := h
    simp only [Region.linearise.go]
    change OpsS P B A ops (match (Region.ready md ops listed)[t % (Region.ready md ops listed).length]? with
      | some i => Region.linearise.go md ops fuel (t / (Region.ready md ops listed).length) (listed.setIfInBounds i true) [i]
      | none => [].reverse) Q a w
    cases hi : (Region.ready md ops listed)[t % (Region.ready md ops listed).length]? with
    | none =>
      have hnil : Region.ready md ops listed = [] := by
        cases hr : Region.ready md ops listed with
        | nil => rfl
        | cons x xs =>
          rw [hr] at hi
          have hlt : t % (x :: xs).length < (x :: xs).length := Nat.mod_lt _ (by simp)
          simp at hi
          simp at hlt
          omega
      simpa using opsS_nil (h₀ hnil)
    | some i =>
      simp only []
      rw [linearise_go_acc, List.reverse_singleton, List.singleton_append]
      exact opsS_of_op (wpOpS_mono (fun a' w' x => ih _ _ a' w' x) (h₁ i (List.mem_of_getElem? hi)))
theorem wpV_region_any {id : Nat} {ops : Array Oper} (hm : P.follows .mixedOrders = true)
    (h : ∀ w1, Push w w1 → wpAnyS P B A .any ops Q ops.size (Array.replicate ops.size false) a w1) : (Code.region id ops true).wpV P B A Q a w := by
  intro main Ac hA b k cs Z hk hc
  refine .mk rfl fun w1 p q => ?_
  have hstep : ∀ w : World, stepG P main (G (b.at a (.code (.region id ops true) :: k)) cs) w =
      .go (G (b.at a (.inRegion ops (Region.schedule (P.follows .mixedOrders) ops (w.tape w.drawn (.order b.fn id))) :: k)) cs) { w with drawn := w.drawn + 1 } := fun w => by
    simp [G, stepG, stepG.exec, Frame.at, choose, Sem.run, Question.forced, Question.cut]
  refine ⟨_, { w1 with drawn := w1.drawn + 1 }, #[], ⟨⟨rfl, rfl, rfl⟩, fun W hW => ⟨{ W with drawn := W.drawn + 1 }, by rw [hstep W, hW.tape, hW.drawn], ⟨hW.size, hW.os, hW.tape, by simp [hW.drawn], hW.same, hW.pz⟩, fun _ _ _ => rfl, ⟨Nat.le_refl _, rfl⟩, by simp⟩⟩, fun b x hx => q b x hx, ?_⟩
  have := wpAnyS_sound (P := P) (B := B) (Q := Q) ops.size (w1.tape w1.drawn (.order b.fn id)) _ a _ (h { w1 with drawn := w1.drawn + 1 } (p.trans (Push.drew w1 (w1.drawn + 1))))
  have e : Region.schedule (P.follows .mixedOrders) ops (w1.tape w1.drawn (.order b.fn id)) = Region.linearise.go .any ops ops.size (w1.tape w1.drawn (.order b.fn id)) (Array.replicate ops.size false) [] := by
    simp only [Region.schedule, hm, Bool.true_or, if_true]; rfl
  rw [e]
  exact this main Ac hA b k cs Z hk hc

/-! ### A contract by a walk through the body -/
def bodyPostS (P : Program) (fn : Func) (R : Ending → World → Prop) : Exit → Act → World → Prop
  | .normal, a, w | .ret, a, w => a.defers = [] ∧ ∃ v, (∀ w1, Push w w1 → (results fn a.tmps).run P w1 = .ok v w1) ∧ Syn P (fun _ => False) (fun _ => False) (results fn a.tmps) ∧ R (.returned v) w
  | _, _, _ => False

theorem callsS_of_wp {f : FuncId} {fn : Func} {c : Code} {args : Array Value} {R : Ending → World → Prop} (hf : P.funcs[f]? = some fn) (hb : fn.body = some c)
    (h : c.wpV P B A (bodyPostS P fn R) { tmps := args ++ Array.replicate (fn.ntmps - args.size) undef, defers := [] } w) : CallsS P B A f args w R := by
  intro main Ac hA cs Z hz
  rw [enter_at _ hf hb]
  refine h main Ac hA (Go.Conc.base f) [] cs Z (by simp [Go.Conc.base]) fun e a' w' q => ?_
  cases e with
  | normal =>
    obtain ⟨hd, v, h1, h2, h3⟩ := q
    exact .idle rfl (fun _ => stepG_end) (hz v w' _ fn h3 rfl hd rfl hf h1 h2)
  | ret =>
    obtain ⟨hd, v, h1, h2, h3⟩ := q
    exact fun todo => hz v w' _ fn h3 rfl hd rfl hf h1 h2
  | exit id => exact q.elim
  | goto l => exact q.elim
  | panic ch => exact q.elim
  | outgrown => exact q.elim
end

/-! ### Which programs keep to what they are given -/
section
variable {P : Program} {Wr Rd : Nat → Prop}
theorem syn_mono {α : Type} {Wr' Rd' : Nat → Prop} (hw : ∀ b, Wr b → Wr' b) (hr : ∀ b, Rd b → Rd' b) : ∀ (s : Sem α), Syn P Wr Rd s → Syn P Wr' Rd' s := by
  intro s
  induction s with
  | pure a => exact fun h => h
  | load m a k ih => exact fun h => ⟨h.1, fun v => ih v (h.2 v)⟩
  | store m a v k ih => exact fun h => ⟨h.1, hw _ h.2.1, ih h.2.2⟩
  | new o k ih => exact fun h => ⟨h.1, fun v => ih v (h.2 v)⟩
  | shape r k ih => exact fun h => h.imp (fun h => ⟨hr _ h.1, fun v => ih v (h.2 v)⟩) id
  | frozen r k ih => exact fun h => ⟨hr _ h.1, fun v => ih v (h.2 v)⟩
  | freeze a n k ih => exact fun h => ⟨hw _ h.1, hr _ h.2.1, ih h.2.2⟩
  | getObj r k ih => exact fun h => ⟨hr _ h.1, fun v => ih v (h.2 v)⟩
  | setObj r o k ih => exact fun h => ⟨hr _ h.1, hw _ h.2.1, h.2.2.1, ih h.2.2.2⟩
  | choose q k ih => exact fun h v => ih v (h v)
  | sys c k ih => exact fun h => h
  | program k ih => exact fun h => ih P h
  | mark m k ih => exact fun h => ⟨h.1, ih h.2⟩
  | halt h => exact fun h => h
theorem dead_bind {α β : Type} {s : Sem α} (h : Dead P s) (f : α → Sem β) : Dead P (s >>= f) := by
  intro w r w' hh
  rw [Sem.run_bind] at hh
  cases hr : s.run P w with
  | ok a w1 => exact h _ _ _ hr
  | halt x w1 => rw [hr] at hh; cases hh
theorem bind_dead {α β : Type} (s : Sem α) {f : α → Sem β} (h : ∀ a, Dead P (f a)) : Dead P (s >>= f) := by
  intro w r w' hh
  rw [Sem.run_bind] at hh
  cases hr : s.run P w with
  | ok a w1 => rw [hr] at hh; exact h _ _ _ _ hh
  | halt x w1 => rw [hr] at hh; cases hh
theorem syn_bind {α β : Type} : ∀ {s : Sem α} {f : α → Sem β}, Syn P Wr Rd s → (∀ a, Syn P Wr Rd (f a)) → Syn P Wr Rd (s >>= f) := by
  intro s f
  show Syn P Wr Rd s → _ → Syn P Wr Rd (s.bind f)
  induction s with
  | pure a => exact fun _ h => h a
  | load m a k ih => exact fun h g => ⟨h.1, fun v => ih v (h.2 v) g⟩
  | store m a v k ih => exact fun h g => ⟨h.1, h.2.1, ih h.2.2 g⟩
  | new o k ih => exact fun h g => ⟨h.1, fun v => ih v (h.2 v) g⟩
  | shape r k ih => exact fun h g => h.imp (fun h => ⟨h.1, fun v => ih v (h.2 v) g⟩) (fun h => dead_bind h f)
  | frozen r k ih => exact fun h g => ⟨h.1, fun v => ih v (h.2 v) g⟩
  | freeze a n k ih => exact fun h g => ⟨h.1, h.2.1, ih h.2.2 g⟩
  | getObj r k ih => exact fun h g => ⟨h.1, fun v => ih v (h.2 v) g⟩
  | setObj r o k ih => exact fun h g => ⟨h.1, h.2.1, h.2.2.1, ih h.2.2.2 g⟩
  | choose q k ih => exact fun h g v => ih v (h v) g
  | sys c k ih => exact fun h _ => h.elim
  | program k ih => exact fun h g => ih P h g
  | mark m k ih => exact fun h g => ⟨h.1, ih h.2 g⟩
  | halt h => exact fun h _ => h
theorem syn_map {α β : Type} {f : α → β} {s : Sem α} (h : Syn P Wr Rd s) : Syn P Wr Rd (f <$> s) := syn_bind h (fun _ => trivial)
theorem add_blk (a : Addr) (i : Nat) : (a.add i).block = a.block := by unfold Addr.add; split <;> rfl
theorem syn_pure {α : Type} (a : α) : Syn P Wr Rd (pure a : Sem α) := trivial
theorem syn_halt {α : Type} (h : Halt) : Syn P Wr Rd (.halt h : Sem α) := trivial
theorem syn_stuck {α : Type} (h : String) : Syn P Wr Rd (stuck h : Sem α) := trivial
theorem syn_unsupported {α : Type} (h : Unsupported) : Syn P Wr Rd (unsupported h : Sem α) := trivial
theorem syn_goPanic {α : Type} (v : Value) : Syn P Wr Rd (goPanic v : Sem α) := trivial
theorem syn_program : Syn P Wr Rd program := trivial
theorem syn_choose (q : Question) : Syn P Wr Rd (choose q) := fun _ => trivial
theorem syn_load (a : Addr) : Syn P Wr Rd (load a) := ⟨rfl, fun _ => trivial⟩
theorem syn_store (a : Addr) (v : Value) (h : Wr a.block) : Syn P Wr Rd (store a v) := ⟨rfl, h, trivial⟩
theorem syn_freeze (a : Addr) (n : Nat) (h : Wr a.block) (h' : Rd a.block) : Syn P Wr Rd (freeze a n) := ⟨h, h', trivial⟩
theorem syn_shape (r : Nat) (h : Rd r) : Syn P Wr Rd (shape r) := .inl ⟨h, fun _ => trivial⟩
theorem syn_frozen (a : Addr) (h : Rd a.block) : Syn P Wr Rd (frozen a) := ⟨h, fun _ => trivial⟩
theorem syn_getObj (r : Nat) (h : Rd r) : Syn P Wr Rd (getObj r) := ⟨h, fun _ => trivial⟩
theorem syn_setObj (r : Nat) (o : Obj) (h : Rd r) (h' : Wr r) (hb : isBad o = false) : Syn P Wr Rd (setObj r o) := ⟨h, h', hb, trivial⟩
theorem syn_newObj (o : Obj) (h : isBad o = false) : Syn P Wr Rd (newObj o) := ⟨h, fun _ => trivial⟩
theorem syn_noRoom : Syn P Wr Rd (mark .noRoom) := ⟨.inl rfl, trivial⟩
theorem syn_extern (f : FuncId) : Syn P Wr Rd (mark (.extern f)) := ⟨.inr ⟨f, rfl⟩, trivial⟩
theorem syn_askRoom (n : Nat) : Syn P Wr Rd (askRoom n) := by unfold askRoom; split; exact syn_noRoom; exact trivial
theorem syn_typeInfo (t : TypeId) : Syn P Wr Rd (typeInfo t) := by unfold typeInfo; refine syn_bind syn_program fun _ => ?_; split <;> trivial
theorem syn_underlying (t : TypeId) : Syn P Wr Rd (underlying t) := by unfold underlying; refine syn_bind syn_program fun _ => ?_; split <;> trivial
theorem syn_zeroValue (t : TypeId) : Syn P Wr Rd (zeroValue t) := by unfold zeroValue; refine syn_bind (syn_typeInfo t) fun _ => ?_; split <;> trivial
theorem syn_sizeOf (t : TypeId) : Syn P Wr Rd (sizeOf t) := by unfold sizeOf; exact syn_bind (syn_typeInfo t) fun _ => trivial
theorem syn_isAgg (t : TypeId) : Syn P Wr Rd (isAgg t) := by unfold isAgg; refine syn_bind (syn_underlying t) fun _ => ?_; split <;> trivial
theorem syn_elemOf (t : TypeId) : Syn P Wr Rd (elemOf t) := by unfold elemOf; refine syn_bind (syn_underlying t) fun _ => ?_; split <;> trivial
theorem syn_newRow (t : TypeId) (cs : Array Value) : Syn P Wr Rd (newRow t cs) := by unfold newRow; exact syn_bind (syn_newObj _ rfl) fun _ => trivial
theorem syn_newVar (t : TypeId) (v : Value) : Syn P Wr Rd (newVar t v) := syn_newRow t _
theorem syn_runtimePanic {α : Type} (e : RuntimeError) : Syn P Wr Rd (runtimePanic e : Sem α) := by
  unfold runtimePanic
  refine syn_bind syn_program fun p => ?_
  cases e <;> simp only <;> first
    | trivial
    | (refine syn_bind (syn_elemOf _) fun _ => syn_bind (syn_newVar _ _) fun _ => trivial)
theorem syn_boundsPanic {α : Type} (k : IntKind) (x y : Int) (c : BoundsCode) : Syn P Wr Rd (boundsPanic k x y c : Sem α) := by
  unfold boundsPanic
  simp only
  split
  · exact syn_bind (syn_map (syn_choose _)) fun _ => syn_runtimePanic _
  · exact syn_bind (syn_pure _) fun _ => syn_runtimePanic _
theorem syn_loadCellsFrom (a : Addr) : ∀ (n i : Nat) (acc : Array Value), Syn P Wr Rd (loadCellsFrom a i n acc)
  | 0, _, _ => trivial
  | n + 1, i, acc => by unfold loadCellsFrom; exact syn_bind (syn_load _) fun _ => syn_loadCellsFrom a n _ _
theorem syn_loadCells (a : Addr) (n : Nat) : Syn P Wr Rd (loadCells a n) := syn_loadCellsFrom a n 0 #[]
theorem syn_loadVar (t : TypeId) (a : Addr) : Syn P Wr Rd (loadVar t a) := by
  unfold loadVar
  refine syn_bind (syn_isAgg t) fun _ => ?_
  split
  · exact syn_bind (syn_sizeOf t) fun _ => syn_bind (syn_loadCells _ _) fun _ => trivial
  · exact syn_load a
theorem syn_storeCells (a : Addr) (h : Wr a.block) : ∀ (vs : List Value) (i : Nat), Syn P Wr Rd (storeCells a vs i)
  | [], _ => by unfold storeCells; trivial
  | v :: vs, i => by
    unfold storeCells
    exact syn_bind (syn_store _ _ (by rw [add_blk]; exact h)) fun _ => syn_storeCells a h vs _
theorem syn_storeVar (t : TypeId) (a : Addr) (v : Value) (h : Wr a.block) : Syn P Wr Rd (storeVar t a v) := by
  unfold storeVar
  refine syn_bind (syn_sizeOf t) fun _ => ?_
  split
  · trivial
  · exact syn_storeCells a h _ _
theorem syn_asAddr (v : Value) : Syn P Wr Rd (asAddr v) := by unfold asAddr; split <;> first | trivial | exact syn_runtimePanic _
theorem syn_asInt (v : Value) : Syn P Wr Rd (asInt v) := by unfold asInt asIntOf; refine syn_bind ?_ fun _ => trivial; split <;> trivial
theorem syn_asIntOf (v : Value) : Syn P Wr Rd (asIntOf v) := by unfold asIntOf; split <;> trivial
theorem syn_mapM {α β : Type} (f : α → Sem β) (h : ∀ a, Syn P Wr Rd (f a)) : ∀ l : List α, Syn P Wr Rd (l.mapM f)
  | [] => by simp only [List.mapM_nil]; trivial
  | a :: l => by simp only [List.mapM_cons]; exact syn_bind (h a) fun _ => syn_bind (syn_mapM f h l) fun _ => trivial
/-- What reads a function's results. -/
theorem syn_results (fn : Func) (tmps : Array Value) : Syn P Wr Rd (results fn tmps) := by
  unfold results
  refine syn_bind ?_ fun _ => trivial
  rw [Array.mapM_eq_mapM_toList]
  refine syn_bind (syn_mapM _ (fun r => ?_) _) fun _ => trivial
  cases r with
  | tmp t => trivial
  | cell a t => exact syn_bind (syn_asAddr _) fun _ => syn_loadVar _ _

/-- A check by reckoning: f and g answer for what is made and what is read. -/
def synB {α : Type} (P : Program) (f : Nat → Nat) (g : Nat → Value) : Sem α → Nat → Bool
  | .pure _, _ => true
  | .load m _ k, n => (match m with | .plain => true | .atomic => false) && synB P f g (k (g n)) (n + 1)
  | .new o k, n => !isBad o && synB P f g (k (f n)) (n + 1)
  | .program k, n => synB P f g (k P) n
  | .mark m k, n => (match m with | .noRoom => true | .extern _ => true | _ => false) && synB P f g k n
  | .halt _, _ => true
  | _, _ => false
theorem synB_congr {α : Type} : ∀ (s : Sem α) (n : Nat) (f f' : Nat → Nat) (g g' : Nat → Value), (∀ m, n ≤ m → f m = f' m ∧ g m = g' m) → synB P f g s n = synB P f' g' s n := by
  intro s
  induction s with
  | load m a k ih => intro n f f' g g' h; simp only [synB]; rw [(h n (Nat.le_refl _)).2, ih _ (n + 1) f f' g g' (fun m hm => h m (by omega))]
  | new o k ih => intro n f f' g g' h; simp only [synB]; rw [(h n (Nat.le_refl _)).1, ih _ (n + 1) f f' g g' (fun m hm => h m (by omega))]
  | program k ih => intro n f f' g g' h; simp only [synB]; exact ih P n f f' g g' h
  | mark m k ih => intro n f f' g g' h; simp only [synB]; rw [ih n f f' g g' h]
  | _ => intro n f f' g g' h; rfl
theorem syn_of_B {α : Type} : ∀ (s : Sem α) (n : Nat), (∀ f g, synB P f g s n = true) → Syn P Wr Rd s := by
  intro s
  induction s with
  | pure a => exact fun _ _ => trivial
  | load m a k ih =>
    intro n h
    refine ⟨?_, fun v => ih v (n + 1) fun f g => ?_⟩
    · have := h (fun _ => 0) (fun _ => undef)
      cases m with
      | plain => rfl
      | atomic => simp [synB] at this
    · have := h f (fun m => if m = n then v else g m)
      simp only [synB, Bool.and_eq_true, if_true] at this
      rw [synB_congr (k v) (n + 1) f f _ g (fun m hm => ⟨rfl, by rw [if_neg (by omega)]⟩)] at this
      exact this.2
  | new o k ih =>
    intro n h
    refine ⟨?_, fun v => ih v (n + 1) fun f g => ?_⟩
    · have := h (fun _ => 0) (fun _ => undef)
      simp only [synB, Bool.and_eq_true, Bool.not_eq_true'] at this
      exact this.1
    · have := h (fun m => if m = n then v else f m) g
      simp only [synB, Bool.and_eq_true, if_true] at this
      rw [synB_congr (k v) (n + 1) _ f g g (fun m hm => ⟨by rw [if_neg (by omega)], rfl⟩)] at this
      exact this.2
  | program k ih => exact fun n h => ih P n h
  | mark m k ih =>
    intro n h
    refine ⟨?_, ih n fun f g => ?_⟩
    · have := h (fun _ => 0) (fun _ => undef)
      simp only [synB, Bool.and_eq_true] at this
      cases m <;> simp at this <;> first | exact .inl rfl | exact .inr ⟨_, rfl⟩
    · have := h f g
      simp only [synB, Bool.and_eq_true] at this
      exact this.2
  | halt h => exact fun _ _ => trivial
  | _ => intro n h; have := h (fun _ => 0) (fun _ => undef); simp [synB] at this
/-- Only pure: nothing but looks at the program. -/
def pureB {α : Type} (P : Program) : Sem α → Bool
  | .pure _ => true
  | .program k => pureB P (k P)
  | _ => false
theorem synB_of_pure {α : Type} {f : Nat → Nat} {g : Nat → Value} : ∀ (s : Sem α) {n : Nat}, pureB P s = true → synB P f g s n = true := by
  intro s
  induction s with
  | pure a => exact fun _ => rfl
  | program k ih => exact fun h => ih P h
  | _ => intro n h; simp [pureB] at h
theorem syn_of_pure {α : Type} : ∀ (s : Sem α), pureB P s = true → Syn P Wr Rd s := by
  intro s
  induction s with
  | pure a => exact fun _ => trivial
  | program k ih => exact fun h => ih P h
  | _ => intro h; simp [pureB] at h
end

/-! ### Kinds of operations -/
section
variable {P : Program} {Wr Rd : Nat → Prop}
theorem syn_sureAddr (v : Value) : Syn P Wr Rd (Instr.sureAddr v) := by unfold Instr.sureAddr; split <;> trivial
theorem syn_loadOp {ρ : Operand → Value} {o : Oper} {t : TypeId} {x : Operand} (hop : o.op = .load t x) : Syn P Wr Rd (execOp ρ o) := by
  unfold execOp
  simp only [hop, Instr.loadAt]
  exact syn_bind (syn_bind (syn_sureAddr _) fun _ => syn_loadVar _ _) fun _ => trivial
theorem syn_storeOp {ρ : Operand → Value} {o : Oper} {t : TypeId} {x y : Operand} (hop : o.op = .store t x y) (h : ∀ a, ρ x = .pointer (some a) → Wr a.block) : Syn P Wr Rd (execOp ρ o) := by
  unfold execOp
  simp only [hop, Instr.storeAt]
  refine syn_bind ?_ fun _ => trivial
  unfold Instr.sureAddr
  split
  · rename_i a hh; exact syn_storeVar _ _ _ (h a hh)
  · exact syn_stuck _
theorem syn_part (t : TypeId) (cs : Array Value) (off : Nat) : Syn P Wr Rd (part t cs off) := by
  unfold part
  refine syn_bind (syn_isAgg t) fun _ => ?_
  split
  · exact syn_bind (syn_sizeOf t) fun _ => trivial
  · split <;> trivial
theorem syn_indexAt (t : TypeId) (x i : Value) : Syn P Wr Rd (Instr.indexAt t x i) := by
  unfold Instr.indexAt
  refine syn_bind (syn_asIntOf i) fun ki => syn_bind (syn_underlying t) fun u => ?_
  split
  · refine syn_bind (syn_sureAddr _) fun r => ?_
    first | (refine syn_bind (syn_pure _) fun r => ?_; obtain ⟨base, len, elem⟩ := r) | skip
    refine syn_bind (syn_underlying t) fun _ => ?_
    dsimp only
    split
    · split
      · exact syn_bind (syn_sizeOf _) fun _ => trivial
      · repeat' (first | exact syn_boundsPanic _ _ _ _ | exact syn_unsupported _ | split)
    · exact syn_boundsPanic _ _ _ _
  · refine syn_bind (syn_pure _) fun r => ?_
    obtain ⟨base, len, elem⟩ := r
    refine syn_bind (syn_underlying t) fun _ => ?_
    dsimp only
    split
    · split
      · exact syn_bind (syn_sizeOf _) fun _ => trivial
      · repeat' (first | exact syn_boundsPanic _ _ _ _ | exact syn_unsupported _ | split)
    · exact syn_boundsPanic _ _ _ _
  · refine syn_bind (syn_stuck _) fun r => ?_
    obtain ⟨base, len, elem⟩ := r
    refine syn_bind (syn_underlying t) fun _ => ?_
    dsimp only
    split
    · split
      · exact syn_bind (syn_sizeOf _) fun _ => trivial
      · repeat' (first | exact syn_boundsPanic _ _ _ _ | exact syn_unsupported _ | split)
    · exact syn_boundsPanic _ _ _ _
theorem syn_index (t : TypeId) (x i : Value) : Syn P Wr Rd (Instr.index t x i) := by
  unfold Instr.index
  refine syn_bind (syn_asIntOf i) fun ki => syn_bind (syn_underlying t) fun u => ?_
  split
  · split
    · exact syn_bind (syn_sizeOf _) fun _ => syn_part _ _ _
    · exact syn_boundsPanic _ _ _ _
  · split
    · trivial
    · exact syn_boundsPanic _ _ _ _
  · trivial
theorem syn_sliceBound (x : Value) (y : Nat) (c : BoundsCode) : Syn P Wr Rd (Instr.sliceBound x y c) := by
  unfold Instr.sliceBound
  refine syn_bind (syn_asIntOf x) fun ki => ?_
  dsimp only
  split
  · trivial
  · exact syn_boundsPanic _ _ _ _
theorem syn_sliceBounds (b : Bool) (l c : Nat) (lo hi mx : Option Value) : Syn P Wr Rd (Instr.sliceBounds b l c lo hi mx) := by
  unfold Instr.sliceBounds
  cases mx <;> cases hi <;> cases lo <;> dsimp only <;>
    (refine syn_bind ?_ fun _ => syn_bind ?_ fun _ => syn_bind ?_ fun _ => trivial) <;> first | trivial | exact syn_sliceBound _ _ _
theorem syn_slice (t : TypeId) (x : Value) (lo hi mx : Option Value) : Syn P Wr Rd (Instr.slice t x lo hi mx) := by
  unfold Instr.slice
  refine syn_bind (syn_underlying t) fun u => ?_
  split
  · split
    · trivial
    · exact syn_bind (syn_sliceBounds _ _ _ _ _ _) fun _ => trivial
  · exact syn_bind (syn_sliceBounds _ _ _ _ _ _) fun _ => syn_bind (syn_sizeOf _) fun _ => trivial
  · refine syn_bind (syn_asAddr _) fun _ => syn_bind (syn_underlying _) fun u => ?_
    split
    · exact syn_bind (syn_sliceBounds _ _ _ _ _ _) fun _ => syn_bind (syn_sizeOf _) fun _ => trivial
    · trivial
  · trivial
theorem syn_sliceAt (t : TypeId) (x : Value) (lo hi mx : Option Value) : Syn P Wr Rd (Instr.sliceAt t x lo hi mx) := by
  unfold Instr.sliceAt
  refine syn_bind (syn_underlying t) fun u => ?_
  split
  · exact syn_bind (syn_sureAddr _) fun _ => syn_bind (syn_sliceBounds _ _ _ _ _ _) fun _ => syn_bind (syn_sizeOf _) fun _ => trivial
  · exact syn_slice _ _ _ _ _
theorem syn_stringOp (op : BinOp) (x y : ByteArray) : Syn P Wr Rd (Op.stringOp op x y) := by
  unfold Op.stringOp
  dsimp only
  split <;> first | trivial | (split <;> trivial)
theorem syn_v {s : Sem Value} (h : Syn P Wr Rd s) : Syn P Wr Rd (do let x ← s; pure (Next.value x)) := syn_bind h fun _ => trivial
theorem syn_idxOp {ρ : Operand → Value} {o : Oper} {t : TypeId} {x i : Operand} (hop : o.op = .indexAddr t x i) : Syn P Wr Rd (execOp ρ o) := by
  unfold execOp; simp only [hop]; exact syn_v (syn_indexAt _ _ _)
theorem syn_sidxOp {ρ : Operand → Value} {o : Oper} {t : TypeId} {x i : Operand} (hop : o.op = .index t x i) : Syn P Wr Rd (execOp ρ o) := by
  unfold execOp; simp only [hop]; exact syn_v (syn_index _ _ _)
theorem syn_slOp {ρ : Operand → Value} {o : Oper} {t : TypeId} {x : Operand} {lo hi mx : Option Operand} (hop : o.op = .slice t x lo hi mx) : Syn P Wr Rd (execOp ρ o) := by
  unfold execOp; simp only [hop]; exact syn_v (syn_sliceAt _ _ _ _ _)
theorem syn_catOp {ρ : Operand → Value} {o : Oper} {t : TypeId} {x y : Operand} {u : TypeId} {s r : ByteArray} (hop : o.op = .binOp .add t x y u) (hx : ρ x = .string s) (hy : ρ y = .string r) : Syn P Wr Rd (execOp ρ o) := by
  unfold execOp
  simp only [hop, hx, hy, eqGuard, binOp]
  exact syn_v (syn_bind (syn_pure _) fun _ => syn_stringOp _ _ _)

/-! #### along the way -/
theorem synR_bind {α β : Type} : ∀ (s : Sem α) (f : α → Sem β) (w : World), SynR P Wr Rd s w → (∀ a w', s.run P w = .ok a w' → SynR P Wr Rd (f a) w') → SynR P Wr Rd (s >>= f) w := by
  intro s f
  show ∀ w, _ → _ → SynR P Wr Rd (s.bind f) w
  induction s with
  | pure a => exact fun w _ h => h a w rfl
  | load m a k ih =>
    intro w h g
    obtain ⟨h1, v, h2, h3⟩ := h
    exact ⟨h1, v, h2, ih _ w h3 (fun a' w' hr => g a' w' (by rw [Sem.run, h2]; exact hr))⟩
  | shape r k ih => exact fun w h g => ⟨h.1, ih _ w h.2 (fun a' w' hr => g a' w' (by rw [Sem.run]; exact hr))⟩
  | frozen r k ih => exact fun w h g => ⟨h.1, ih _ w h.2 (fun a' w' hr => g a' w' (by rw [Sem.run]; exact hr))⟩
  | freeze a n k ih => exact fun w h g => ⟨h.1, h.2.1, ih _ h.2.2 (fun a' w' hr => g a' w' (by rw [Sem.run]; exact hr))⟩
  | new o k ih => exact fun w h g => ⟨h.1, ih _ _ h.2 (fun a' w' hr => g a' w' (by rw [Sem.run]; exact hr))⟩
  | program k ih => exact fun w h g => ih P w h (fun a' w' hr => g a' w' (by rw [Sem.run]; exact hr))
  | mark m k ih => exact fun w h g => ⟨h.1, ih w h.2 (fun a' w' hr => g a' w' (by rw [Sem.run]; exact hr))⟩
  | halt h => exact fun w _ _ => trivial
  | choose q k ih =>
    intro w h g
    show SynR P Wr Rd (Sem.choose q fun n => (k n).bind f) w
    unfold SynR at h ⊢
    split
    · rename_i hf; rw [if_pos hf] at h; exact ih _ w h (fun a' w' hr => g a' w' (by simp only [Sem.run]; rw [if_pos hf]; exact hr))
    · rename_i hf; rw [if_neg hf] at h; exact ih _ _ h (fun a' w' hr => g a' w' (by simp only [Sem.run]; rw [if_neg hf]; exact hr))
  | getObj r k ih =>
    intro w h g
    refine ⟨h.1, fun o ho hne => ih o w (h.2 o ho hne) (fun a' w' hr => g a' w' ?_)⟩
    cases o <;> first | exact absurd rfl (hne _ _ _) | (simp only [Sem.run, ho]; exact hr)
  | store m a v k ih =>
    intro w h g
    obtain ⟨h1, h2, ⟨u, h3⟩, ⟨h4, h5, h6⟩, h7⟩ := h
    refine ⟨h1, h2, ⟨u, h3⟩, ⟨h4, h5, h6⟩, ih _ h7 (fun a' w' hr => g a' w' ?_)⟩
    cases v <;> first | exact absurd rfl (h4 _) | exact absurd rfl (h5 _) | (simp only [Sem.run, h3, h6]; exact hr)
  | setObj r o k ih =>
    intro w h g
    obtain ⟨h1, h2, h3, ⟨x, h4, h5⟩, h6⟩ := h
    refine ⟨h1, h2, h3, ⟨x, h4, h5⟩, ih _ h6 (fun a' w' hr => g a' w' ?_)⟩
    cases x <;> first | exact absurd rfl (h5 _ _ _) | (simp only [Sem.run, h4]; exact hr)
  | sys c k ih => exact fun w h => h.elim

theorem syn_bindU {β : Type} {t : TypeId} {d : TypeDesc} {f : TypeDesc → Sem β} (h : P.underlying t = some d) (hf : Syn P Wr Rd (f d)) : Syn P Wr Rd (underlying t >>= f) := by
  show Syn P Wr Rd ((match P.underlying t with | some d => (pure d : Sem TypeDesc) | none => stuck "no such type") >>= f)
  rw [h]; exact hf
/-! #### append, copy -/
theorem syn_lenOf (v : Value) : Syn P Wr Rd (Builtin.lenOf v) := by unfold Builtin.lenOf; split <;> trivial
theorem syn_firstCells (a b : Nat) (v : Value) : Syn P Wr Rd (Builtin.firstCells a b v) := by unfold Builtin.firstCells; split <;> first | trivial | exact syn_loadCells _ _
theorem syn_shape_dead {β : Type} (r : Nat) (k : Option (TypeId × Nat) → Sem β) (h : ∀ x, Dead P (k x)) : Syn P Wr Rd (Sem.shape r k) :=
  .inr fun w a w' hh => by simp only [Sem.run] at hh; exact h _ _ _ _ hh
theorem syn_share_dead {β : Type} (size n m : Nat) (base : Option Addr) (x : Value) (f : Bool → Sem β) (hd : ∀ b, Dead P (f b)) (hf : Syn P Wr Rd (f false)) (hf' : Syn P Wr Rd (f true)) : Syn P Wr Rd (Builtin.mayShare size n m base x >>= f) := by
  have hd' : Dead P (Builtin.mayShare size n m base x >>= f) := bind_dead _ hd
  unfold Builtin.mayShare at *
  cases base with
  | some a => exact .inr hd'
  | none =>
    cases x with
    | slice b k c =>
      cases b with
      | some b => exact .inr hd'
      | none => exact hf
    | _ => exact hf
theorem syn_ite {α : Type} {c : Prop} [Decidable c] {a b : Sem α} (ha : Syn P Wr Rd a) (hb : Syn P Wr Rd b) : Syn P Wr Rd (if c then a else b) := by split <;> assumption
theorem dead_unsupported {α : Type} (u : Unsupported) : Dead P (unsupported u : Sem α) := fun w a w' h => by simp [unsupported, Sem.run] at h
theorem syn_append (t u ty : TypeId) (base : Option Addr) (n cap : Nat) (x : Value) (h : ∀ a, base = some a → Wr a.block) : Syn P Wr Rd (Builtin.append_ #[t, u] ty #[.slice base n cap, x]) := by
  unfold Builtin.append_
  simp only [List.getElem?_toArray, List.getElem?_cons_zero, List.getElem?_cons_succ]
  refine syn_bind (syn_underlying t) fun d => ?_
  split
  · refine syn_bind (syn_sizeOf _) fun size => syn_bind (syn_underlying u) fun du => ?_
    refine syn_bind (syn_pure _) fun zeros => ?_
    have hb : ∀ a, base = some a → ∀ k, Wr (a.add k).block := fun a e k => by rw [add_blk]; exact h a e
    cases base <;> dsimp only <;> repeat' (first
      | with_reducible exact syn_runtimePanic _ | with_reducible exact syn_typeInfo _ | with_reducible exact syn_choose _ | with_reducible exact syn_asInt _ | with_reducible exact syn_lenOf _ | with_reducible exact syn_firstCells _ _ _ | with_reducible exact syn_zeroValue _ | with_reducible exact syn_newRow _ _
      | with_reducible exact syn_askRoom _ | with_reducible exact syn_noRoom | with_reducible exact syn_unsupported _ | with_reducible exact syn_pure _ | with_reducible exact syn_storeCells _ (hb _ rfl _) _ _
      | (with_reducible refine syn_share_dead _ _ _ _ _ _ (fun b => ?_) ?_ ?_; (split <;> first | exact dead_unsupported _ | exact bind_dead _ (fun _ => dead_unsupported _)))
      | with_reducible refine syn_ite ?_ ?_
      | with_reducible refine syn_bind ?_ fun _ => ?_)
  · trivial
theorem syn_copy (t u ty : TypeId) (base : Option Addr) (n cap : Nat) (x : Value) (h : ∀ a, base = some a → Wr a.block) : Syn P Wr Rd (Builtin.copy_ #[t, u] ty #[.slice base n cap, x]) := by
  unfold Builtin.copy_
  simp only [List.getElem?_toArray, List.getElem?_cons_zero, List.getElem?_cons_succ]
  refine syn_bind (syn_underlying t) fun d => ?_
  split
  · refine syn_bind (syn_lenOf _) fun m => syn_bind (syn_sizeOf _) fun size => syn_bind (syn_firstCells _ _ _) fun cs => ?_
    split
    · exact syn_bind (syn_storeCells _ (h _ rfl) _ _) fun _ => trivial
    · trivial
  · trivial
theorem syn_appOp {ρ : Operand → Value} {o : Oper} {c : Call} {s x : Operand} {t u : TypeId} {base : Option Addr} {n cap : Nat} (hop : o.op = .call c) (hc : c.callee = .builtin .append) (ha : c.args.toList = [s, x]) (ht : c.argTypes.toList = [t, u])
    (hs : ρ s = .slice base n cap) (h : ∀ a, base = some a → Wr a.block) : Syn P Wr Rd (execOp ρ o) := by
  have ha' : c.args = #[s, x] := by rw [← Array.toArray_toList (xs := c.args), ha]
  have ht' : c.argTypes = #[t, u] := by rw [← Array.toArray_toList (xs := c.argTypes), ht]
  unfold execOp
  simp only [hop, resolve, hc, ha', ht']
  refine syn_v ?_
  have e : (#[s, x] : Array Operand).map ρ = #[.slice base n cap, ρ x] := by simp [hs]
  rw [e]
  exact syn_append _ _ _ _ _ _ _ h
theorem syn_cpyOp {ρ : Operand → Value} {o : Oper} {c : Call} {s x : Operand} {t u : TypeId} {base : Option Addr} {n cap : Nat} (hop : o.op = .call c) (hc : c.callee = .builtin .copy) (ha : c.args.toList = [s, x]) (ht : c.argTypes.toList = [t, u])
    (hs : ρ s = .slice base n cap) (h : ∀ a, base = some a → Wr a.block) : Syn P Wr Rd (execOp ρ o) := by
  have ha' : c.args = #[s, x] := by rw [← Array.toArray_toList (xs := c.args), ha]
  have ht' : c.argTypes = #[t, u] := by rw [← Array.toArray_toList (xs := c.argTypes), ht]
  unfold execOp
  simp only [hop, resolve, hc, ha', ht']
  refine syn_v ?_
  have e : (#[s, x] : Array Operand).map ρ = #[.slice base n cap, ρ x] := by simp [hs]
  rw [e]
  exact syn_copy _ _ _ _ _ _ _ h
theorem syn_clear (t ty e : TypeId) (a : Addr) (n c : Nat) (hu : P.underlying t = some (.slice e)) (h : Wr a.block) : Syn P Wr Rd (Builtin.clear_ #[t] ty #[.slice (some a) n c]) := by
  unfold Builtin.clear_
  simp only [List.getElem?_toArray, List.getElem?_cons_zero]
  refine syn_bindU hu ?_
  cases n with
  | zero => exact syn_bind (syn_pure _) fun _ => trivial
  | succ n => exact syn_bind (s := zeroValue e) (syn_zeroValue _) fun _ => syn_bind (syn_storeCells _ h _ _) fun _ => trivial
theorem syn_clrOp {ρ : Operand → Value} {o : Oper} {cl : Call} {s : Operand} {t e : TypeId} {a : Addr} {n c : Nat} (hop : o.op = .call cl) (hc : cl.callee = .builtin .clear) (ha : cl.args.toList = [s]) (ht : cl.argTypes.toList = [t]) (hu : P.underlying t = some (.slice e))
    (hs : ρ s = .slice (some a) n c) (h : Wr a.block) : Syn P Wr Rd (execOp ρ o) := by
  have ha' : cl.args = #[s] := by rw [← Array.toArray_toList (xs := cl.args), ha]
  have ht' : cl.argTypes = #[t] := by rw [← Array.toArray_toList (xs := cl.argTypes), ht]
  unfold execOp
  simp only [hop, resolve, hc, ha', ht']
  refine syn_v ?_
  have e : (#[s] : Array Operand).map ρ = #[.slice (some a) n c] := by simp [hs]
  rw [e]
  exact syn_clear _ _ _ _ _ _ hu h
/-! #### bytes to a string -/
theorem syn_forIn {β γ : Type} (f : β → γ → Sem (ForInStep γ)) (h : ∀ b c, Syn P Wr Rd (f b c)) : ∀ (l : List β) (c : γ), Syn P Wr Rd (forIn l c f)
  | [], c => by simp only [List.forIn_nil]; trivial
  | b :: l, c => by
    simp only [List.forIn_cons]
    refine syn_bind (h b c) fun r => ?_
    cases r with
    | done c => trivial
    | yield c => exact syn_forIn f h l c
theorem syn_bytesToString (x : Value) : Syn P Wr Rd (Conv.bytesToString x) := by
  unfold Conv.bytesToString
  split
  · trivial
  · refine syn_bind (syn_loadCells _ _) fun cs => ?_
    refine syn_bind ?_ fun _ => trivial
    rw [← Array.forIn_toList]
    refine syn_forIn _ (fun b c => ?_) _ _
    split <;> trivial
  · trivial
theorem syn_b2sOp {ρ : Operand → Value} {o : Oper} {s d e : TypeId} {x : Operand} {a : Option Addr} {n c : Nat} (hop : o.op = .convert s d x) (hx : ρ x = .slice a n c) (hs : P.underlying s = some (.slice e)) (he : P.underlying e = some (.int .u8)) (hd : P.underlying d = some .string) : Syn P Wr Rd (execOp ρ o) := by
  unfold execOp
  simp only [hop, hx, convert]
  refine syn_v (syn_bindU hs (syn_bindU hd ?_))
  cases a <;> exact syn_bindU he (syn_bytesToString _)
end

theorem OpR.of {P : Program} {B : Nat} {s : Sem Next} {w1 w' : World} {x : Next} (h : s.run P w1 = .ok x w') (hs : Syn P (fun _ => False) (fun _ => False) s) : OpR P B s w1 x w' :=
  ⟨h, _, _, fun hv => synR_of _ _ _ _ hs hv h, fun _ h => h.elim, fun _ h => h.elim, fun _ _ h => h.elim⟩
theorem OpR.ofW {P : Program} {B : Nat} {s : Sem Next} {w1 w' : World} {x : Next} (h : s.run P w1 = .ok x w') (hs : Syn P (fun b => B ≤ b) (fun _ => False) s) : OpR P B s w1 x w' :=
  ⟨h, _, _, fun hv => synR_of _ _ _ _ hs hv h, fun _ h => h, fun _ h => h.elim, fun _ _ h => h.elim⟩
/-- What is asked of an operation's program in world w. -/
def OkS (P : Program) (B : Nat) (w : World) (s : Sem Next) : Prop := ∃ Rd, (Syn P (fun b => B ≤ b) Rd s ∨ SynR P (fun b => B ≤ b) Rd s w) ∧ (∀ b, Rd b → ¬ Psn w b) ∧ NoChan Rd w
theorem OkS.opR {P : Program} {B : Nat} {s : Sem Next} {w1 w' : World} {x : Next} (h : s.run P w1 = .ok x w') (hs : OkS P B w1 s) : OpR P B s w1 x w' := by
  obtain ⟨Rd, h1, h2, h3⟩ := hs
  exact ⟨h, _, Rd, fun hv => h1.elim (fun h1 => synR_of _ _ _ _ h1 hv h) id, fun _ h => h, h2, h3⟩
/-- Nothing is asked of what is looked at. -/
theorem synR {P : Program} {B : Nat} {w : World} {s : Sem Next} (h : ∀ Wr Rd, Syn P Wr Rd s) : OkS P B w s :=
  ⟨fun _ => False, .inl (h _ _), fun _ h => h.elim, fun _ _ h => h.elim⟩
theorem synRW {P : Program} {B : Nat} {w : World} {s : Sem Next} (h : Syn P (fun b => B ≤ b) (fun _ => False) s) : OkS P B w s :=
  ⟨fun _ => False, .inl h, fun _ h => h.elim, fun _ _ h => h.elim⟩
theorem one_block {b : Nat} {w : World} {o : Nat} {v : Value} (hc : w.cell? ⟨b, o, none⟩ = some v) : (∀ c, c = b → ¬ Psn w c) ∧ NoChan (fun c => c = b) w := by
  refine ⟨fun c e hp => ?_, fun c x e hx => ?_⟩
  · subst e; rw [poison_cell (a := ⟨c, o, none⟩) hp] at hc; cases hc
  · subst e
    unfold World.cell? at hc
    simp only [hx] at hc
    split at hc
    · rename_i heq; cases heq; rfl
    · cases hc
/-- One block of cells is looked at. -/
theorem synR1 {P : Program} {B b : Nat} {w : World} {s : Sem Next} {o : Nat} {v : Value} (hc : w.cell? ⟨b, o, none⟩ = some v) (h : Syn P (fun b => B ≤ b) (fun c => c = b) s) : OkS P B w s :=
  ⟨_, .inl h, (one_block hc).1, (one_block hc).2⟩
theorem synR1w {P : Program} {B b : Nat} {w : World} {s : Sem Next} {o : Nat} {v : Value} (hc : w.cell? ⟨b, o, none⟩ = some v) (h : SynR P (fun b => B ≤ b) (fun c => c = b) s w) : OkS P B w s :=
  ⟨_, .inr h, (one_block hc).1, (one_block hc).2⟩
/-- One block without cells is looked at. -/
theorem synR1o {P : Program} {B b : Nat} {w : World} {s : Sem Next} {x : Obj} (hx : w.heap[b]? = some x) (hb : isBad x = false) (hne : ∀ c t z, x ≠ .cells c t z) (h : Syn P (fun b => B ≤ b) (fun c => c = b) s) : OkS P B w s := by
  refine ⟨_, .inl h, fun c e hp => ?_, fun c y e hy => ?_⟩
  · subst e
    unfold Psn at hp
    rw [hx] at hp; cases hp
    exact hne _ _ _ rfl
  · subst e
    rw [hx] at hy; cases hy
    exact bad_chan hb
section
variable {P : Program} {Wr Rd : Nat → Prop}
theorem syn_variablesAt (a : Addr) (u : TypeId) (n : Nat) (h : Rd a.block) : Syn P Wr Rd (variablesAt a u n) := by
  unfold variablesAt
  refine syn_bind syn_program fun p => syn_bind (syn_shape _ h) fun x => ?_
  split <;> trivial
theorem syn_loadBytes : ∀ (n : Nat) (a : Addr) (acc : ByteArray), Syn P Wr Rd (loadBytes a acc n)
  | 0, a, acc => by unfold loadBytes; trivial
  | n + 1, a, acc => by
    unfold loadBytes
    refine syn_bind (syn_load _) fun v => ?_
    split
    · exact syn_loadBytes n _ _
    · trivial
theorem syn_usd (t : TypeId) (ty : Array TypeId) (a : Option Addr) (n c : Nat) (h : a = none ∨ c ≠ 0) : Syn P Wr Rd (Builtin.unsafeSliceData_ ty t #[.slice a n c]) := by
  cases a with
  | none => exact syn_pure _
  | some a =>
    have hc : c ≠ 0 := by rcases h with h | h; cases h; exact h
    show Syn P Wr Rd (if c ≠ 0 then pure (Value.pointer (some a)) else _)
    rw [if_pos hc]
    exact syn_pure _
theorem syn_ustr (t : TypeId) (ts : Array TypeId) (a : Option Addr) (v : Value) (h : ∀ ad, a = some ad → Wr ad.block ∧ Rd ad.block) : Syn P Wr Rd (Builtin.unsafeString_ ts t #[.pointer a, v]) := by
  refine syn_bind (s := asInt v) (syn_asInt _) fun n => ?_
  cases a with
  | none =>
    dsimp only
    repeat' (first
      | with_reducible exact syn_runtimePanic _ | with_reducible exact syn_unsupported _ | with_reducible exact syn_stuck _ | with_reducible exact syn_pure _
      | with_reducible refine syn_ite ?_ ?_
      | with_reducible refine syn_bind ?_ fun _ => ?_
      | split)
  | some ad =>
    obtain ⟨h1, h2⟩ := h ad rfl
    dsimp only
    repeat' (first
      | with_reducible exact syn_runtimePanic _ | with_reducible exact syn_unsupported _ | with_reducible exact syn_stuck _ | with_reducible exact syn_pure _ | with_reducible exact syn_elemOf _
      | with_reducible exact syn_variablesAt _ _ _ h2 | with_reducible exact syn_loadBytes _ _ _ | with_reducible exact syn_freeze _ _ h1 h2
      | with_reducible refine syn_ite ?_ ?_
      | with_reducible refine syn_bind ?_ fun _ => ?_
      | split)
theorem syn_rangeS {t : TypeId} {s : ByteArray} (hu : P.underlying t = some .string) : Syn P Wr Rd (Instr.range t (.string s)) := by
  unfold Instr.range
  refine syn_bindU hu ?_
  exact syn_bind (s := newObj (.stringIter s 0)) (syn_newObj _ rfl) fun _ => trivial
theorem syn_nextS (b : Nat) (t : TypeId) (hr : Rd b) (hw : Wr b) : Syn P Wr Rd (Instr.next (.pointer (some ⟨b, 0, none⟩)) true t) := by
  unfold Instr.next
  simp only
  refine syn_bind (syn_getObj _ hr) fun x => ?_
  split
  · split
    · exact syn_bind (syn_setObj _ _ hr hw rfl) fun _ => trivial
    · trivial
  all_goals first | trivial | (rename_i h; cases h) | skip
theorem syn_intDiv (op : BinOp) (k : IntKind) (x y : Int) : Syn P Wr Rd (Op.intDiv op k x y) := by
  unfold Op.intDiv
  split
  · exact syn_runtimePanic _
  · split <;> trivial
theorem syn_divOp {ρ : Operand → Value} {o : Oper} {op : BinOp} {t u : TypeId} {x y : Operand} {k : IntKind} {a b : Int} (hop : o.op = .binOp op t x y u) (hq : op = .quo ∨ op = .rem) (hx : ρ x = .int k a) (hy : ρ y = .int k b) : Syn P Wr Rd (execOp ρ o) := by
  unfold execOp
  rcases hq with rfl | rfl <;>
  · simp only [hop, hx, hy, eqGuard, binOp]
    refine syn_v (syn_bind (syn_pure _) fun _ => ?_)
    simp only [ne_eq, not_true_eq_false, if_false]
    exact syn_intDiv _ _ _ _
theorem syn_sameAddr (a : Addr) : Syn P Wr Rd (sameAddr a a) := by
  unfold sameAddr
  simp only [beq_self_eq_true, if_true]
  trivial
theorem syn_equal_ptr {t e : TypeId} (a : Addr) (hu : P.underlying t = some (.pointer e)) : Syn P Wr Rd (Op.equal t (.pointer (some a)) (.pointer (some a))) := by
  unfold Op.equal Op.maxDepth Op.equalIn
  refine syn_bindU hu ?_
  simp only
  refine syn_bind (syn_sizeOf _) fun n => ?_
  split
  · exact syn_sameAddr a
  · split
    · trivial
    · exact syn_bind (syn_choose _) fun _ => trivial
theorem syn_peOp {ρ : Operand → Value} {o : Oper} {op : BinOp} {t u e : TypeId} {x y : Operand} {a : Addr} (hop : o.op = .binOp op t x y u) (hq : op = .eql ∨ op = .neq) (hu : P.underlying t = some (.pointer e)) (hx : ρ x = .pointer (some a)) (hy : ρ y = .pointer (some a)) : Syn P Wr Rd (execOp ρ o) := by
  unfold execOp
  rcases hq with rfl | rfl <;>
  · simp only [hop, hx, hy, eqGuard, binOp]
    exact syn_v (syn_bind (syn_pure _) fun _ => syn_bind (syn_equal_ptr a hu) fun _ => trivial)
/-! a pointer turned into a raw one, and back -/
theorem synR_bindU {β : Type} {t : TypeId} {d : TypeDesc} {f : TypeDesc → Sem β} {w : World} (h : P.underlying t = some d) (hf : SynR P Wr Rd (f d) w) : SynR P Wr Rd (underlying t >>= f) w := by
  show SynR P Wr Rd ((match P.underlying t with | some d => (pure d : Sem TypeDesc) | none => stuck "no such type") >>= f) w
  rw [h]; exact hf
theorem synR_shape {β : Type} {r : Nat} {k : Option (TypeId × Nat) → Sem β} {w : World} {x : Option (TypeId × Nat)} (hr : Rd r) (hx : w.shape? r = x) (hk : SynR P Wr Rd (k x) w) : SynR P Wr Rd (shape r >>= k) w := by
  show Rd r ∧ SynR P Wr Rd (k (w.shape? r)) w
  rw [hx]; exact ⟨hr, hk⟩
theorem synR_sizeOf {β : Type} {t : TypeId} {i : TypeInfo} {f : Nat → Sem β} {w : World} (hi : P.info? t = some i) (hf : SynR P Wr Rd (f i.size) w) : SynR P Wr Rd (sizeOf t >>= f) w := by
  show SynR P Wr Rd (((match P.info? t with | some i => (pure i : Sem TypeInfo) | none => stuck "no such type") >>= fun i => pure i.size) >>= f) w
  rw [hi]; exact hf
theorem synR_seenAt {β : Type} {a : Addr} {f : Addr → Sem β} {w : World} {e : TypeId × Nat} (hr : Rd a.block) (hs : w.shape? a.block = some e) (hf : SynR P Wr Rd (f a) w) : SynR P Wr Rd (Conv.seenAt a >>= f) w := by
  unfold Conv.seenAt viewAt
  show Rd a.block ∧ _
  refine ⟨hr, ?_⟩
  rw [hs]
  exact hf
theorem synR_toUnsafe {s d t : TypeId} {a : Addr} {w : World} {e : TypeId} {n : Nat} {i : TypeInfo} (hs : P.underlying s = some (.pointer t)) (hd : P.underlying d = some .unsafePointer) (hi : P.info? t = some i) (hz : i.size ≠ 0) (hsh : w.shape? a.block = some (e, n)) (hlt : a.off < n) (hsp : a.spot = none) (hr : Rd a.block) :
    SynR P Wr Rd (Conv.unsafePointer s d (.pointer (some a))) w := by
  unfold Conv.unsafePointer
  refine synR_bindU hs (synR_bindU hd ?_)
  refine synR_seenAt hr hsh ?_
  unfold cellsIn
  show Rd a.block ∧ _
  refine ⟨hr, ?_⟩
  rw [hsh]
  refine synR_sizeOf hi ?_
  show SynR P Wr Rd (if (decide (i.size = 0) || (decide (a.off ≥ n) && a.spot.isNone)) = true then _ else pure (Value.pointer (some a))) w
  rw [if_neg (by simp [hz]; omega)]
  trivial
theorem synR_fromUnsafe {s d u : TypeId} {a : Addr} {w : World} {e : TypeId} {n : Nat} {i : TypeInfo} (hs : P.underlying s = some .unsafePointer) (hd : P.underlying d = some (.pointer u)) (hi : P.info? u = some i) (hsh : w.shape? a.block = some (e, n)) (hl : liesAt P P.depth e (n / P.cellsOf e) a.off u 1 = true) (hr : Rd a.block) :
    SynR P Wr Rd (Conv.unsafePointer s d (.pointer (some a))) w := by
  unfold Conv.unsafePointer
  refine synR_bindU hs (synR_bindU hd ?_)
  refine synR_seenAt hr hsh ?_
  refine synR_sizeOf hi ?_
  unfold variablesAt
  show Rd a.block ∧ _
  refine ⟨hr, ?_⟩
  rw [hsh]
  show SynR P Wr Rd (if (decide (i.size = 0) || liesAt P P.depth e (n / P.cellsOf e) a.off u 1) = true then pure (Value.pointer (some a)) else _) w
  rw [if_pos (by simp [hl])]
  trivial
theorem synR_cvtOp {ρ : Operand → Value} {o : Oper} {s d : TypeId} {x : Operand} {v : Value} {w : World} (hop : o.op = .convert s d x) (hx : ρ x = v) (hk : (∃ t, P.underlying s = some (.pointer t) ∧ P.underlying d = some .unsafePointer) ∨ (∃ t, P.underlying s = some .unsafePointer ∧ P.underlying d = some (.pointer t)))
    (h : SynR P Wr Rd (Conv.unsafePointer s d v) w) (hn : ∃ a, v = .pointer (some a)) : SynR P Wr Rd (execOp ρ o) w := by
  obtain ⟨a, rfl⟩ := hn
  unfold execOp
  simp only [hop, hx, convert]
  rcases hk with ⟨t, h1, h2⟩ | ⟨t, h1, h2⟩ <;>
  · refine synR_bind _ _ w (synR_bindU h1 (synR_bindU h2 h)) (fun _ _ _ => trivial)
end
end Go.Tx
