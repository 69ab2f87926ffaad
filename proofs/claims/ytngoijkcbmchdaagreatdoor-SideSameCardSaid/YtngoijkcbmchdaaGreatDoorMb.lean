/- The pool's machine, first part: what a team keeps under acts on hidden blocks. -/
import Derived.Test.YtngoijkcbmchdaaGreatDoorAc
set_option linter.unusedVariables false
set_option linter.unusedSimpArgs false
namespace Go.Tx
open Go.Conc Go.ConcN
open Go.ConcR (KK wgBlock WgAt stA smA rd wr mk)

/-- Nobody sees the block. -/
def Hid (ws : Nat → World) (n b : Nat) : Prop := ∀ j, j < n → b < (ws j).heap.size → Psn (ws j) b
theorem Hid.mine {ws : Nat → World} {Bs : Nat → Nat} {n k b : Nat} (h : Hid ws n b) : ¬ Mine ws Bs n k b := fun m => m.2.2.2 (h k m.1 m.2.2.1)
theorem Hid.seen {ws : Nat → World} {Bs : Nat → Nat} {n k b : Nat} (h : Hid ws n b) : ¬ Seen ws Bs n k b := fun m => m.2.2.2 (h k m.1 m.2.2.1)

variable [Old]
/-- The world turned at hidden blocks alone. -/
structure Apt (ws : Nat → World) (n : Nat) (W W' : World) : Prop where
  os : W'.os = W.os
  tape : W'.tape = W.tape
  size : W'.heap.size = W.heap.size
  at_ : ∀ b, b < W.heap.size → ¬ Hid ws n b → W'.heap[b]? = W.heap[b]?
  old : Kept W → Kept W'
theorem Apt.refl (ws : Nat → World) (n : Nat) (W : World) : Apt ws n W W := ⟨rfl, rfl, rfl, fun _ _ _ => rfl, id⟩
theorem Apt.drew {ws : Nat → World} {n : Nat} {W W' : World} (h : Apt ws n W W') (d : Nat) : Apt ws n W (W'.at d) := ⟨h.os, h.tape, h.size, h.at_, fun k => let q := h.old k; ⟨q.out, q.le, q.at_⟩⟩
theorem Apt.cell {ws : Nat → World} {n : Nat} (W : World) {b : Nat} (h : Hid ws n b) (hb : Old.b ≤ b) (o : Nat) (v : Value) : Apt ws n W (W.setCell ⟨b, o, none⟩ v) :=
  ⟨rfl, rfl, by simp [World.setCell], fun c hc hn => setCell_other fun e => hn (by rw [← show b = c from e]; exact h), fun k => k.keep rfl (by simp [World.setCell]) fun c hc => setCell_other fun e => by have : b = c := e; omega⟩
theorem Apt.put {ws : Nat → World} {n : Nat} (W : World) {b : Nat} (h : Hid ws n b) (hb : Old.b ≤ b) (o : Obj) : Apt ws n W { W with heap := W.heap.setIfInBounds b o } :=
  ⟨rfl, rfl, by simp, fun c hc hn => by simp only; rw [Array.getElem?_setIfInBounds_ne (fun e => hn (by rw [← show b = c from e]; exact h))], fun k => k.keep rfl (by simp) fun c hc => by simp only; rw [Array.getElem?_setIfInBounds_ne (fun e => by omega)]⟩

theorem Team.apt {ws : Nat → World} {Bs : Nat → Nat} {n : Nat} {W W' : World} {t : Trace} (h : Team ws Bs n W t) (ha : Apt ws n W W') : Team ws Bs n W' t := by
  refine ⟨fun k hk => (h.sees k hk).keep ha.os ha.tape (by rw [ha.size]; exact Nat.le_refl _) (fun b hb hp => ha.at_ b (Nat.lt_of_lt_of_le hb (h.sees k hk).size) fun hh => hp (hh k hk hb)), h.apart, ?_, ha.old h.old, h.lo⟩
  rw [ha.size]; exact h.tr

/-- Entries of one goroutine that touch hidden blocks alone. -/
theorem Team.mark {ws : Nat → World} {Bs : Nat → Nat} {n k : Nat} {W : World} {t u : Trace} (h : Team ws Bs n W t) (hg : ∀ op ∈ u, op.g = k)
    (hu : ∀ op ∈ u, ∀ x, op.act.touch? = some x → (∀ b, blk x.loc = some b → b < W.heap.size ∧ Hid ws n b) ∧ ∀ said i a, touchAt t i = some a → a.conflicts said x → Knows t k i) : Team ws Bs n W (t ++ u) := by
  refine ⟨h.sees, h.apart, ⟨fun j b l hj hl => (h.tr.own j b l hj hl).app fun op hop x hx e => ?_, fun j b l hj hl => (h.tr.rd j b l hj hl).app fun op hop x hx e hw => ?_, fun said => ?_, fun op hop x b hx hb => ?_⟩, h.old, h.lo⟩
  · exact absurd hj (((hu op hop x hx).1 b (by rw [e]; exact hl)).2.mine)
  · exact absurd hj (((hu op hop x hx).1 b (by rw [e]; exact hl)).2.seen)
  · exact noRace_append (h.tr.nr said) hg fun i a ha op hop x hx hc => (hu op hop x hx).2 said i a ha hc
  · rcases Array.mem_append.1 hop with hop | hop
    · exact h.tr.low op hop x b hx hb
    · exact ((hu op hop x hx).1 b hb).1
omit [Old] in
theorem noTouch_app {t : Trace} {said : Bool} (h : ¬ Race said t) : ∀ (u : List MemOp), (∀ op ∈ u, op.act.touch? = none) → ¬ Race said (t ++ u.toArray) := by
  intro u
  induction u generalizing t with
  | nil => intro _; simpa using h
  | cons y u ih =>
    intro hu
    have e : t ++ (y :: u).toArray = (t ++ #[y]) ++ u.toArray := by apply Array.ext'; simp
    rw [e]
    refine ih (noRace_append (g := y.g) h (fun op hop => by simp at hop; rw [hop]) fun i a _ op hop b hb _ => ?_) fun op hop => hu op (by simp [hop])
    simp at hop; subst hop; rw [hu op (by simp)] at hb; cases hb
/-- Entries that touch nothing, whosever. -/
theorem Team.mute {ws : Nat → World} {Bs : Nat → Nat} {n : Nat} {W : World} {t u : Trace} (h : Team ws Bs n W t) (hu : ∀ op ∈ u, op.act.touch? = none) : Team ws Bs n W (t ++ u) := by
  refine ⟨h.sees, h.apart, ⟨fun j b l hj hl => (h.tr.own j b l hj hl).app fun op hop x hx _ => ?_, fun j b l hj hl => (h.tr.rd j b l hj hl).app fun op hop x hx _ _ => ?_, fun said => ?_, fun op hop x b hx hb => ?_⟩, h.old, h.lo⟩
  · rw [hu op hop] at hx; cases hx
  · rw [hu op hop] at hx; cases hx
  · have := noTouch_app (h.tr.nr said) u.toList (by simpa using hu); simpa using this
  · rcases Array.mem_append.1 hop with hop | hop
    · exact h.tr.low op hop x b hx hb
    · rw [hu op hop] at hx; cases hx

/-- A view is put in the place of another that sees no less. -/
theorem Team.review {ws : Nat → World} {Bs : Nat → Nat} {n k : Nat} {W w' : World} {t : Trace} (h : Team ws Bs n W t) (hs : Sees w' W) (hsub : ∀ b, b < w'.heap.size → ¬ Psn w' b → b < (ws k).heap.size ∧ ¬ Psn (ws k) b) (hk : k < n) :
    Team (upd ws k w') Bs n W t := by
  have := h.weaken hs hsub (Nat.le_refl (Bs k)) hk
  have e : upd Bs k (Bs k) = Bs := by funext j; unfold upd; split <;> simp_all
  rwa [e] at this
omit [Old] in
theorem Hid.review {ws : Nat → World} {n k b : Nat} {w' : World} (h : Hid ws n b) (hsub : ∀ b, b < w'.heap.size → ¬ Psn w' b → b < (ws k).heap.size ∧ ¬ Psn (ws k) b) : Hid (upd ws k w') n b := by
  intro j hj hb
  by_cases e : j = k
  · subst e
    rw [upd_same] at hb ⊢
    by_cases hp : Psn w' b
    · exact hp
    · obtain ⟨q1, q2⟩ := hsub b hb hp
      exact absurd (h j hj q1) q2
  · rw [upd_ne _ _ e] at hb ⊢; exact h j hj hb

omit [Old] in
/-- The view, brought up to the world, saying something else. -/
theorem Sees.say {w W : World} (h : Sees w W) (a b c : Nat) : Sees ((World.upto w W).say a b c) W := by
  refine ⟨h.os, h.tape, by rw [show ((World.upto w W).say a b c).heap = (World.upto w W).heap from rfl, upto_size h.size]; exact Nat.le_refl _, fun d hd => ?_, fun d x hx => h.noView d x hx⟩
  rw [show ((World.upto w W).say a b c).heap = (World.upto w W).heap from rfl] at hd ⊢
  by_cases hp : Psn (World.upto w W) d
  · exact .inl hp
  · exact .inr (h.over.same d hp)
omit [Old] in
theorem Sees.upto {w W : World} (h : Sees w W) : Sees (World.upto w W) W := by
  refine ⟨h.os, h.tape, by rw [upto_size h.size]; exact Nat.le_refl _, fun d hd => ?_, fun d x hx => h.noView d x hx⟩
  by_cases hp : Psn (World.upto w W) d
  · exact .inl hp
  · exact .inr (h.over.same d hp)
omit [Old] in
theorem upto_sub {w W : World} (h : w.heap.size ≤ W.heap.size) : ∀ b, b < (World.upto w W).heap.size → ¬ Psn (World.upto w W) b → b < w.heap.size ∧ ¬ Psn w b := by
  intro b hb hp
  rw [upto_size h] at hb
  rcases Nat.lt_or_ge b w.heap.size with hlt | hge
  · exact ⟨hlt, fun x => hp (by unfold Psn at *; rw [upto_old hlt]; exact x)⟩
  · exact absurd (upto_new hge hb) hp

/-! ### A crowd's common part: everybody's views, the trace -/
structure Grp (ws : Nat → World) (Bs : Nat → Nat) (k0 n : Nat) (W : World) (t : Trace) (dead : Nat → Prop) : Prop where
  team : Team ws Bs n W t
  bs : ∀ k, k < n → Bs k ≤ W.heap.size
  hand : ∀ i g, t.g? i = some g → g ≠ 0 → g < k0 → t.counts i → Knows t 0 i
  np : ∀ i a, touchAt t i = some a → a.kind ≠ .plain → ∃ b, blk a.loc = some b ∧ dead b
  hid : ∀ b, dead b → b < W.heap.size ∧ Hid ws n b
  gsz : ∀ (i : Nat) (op : MemOp), t[i]? = some op → op.g < n

section
variable {ws : Nat → World} {Bs : Nat → Nat} {k0 n k : Nat} {W W' : World} {t u : Trace} {dead : Nat → Prop}

theorem Grp.drew (h : Grp ws Bs k0 n W t dead) (d : Nat) : Grp ws Bs k0 n (W.at d) t dead := ⟨h.team.drew d, h.bs, h.hand, h.np, h.hid, h.gsz⟩
theorem Grp.apt (h : Grp ws Bs k0 n W t dead) (ha : Apt ws n W W') : Grp ws Bs k0 n W' t dead :=
  ⟨h.team.apt ha, fun k hk => by rw [ha.size]; exact h.bs k hk, h.hand, h.np, fun b hb => by rw [ha.size]; exact h.hid b hb, h.gsz⟩
theorem Grp.review {w' : World} (h : Grp ws Bs k0 n W t dead) (hs : Sees w' W) (hsub : ∀ b, b < w'.heap.size → ¬ Psn w' b → b < (ws k).heap.size ∧ ¬ Psn (ws k) b) (hk : k < n) : Grp (upd ws k w') Bs k0 n W t dead :=
  ⟨h.team.review hs hsub hk, h.bs, h.hand, h.np, fun b hb => ⟨(h.hid b hb).1, (h.hid b hb).2.review hsub⟩, h.gsz⟩
theorem Grp.say (h : Grp ws Bs k0 n W t dead) (hk : k < n) (a b c : Nat) : Grp (upd ws k ((World.upto (ws k) W).say a b c)) Bs k0 n W t dead :=
  h.review ((h.team.sees k hk).say a b c) (upto_sub (h.team.sees k hk).size) hk
theorem Grp.upto (h : Grp ws Bs k0 n W t dead) (hk : k < n) : Grp (upd ws k (World.upto (ws k) W)) Bs k0 n W t dead :=
  h.review (h.team.sees k hk).upto (upto_sub (h.team.sees k hk).size) hk

omit [Old] in
theorem knows_app {t u : Trace} {g i : Nat} (h : Knows t g i) : Knows (t ++ u) g i := h.app u
omit [Old] in
theorem g_app {t u : Trace} {i g : Nat} (h : (t ++ u).g? i = some g) : t.g? i = some g ∨ (t.size ≤ i ∧ ∃ op ∈ u, op.g = g ∧ (t ++ u)[i]? = some op) := by
  obtain ⟨op, ho, hg⟩ := Option.map_eq_some_iff.1 h
  rcases getElem?_append_cases ho with ⟨hlt, ho'⟩ | ⟨hge, hou⟩
  · exact .inl (by rw [Trace.g?, ho']; simp [hg])
  · exact .inr ⟨hge, op, hou, hg, ho⟩
omit [Old] in
theorem touch_app {t u : Trace} {i : Nat} {a : Touch} (h : touchAt (t ++ u) i = some a) : (i < t.size ∧ touchAt t i = some a) ∨ ∃ op ∈ u, (t ++ u)[i]? = some op ∧ op.act.touch? = some a := by
  obtain ⟨z, hz, hza⟩ := touch_of h
  rcases getElem?_append_cases hz with ⟨hlt, hz'⟩ | ⟨_, hzu⟩
  · exact .inl ⟨hlt, by rw [touchAt_of hz']; exact hza⟩
  · exact .inr ⟨z, hzu, hz, hza⟩

/-- The trace grows: what an old goroutine of the others says counts for nothing; what is not touched plainly is a dead block. -/
theorem Grp.grow (h : Grp ws Bs k0 n W t dead) (hT : Team ws Bs n W (t ++ u)) (hg : ∀ op ∈ u, op.g < n) (hold : ∀ op ∈ u, op.g ≠ 0 → op.g < k0 → op.act.touch? = none)
    (hnp : ∀ op ∈ u, ∀ x, op.act.touch? = some x → x.kind ≠ .plain → ∃ b, blk x.loc = some b ∧ dead b) : Grp ws Bs k0 n W (t ++ u) dead := by
  refine ⟨hT, h.bs, fun i g hgi hne hlt hc => ?_, fun i a ha hk => ?_, h.hid, fun i op hi => ?_⟩
  · rcases g_app hgi with hgo | ⟨hge, op, hop, rfl, ho⟩
    · have hi : i < t.size := by
        obtain ⟨op, ho, _⟩ := Option.map_eq_some_iff.1 hgo
        exact lt_size_of_getElem? ho
      exact (h.hand i g hgo hne hlt ((counts_old hi).1 hc)).app u
    · obtain ⟨x, hx, _⟩ := hc
      have := touchAt_of ho
      rw [touchAt, hx, hold op hop hne hlt] at this; cases this
  · rcases touch_app ha with ⟨_, ha'⟩ | ⟨op, hop, _, hx⟩
    · exact h.np i a ha' hk
    · exact hnp op hop a hx hk
  · rcases getElem?_append_cases hi with ⟨_, hi'⟩ | ⟨_, hiu⟩
    · exact h.gsz i op hi'
    · exact hg op hiu

theorem Grp.mute (h : Grp ws Bs k0 n W t dead) (hu : ∀ op ∈ u, op.act.touch? = none) (hg : ∀ op ∈ u, op.g < n) : Grp ws Bs k0 n W (t ++ u) dead :=
  h.grow (h.team.mute hu) hg (fun op hop _ _ => hu op hop) fun op hop x hx => by rw [hu op hop] at hx; cases hx

theorem Grp.mark (h : Grp ws Bs k0 n W t dead) (hk : k < n) (hk0 : k = 0 ∨ k0 ≤ k) (hg : ∀ op ∈ u, op.g = k)
    (hu : ∀ op ∈ u, ∀ x, op.act.touch? = some x → (∀ b, blk x.loc = some b → b < W.heap.size ∧ Hid ws n b) ∧ (x.kind ≠ .plain → ∃ b, blk x.loc = some b ∧ dead b) ∧ ∀ said i a, touchAt t i = some a → a.conflicts said x → Knows t k i) : Grp ws Bs k0 n W (t ++ u) dead :=
  h.grow (h.team.mark hg fun op hop x hx => ⟨(hu op hop x hx).1, (hu op hop x hx).2.2⟩) (fun op hop => by rw [hg op hop]; exact hk) (fun op hop h1 h2 => by rw [hg op hop] at h1 h2; omega) fun op hop x hx hkd => (hu op hop x hx).2.1 hkd

/-- The entry of a step of one's own, as an operation. -/
def OwnOp (ws : Nat → World) (n k : Nat) (op : MemOp) : Prop :=
  op.g = k ∧ (op.act = .mark .noRoom ∨ ∃ x b, op.act.touch? = some x ∧ x.kind = .plain ∧ blk x.loc = some b ∧ ∃ e, op.act = .access e)

/-- A STEP OF ONE's OWN. -/
theorem Grp.step {P : Program} {main : Bool} {w' : World} {g g' : Goroutine} {es : Array Event} {fn : FuncId} {pos : String} (h : Grp ws Bs k0 n W t dead) (hk : k < n) (hk0 : k = 0 ∨ k0 ≤ k)
    (ht : Tr P main (Bs k) g (World.upto (ws k) W) g' w' es) (hv : NoView w') :
    ∃ W', stepG P main g W = .go g' W' es ∧ Grp (upd ws k w') Bs k0 n W' (t ++ MemOp.ofEvents k fn pos es) dead ∧ W.heap.size ≤ W'.heap.size ∧
      (∀ b, b < W.heap.size → Hid ws n b → W'.heap[b]? = W.heap[b]? ∧ Hid (upd ws k w') n b) ∧ (∀ b, b < W.heap.size → b < Bs k → W'.heap[b]? = W.heap[b]?) ∧
      (∀ op ∈ MemOp.ofEvents k fn pos es, op.g = k ∧ (op.act = .mark .noRoom ∨ ∃ x b, op.act.touch? = some x ∧ x.kind = .plain ∧ blk x.loc = some b ∧ (b < W.heap.size → ¬ Hid ws n b) ∧ ∃ e, op.act = .access e)) ∧ ∀ e ∈ es, e.loc ≠ .mark .disable ∧ e.loc ≠ .mark .enable := by
  have hS := h.team.sees k hk
  obtain ⟨W', h1, h2, h3⟩ := h.team.step (fn := fn) (pos := pos) hk (h.bs k hk) ht hv
  obtain ⟨W2, e1, e2, e3, e4, e5, e6, e7, e8, e9⟩ := own_step hS ht hv
  obtain rfl : W' = W2 := by rw [h1] at e1; cases e1; rfl
  have hpz : ∀ b, b < W.heap.size → Hid ws n b → Psn (World.upto (ws k) W) b := by
    intro b hb hh
    rcases Nat.lt_or_ge b (ws k).heap.size with hlt | hge
    · unfold Psn; rw [upto_old hlt]; exact hh k hk hlt
    · exact upto_new hge hb
  have hops : ∀ op ∈ MemOp.ofEvents k fn pos es, op.g = k ∧ (op.act = .mark .noRoom ∨ ∃ x b, op.act.touch? = some x ∧ x.kind = .plain ∧ blk x.loc = some b ∧ (b < W.heap.size → ¬ Hid ws n b) ∧ ∃ e, op.act = .access e) := by
    intro op hop
    rw [ofEvents_eq] at hop
    obtain ⟨e, he, rfl⟩ := Array.mem_map.1 hop
    refine ⟨rfl, ?_⟩
    rcases e9 e he with ⟨l, b, wr, rfl, hl, hp, _, _⟩ | rfl
    · refine .inr ?_
      rcases hl with ⟨a, rfl, hb⟩ | rfl
      · exact ⟨⟨.cell a, wr, .plain⟩, b, by cases wr <;> rfl, rfl, by simp [blk, hb], fun hlt hh => hp (hpz b hlt hh), ⟨.cell a, wr, false⟩, by cases wr <;> rfl⟩
      · exact ⟨⟨.obj b, wr, .plain⟩, b, by cases wr <;> rfl, rfl, rfl, fun hlt hh => hp (hpz b hlt hh), ⟨.obj b, wr, false⟩, by cases wr <;> rfl⟩
    · exact .inl rfl
  have hhid : ∀ b, b < W.heap.size → Hid ws n b → W'.heap[b]? = W.heap[b]? ∧ Hid (upd ws k w') n b := by
    intro b hb hh
    refine ⟨e7 b hb (.inr (hpz b hb hh)), fun j hj hbj => ?_⟩
    by_cases e : j = k
    · subst e; rw [upd_same]; exact e8 b hb (hpz b hb hh)
    · rw [upd_ne _ _ e] at hbj ⊢; exact hh j hj hbj
  refine ⟨W', h1, ⟨h2, fun j hj => Nat.le_trans (h.bs j hj) h3, fun i g hgi hne hlt hc => ?_, fun i a ha hkd => ?_, fun b hb => ?_, fun i op hi => ?_⟩, h3, hhid, fun b hb hlt => e7 b hb (.inl hlt), hops, fun e he => ?_⟩
  rotate_left 4
  · rcases e9 e he with ⟨l, b, wr, rfl, hl, _⟩ | rfl
    · rcases hl with ⟨a, rfl, _⟩ | rfl <;> exact ⟨by simp, by simp⟩
    · exact ⟨by simp, by simp⟩
  · rcases g_app hgi with hgo | ⟨hge, op, hop, rfl, ho⟩
    · have hi : i < t.size := by
        obtain ⟨op, ho, _⟩ := Option.map_eq_some_iff.1 hgo
        exact lt_size_of_getElem? ho
      exact (h.hand i g hgo hne hlt ((counts_old hi).1 hc)).app _
    · have := (hops op hop).1; omega
  · rcases touch_app ha with ⟨_, ha'⟩ | ⟨op, hop, _, hx⟩
    · exact h.np i a ha' hkd
    · rcases (hops op hop).2 with e | ⟨x, b, hx', hpl, _⟩
      · rw [e] at hx; cases hx
      · rw [hx'] at hx; cases hx; exact absurd hpl hkd
  · obtain ⟨q1, q2⟩ := h.hid b hb
    exact ⟨by omega, (hhid b q1 q2).2⟩
  · rcases getElem?_append_cases hi with ⟨_, hi'⟩ | ⟨_, hiu⟩
    · exact h.gsz i op hi'
    · rw [(hops op hiu).1]; exact hk
end
end Go.Tx
/- The pool's machine, second part: what falls; where everybody stands; the invariants. -/
namespace Go.Tx
open Go.Conc Go.ConcN
open Go.ConcR (KK wgBlock WgAt stA smA rd wr mk)
variable [Old]

/-! ### What falls -/
def GAr {α : Type 1} (r : α → α → Prop) (l l' : List α) : Prop := ∃ (i : Nat) (a b : α), l'[i]? = some b ∧ r a b ∧ l = l'.set i a
omit [Old] in
theorem gar_cons {α : Type 1} {r : α → α → Prop} {a : α} (ha : Acc r a) : ∀ {l : List α}, Acc (GAr r) l → Acc (GAr r) (a :: l) := by
  induction ha with
  | intro a _ iha =>
    intro l hl
    induction hl with
    | intro l hl' ihl =>
      refine ⟨_, fun y hy => ?_⟩
      obtain ⟨i, x, b, hb, hlt, rfl⟩ := hy
      cases i with
      | zero =>
        simp only [List.getElem?_cons_zero, Option.some.injEq] at hb
        subst hb
        exact iha x hlt ⟨_, hl'⟩
      | succ i =>
        simp only [List.getElem?_cons_succ] at hb
        exact ihl _ ⟨i, x, b, hb, hlt, rfl⟩
omit [Old] in
theorem gar_wf {α : Type 1} {r : α → α → Prop} (h : WellFounded r) : WellFounded (GAr r) := by
  refine ⟨fun l => ?_⟩
  induction l with
  | nil =>
    refine ⟨_, fun y hy => ?_⟩
    obtain ⟨i, x, b, hb, _⟩ := hy
    simp at hb
  | cons a l ih => exact gar_cons (h.apply a) ih

abbrev Wm := Nat × (Rk × Nat)
def Wm.lt : Wm → Wm → Prop := Prod.Lex (· < ·) (Prod.Lex Rk.lt (· < ·))
omit [Old] in
theorem Wm.wf : WellFounded Wm.lt := (Prod.lex Nat.lt_wfRel (Prod.lex ⟨Rk.lt, Rk.wf⟩ Nat.lt_wfRel)).wf
abbrev Mm := Rk × (Nat × Rk)
def Mm.lt : Mm → Mm → Prop := Prod.Lex Rk.lt (Prod.Lex (· < ·) Rk.lt)
omit [Old] in
theorem Mm.wf : WellFounded Mm.lt := (Prod.lex ⟨Rk.lt, Rk.wf⟩ (Prod.lex Nat.lt_wfRel ⟨Rk.lt, Rk.wf⟩)).wf
abbrev Mz := Mm × (List Wm × Nat)
def Mz.lt : Mz → Mz → Prop := Prod.Lex Mm.lt (Prod.Lex (GAr Wm.lt) (· < ·))
omit [Old] in
theorem Mz.wf : WellFounded Mz.lt := (Prod.lex ⟨Mm.lt, Mm.wf⟩ (Prod.lex ⟨GAr Wm.lt, gar_wf Wm.wf⟩ Nat.lt_wfRel)).wf
omit [Old] in
theorem Mz.main {a a' : Mm} (h : Mm.lt a' a) (x y : List Wm × Nat) : Mz.lt (a', x) (a, y) := .left _ _ h
omit [Old] in
theorem Mz.work {a : Mm} {l l' : List Wm} (h : GAr Wm.lt l' l) (n m : Nat) : Mz.lt (a, (l', n)) (a, (l, m)) := .right _ (.left _ _ h)
omit [Old] in
theorem Mz.runs {a : Mm} {l : List Wm} {n m : Nat} (h : n < m) : Mz.lt (a, (l, n)) (a, (l, m)) := .right _ (.right _ h)
def rk0 : Rk := .mk Empty (fun e => nomatch e)
omit [Old] in
theorem GAr.set {l : List Wm} {i : Nat} {a b : Wm} (h : l[i]? = some b) (hr : Wm.lt a b) : GAr Wm.lt (l.set i a) l := ⟨i, a, b, h, hr, rfl⟩

omit [Old] in
theorem RunR.cases {P : Program} {main : Bool} {B : Nat} {Ac : Acs} {Z : Goroutine → World → Prop} {ρ : Rk} {g : Goroutine} {w : World} (h : RunR P main B Ac Z ρ g w) :
    (∀ w1, Push w w1 → Z g w1) ∨
    (g.status = .running ∧ ∀ w1, Push w w1 → NoView w1 → ∃ ρ' g' w' es, Rk.lt ρ' ρ ∧ Tr P main B g w1 g' w' es ∧ NoView w' ∧ RunR P main B Ac Z ρ' g' w') ∨
    (g.status = .running ∧ ∀ w1, Push w w1 → NoView w1 → ∃ K : Goroutine → World → Prop, Ac main g w1 K ∧ ∀ g' w', K g' w' → ∃ ρ', Rk.lt ρ' ρ ∧ RunR P main B Ac Z ρ' g' w') := by
  cases ρ with
  | mk I f =>
    rcases h with h | ⟨hs, h⟩ | ⟨hs, h⟩
    · exact .inl h
    · exact .inr (.inl ⟨hs, fun w1 p q => let ⟨i, g', w', es, a, b, c⟩ := h w1 p q; ⟨f i, g', w', es, ⟨I, f, rfl, i, rfl⟩, a, b, c⟩⟩)
    · exact .inr (.inr ⟨hs, fun w1 p q => let ⟨K, a, b⟩ := h w1 p q; ⟨K, a, fun g' w' hk => let ⟨i, c⟩ := b g' w' hk; ⟨f i, ⟨I, f, rfl, i, rfl⟩, c⟩⟩⟩)

/-! ### Where everybody stands -/
/-- The library's stage behind a worker's code: 0, 1, 2 it works; 3 .. 8 the library's stages 6 .. 1. -/
def stageOf (c : Nat) : Nat := if c ≤ 2 then 7 else 9 - c
def wds (E : Nat → Nat × Nat) : Nat → WD := fun i => ⟨stageOf (E i).1, 0, 0⟩

section
variable (P : Program) (ph : Ph)

/-- Whatever it does next in its view, it is an act, and it goes on. -/
def ActH (main : Bool) (B : Nat) (Ac : Acs) (Z : Goroutine → World → Prop) (ρ : Rk) (g : Goroutine) (w : World) : Prop :=
  ∀ w1, Push w w1 → NoView w1 → ∃ K : Goroutine → World → Prop, Ac main g w1 K ∧ ∀ g' w', K g' w' → ∃ ρ', Rk.lt ρ' ρ ∧ RunR P main B Ac Z ρ' g' w'

def NoZ : Goroutine → World → Prop := fun _ _ => False

/-- A worker: B its bound, dd its deafness; is the channel closed, does the starter wait at a send; what it knows; what of it falls. -/
inductive WSt (B : Nat) (cl snd : Bool) : Nat → Nat × Nat → Wm → Goroutine → World → World → Prop
  | run {c i : Nat} {ρ : Rk} {g : Goroutine} {w W : World} : c ≤ 2 → w.output = gho c i 0 → g.status = .running → RunR P false B (WAc P ph) NoZ ρ g w → WSt B cl snd 0 (c, i) (7, (ρ, 0)) g w W
  | wait {b : Nat} {ρ : Rk} {g : Goroutine} {w W : World} : w.output = gho 0 b 0 → ActH P false B (WAc P ph) NoZ ρ g w → cl = false → snd = false → WSt B cl snd 0 (0, b) (7, (ρ, 0)) (parked (core g) #[rcase ph.ch ph.z] (.recv true)) w W
  | try_ {b : Nat} {ρ : Rk} {g : Goroutine} {w W : World} : w.output = gho 0 b 0 → ActH P false B (WAc P ph) NoZ ρ g w → cl = true → WSt B cl snd 0 (0, b) (7, (ρ, 0)) { parked (core g) #[rcase ph.ch ph.z] (.recv true) with status := .running } w W
  | lib {s f d i : Nat} {g : Goroutine} {w W : World} : 1 ≤ s → s ≤ 6 → @WSit ⟨ph.cty⟩ P ph.tWg ph.Wg ph.C 1 NoL NoL 0 1 ph.cv s f d g W → WSt B cl snd d (9 - s, i) (s, (rk0, f)) g w W

/-- The starter inside the pool. bl: 0 it runs, 1 it waits at a send, 2 at the semaphore. -/
inductive MSt (B' : Nat) (Z : Goroutine → World → Prop) : Nat → Nat → Nat → Nat → Rk → Goroutine → World → Prop
  | run {a b c : Nat} {ρ : Rk} {g : Goroutine} {w : World} : w.output = gho a b c → RunR P true B' (MAc P ph B') Z ρ g w → MSt B' Z a b c 0 ρ g w
  | send {c : Nat} {ρ ρ' : Rk} {g : Goroutine} {w : World} {z : Value} : c < ph.N → Rk.lt ρ' ρ → RunR P true B' (MAc P ph B') Z ρ' (Conc.served (core g) undef) (w.say 0 ph.n (c + 1)) → MSt B' Z 0 ph.n c 1 ρ (parked (core g) #[scase ph.ch (ph.jv c) z] .send) w
  | sema {ρ : Rk} {g : Goroutine} {w : World} : w.output = gho 13 0 0 → g.status = .running → g.offers = none → RunR P true B' (MAc P ph B') Z ρ g w → MSt B' Z 13 0 0 2 ρ { g with status := .blocked } w
end

def tagOf (a b bl : Nat) : CTag :=
  if a ≤ 1 then .kd else if a ≤ 3 then .sp 0 3 else if a = 10 then .kd else if a = 11 then .anch else if a = 12 then .w2 b else if a = 13 then (if bl = 2 then .blk else .w3) else if a = 15 then .w4 else if a = 14 then .ke else if a = 16 then .acq else .ret
def jOf (n a b : Nat) : Nat := if a ≤ 3 then b else n
def clOf (a : Nat) : Bool := decide (10 ≤ a)
def sentOf (N a c : Nat) : Nat := if a = 0 then c else if a ≤ 3 then 0 else N
def deaf0 (a : Nat) : Nat := if a = 1 ∨ a = 2 ∨ 11 ≤ a ∧ a ≤ 15 then 1 else 0
/-- What the starter's numbers may be, short of its end. -/
def OkG (n N a b c : Nat) : Prop := (a = 0 ∧ b ≤ n ∧ c ≤ N ∧ (0 < c → b = n)) ∨ (1 ≤ a ∧ a ≤ 3 ∧ b < n ∧ c = 0) ∨ (10 ≤ a ∧ a ≤ 16 ∧ c = 0)

/-- The goroutines of earlier pools: each only leaves. -/
def Lvs (P : Program) (k0 : Nat) (gs : Array Goroutine) (t : Trace) (L : List Wm) : Prop :=
  ∀ k, 1 ≤ k → k < k0 → ∃ g q, gs[k]? = some g ∧ QuitsD P q (Deaf t k) g ∧ L[k - 1]? = some (1, (rk0, q))

def OldKn (k0 j : Nat) (t : Trace) (i : Nat) : Prop := Knows t 0 i ∧ ∀ x, x < j → Knows t (k0 + x) i

/-- The jobs: of those that are sent each is done or with one worker; what is stored. -/
structure Jobs (ph : Ph) (j sent : Nat) (E : Nat → Nat × Nat) (S : Nat → Prop) (cs : Array Value) : Prop where
  csz : cs.size = ph.N * ph.cpe
  le : sent ≤ ph.N
  j1 : ∀ i, i < sent → S i ∨ ∃ x, x < j ∧ E x = (1, i)
  j2 : ∀ x i, x < j → E x = (1, i) → i < sent ∧ ¬ S i
  j3 : ∀ x y i, x < j → y < j → E x = (1, i) → E y = (1, i) → x = y
  j4 : ∀ i, S i → i < sent ∧ ∀ k, k < ph.cpe → cs[i * ph.cpe + k]? = (ph.F i)[k]?
  lo : ∀ x, x < j → (E x).1 = 0 → (E x).2 ≤ sent

/-- The touches of the group's block and of the results'. -/
structure Tch (ph : Ph) (k0 j : Nat) (t : Trace) (S : Nat → Prop) : Prop where
  nor : ∀ A, NoRelease A t
  wg : ∀ i x, touchAt t i = some x → blk x.loc = some ph.Wg → OldKn k0 j t i ∨ (x.kind ≠ .plain ∧ (x.kind = .said → t.g? i = some 0))
  ob : ∀ i x, touchAt t i = some x → blk x.loc = some ph.ob → OldKn k0 j t i ∨ ∃ o, x.loc = .cell ⟨ph.ob, o, none⟩ ∧ S (o / ph.cpe)
  chn : ∀ i x, touchAt t i = some x → blk x.loc = some ph.ch → x.kind ≠ .plain

/-- The pool's data. -/
structure PhOk (ph : Ph) : Prop where
  n0 : 0 < ph.n
  n1 : ph.n < 2147483648
  cpe : 0 < ph.cpe
  len : ∀ i, i < ph.N → (ph.F i).length = ph.cpe
  wc : ph.Wg ≠ ph.ch
  wo : ph.Wg ≠ ph.ob
  co : ph.ch ≠ ph.ob
  cW : ph.C ≠ ph.Wg
  cC : ph.C ≠ ph.ch
  cO : ph.C ≠ ph.ob
  lW : Old.b ≤ ph.Wg
  lO : Old.b ≤ ph.ob
  lC : Old.b ≤ ph.ch

def deadOf (ph : Ph) (dead : Nat → Prop) : Nat → Prop := fun b => dead b ∨ b = ph.Wg ∨ b = ph.ch

/-- Everything but what falls and where the starter stands. -/
structure PI (P : Program) (ph : Ph) (B' : Nat) (Z : Goroutine → World → Prop) (dead : Nat → Prop) (ws : Nat → World) (Bs : Nat → Nat) (k0 : Nat) (gs : Array Goroutine) (W : World) (t : Trace)
    (E : Nat → Nat × Nat) (a b c bl : Nat) (S : Nat → Prop) (cs : Array Value) (st sm : Int) (ρ : Rk) (L : List Wm) : Prop where
  grp : Grp ws Bs k0 gs.size W t (deadOf ph dead)
  b0 : Bs 0 = B'
  bw : ∀ x, x < jOf ph.n a b → B' ≤ Bs (k0 + x)
  k1 : 1 ≤ k0
  sz : gs.size = k0 + jOf ph.n a b
  len : L.length + 1 = gs.size
  lv : Lvs P k0 gs t L
  wk : ∀ x, x < jOf ph.n a b → ∃ g m, gs[k0 + x]? = some g ∧ WSt P ph (Bs (k0 + x)) (clOf a) (bl == 1) (Deaf t (k0 + x)) (E x) m g (ws (k0 + x)) W ∧ L[k0 + x - 1]? = some m
  d0 : Deaf t 0 = deaf0 a
  mn : ∃ g, gs[0]? = some g ∧ MSt P ph B' Z a b c bl ρ g (ws 0)
  ok : OkG ph.n ph.N a b c
  hob : ph.ob < W.heap.size ∧ Hid ws gs.size ph.ob
  cC : ph.C < B' ∧ Cst ph W
  wWg : WgAt ph.tWg ph.Wg W st sm
  mode : ConcN.Mode (jOf ph.n a b) (wds E) (tagOf a b bl) st sm
  wCh : ∃ s tm, W.heap[ph.ch]? = some (.chan 0 #[] (clOf a) s s tm)
  wOb : W.heap[ph.ob]? = some (.cells cs ph.ety)
  jobs : Jobs ph (jOf ph.n a b) (sentOf ph.N a c) E S cs
  opn : clOf a = false → ∀ x, x < jOf ph.n a b → (E x).1 ≤ 1
  vb : a = 11 → Vc (jOf ph.n a b) (wds E) ≤ b
  rel : ∀ x, x < jOf ph.n a b → 3 ≤ (E x).1 → ∃ r, RelBy (stA ph.Wg) t (k0 + x) r
  tch : Tch ph k0 (jOf ph.n a b) t S
end Go.Tx
