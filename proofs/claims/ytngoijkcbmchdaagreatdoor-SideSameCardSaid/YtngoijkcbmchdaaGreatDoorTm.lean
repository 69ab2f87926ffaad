/- Goroutines with views beside each other: the rank of a way, and a step of one's own in the world of all. -/
import Derived.Test.YtngoijkcbmchdaaGreatDoorCo
import Derived.Conc.Crowd
import Derived.Conc.CrowdTrace
set_option linter.unusedVariables false
set_option linter.unusedSimpArgs false
namespace Go.Tx
open Go.Conc Go.RowKit

/-! ### Ranks -/
/-- A tree of whatever width: how far a way has to go at most. -/
inductive Rk : Type 1 where
  | mk (I : Type) (f : I → Rk)
def Rk.lt (a b : Rk) : Prop := ∃ I f, b = .mk I f ∧ ∃ i, a = f i
theorem Rk.wf : WellFounded Rk.lt := by
  refine ⟨fun a => ?_⟩
  induction a with
  | mk I f ih =>
    refine ⟨_, fun b hb => ?_⟩
    obtain ⟨J, g, e, i, rfl⟩ := hb
    cases e
    exact ih i

/-- 'Run1' with its rank. -/
def RunR (P : Program) (main : Bool) (B : Nat) (Ac : Acs) (Z : Goroutine → World → Prop) : Rk → Goroutine → World → Prop
  | .mk _ f, g, w => (∀ w1, Push w w1 → Z g w1) ∨
      (g.status = .running ∧ ∀ w1, Push w w1 → NoView w1 → ∃ i g' w' es, Tr P main B g w1 g' w' es ∧ NoView w' ∧ RunR P main B Ac Z (f i) g' w') ∨
      (g.status = .running ∧ ∀ w1, Push w w1 → NoView w1 → ∃ K : Goroutine → World → Prop, Ac main g w1 K ∧ ∀ g' w', K g' w' → ∃ i, RunR P main B Ac Z (f i) g' w')

theorem Run1.rank {P : Program} {main : Bool} {B : Nat} {Ac : Acs} {Z : Goroutine → World → Prop} {g : Goroutine} {w : World} (h : Run1 P main B Ac Z g w) : ∃ ρ, RunR P main B Ac Z ρ g w := by
  induction h with
  | stop h => exact ⟨.mk Empty (fun e => nomatch e), .inl h⟩
  | @step g w g' w' es hs h1 h2 ih =>
    have h' : ∀ w1, ∃ ρ, Push w w1 → NoView w1 → RunR P main B Ac Z ρ (g' w1) (w' w1) := fun w1 => by
      by_cases hp : Push w w1 ∧ NoView w1
      · obtain ⟨ρ, hρ⟩ := ih w1 hp.1 hp.2; exact ⟨ρ, fun _ _ => hρ⟩
      · exact ⟨.mk Empty (fun e => nomatch e), fun a b => (hp ⟨a, b⟩).elim⟩
    refine ⟨.mk World (fun w1 => (h' w1).choose), .inr (.inl ⟨hs, fun w1 p q => ⟨w1, g' w1, w' w1, es w1, (h1 w1 p q).1, (h1 w1 p q).2, (h' w1).choose_spec p q⟩⟩)⟩
  | @act g w K hs h1 h2 ih =>
    have h' : ∀ x : World × Goroutine × World, ∃ ρ, Push w x.1 → NoView x.1 → K x.1 x.2.1 x.2.2 → RunR P main B Ac Z ρ x.2.1 x.2.2 := fun x => by
      by_cases hp : Push w x.1 ∧ NoView x.1 ∧ K x.1 x.2.1 x.2.2
      · obtain ⟨ρ, hρ⟩ := ih x.1 hp.1 hp.2.1 x.2.1 x.2.2 hp.2.2; exact ⟨ρ, fun _ _ _ => hρ⟩
      · exact ⟨.mk Empty (fun e => nomatch e), fun a b c => (hp ⟨a, b, c⟩).elim⟩
    refine ⟨.mk (World × Goroutine × World) (fun x => (h' x).choose), .inr (.inr ⟨hs, fun w1 p q => ⟨K w1, h1 w1 p q, fun g' w' hk => ⟨(w1, g', w'), (h' (w1, g', w')).choose_spec p q hk⟩⟩⟩)⟩

theorem RunR.push {P : Program} {main : Bool} {B : Nat} {Ac : Acs} {Z : Goroutine → World → Prop} {ρ : Rk} {g : Goroutine} {w w1 : World} (h : RunR P main B Ac Z ρ g w) (hp : Push w w1) : RunR P main B Ac Z ρ g w1 := by
  cases ρ with
  | mk I f =>
    rcases h with h | ⟨hs, h⟩ | ⟨hs, h⟩
    · exact .inl fun w2 k => h w2 (hp.trans k)
    · exact .inr (.inl ⟨hs, fun w2 k => h w2 (hp.trans k)⟩)
    · exact .inr (.inr ⟨hs, fun w2 k => h w2 (hp.trans k)⟩)

/-! ### A view and the world -/
/-- What the owner of view w knows of the world: what is not poisoned stands as it says. -/
structure Sees (w W : World) : Prop where
  os : W.os = w.os
  tape : W.tape = w.tape
  size : w.heap.size ≤ W.heap.size
  at_ : ∀ b, b < w.heap.size → Psn w b ∨ W.heap[b]? = w.heap[b]?
  view : NoView w

/-- The world as it lay when all began: what is below the bound stands, and nothing is said to the outside. -/
class Old where
  w : World
  b : Nat
structure Kept [Old] (W : World) : Prop where
  out : W.output = Old.w.output
  le : Old.b ≤ W.heap.size
  at_ : ∀ c, c < Old.b → W.heap[c]? = Old.w.heap[c]?
theorem Kept.keep [Old] {W W' : World} (h : Kept W) (ho : W'.output = W.output) (hs : W.heap.size ≤ W'.heap.size) (hk : ∀ c, c < Old.b → W'.heap[c]? = W.heap[c]?) : Kept W' :=
  ⟨ho.trans h.out, Nat.le_trans h.le hs, fun c hc => (hk c hc).trans (h.at_ c hc)⟩

/-- The view brought up to the world's size and draws. -/
def World.upto (w W : World) : World := { w with heap := w.heap ++ Array.replicate (W.heap.size - w.heap.size) poison, drawn := W.drawn }
theorem upto_size {w W : World} (h : w.heap.size ≤ W.heap.size) : (World.upto w W).heap.size = W.heap.size := by simp [World.upto]; omega
theorem upto_old {w W : World} {b : Nat} (h : b < w.heap.size) : (World.upto w W).heap[b]? = w.heap[b]? := by
  unfold World.upto
  simp only
  rw [Array.getElem?_append_left h]
theorem upto_new {w W : World} {b : Nat} (h : w.heap.size ≤ b) (h' : b < W.heap.size) : Psn (World.upto w W) b := by
  unfold Psn World.upto
  simp only
  rw [Array.getElem?_append_right h, Array.getElem?_replicate, if_pos (by omega)]
theorem Sees.push {w W : World} (h : Sees w W) : Push w (World.upto w W) :=
  ⟨rfl, rfl, rfl, by rw [upto_size h.size]; exact h.size, fun b hb => upto_old hb, fun b h1 h2 => upto_new h1 (by rw [upto_size h.size] at h2; exact h2)⟩
theorem Sees.over {w W : World} (h : Sees w W) : Over (Psn (World.upto w W)) (World.upto w W) W := by
  refine ⟨(upto_size h.size).symm, h.os, h.tape, rfl, fun b hb => ?_, fun b hb => hb⟩
  by_cases hlt : b < w.heap.size
  · rcases h.at_ b hlt with hp | he
    · exact absurd (show Psn (World.upto w W) b from (upto_old hlt).trans hp) hb
    · rw [upto_old hlt, he]
  · by_cases h2 : b < W.heap.size
    · exact absurd (upto_new (by omega) h2) hb
    · rw [Array.getElem?_eq_none (by omega), Array.getElem?_eq_none (by rw [upto_size h.size]; omega)]
theorem noView_poison : isView poison = false := rfl
theorem Sees.noView {w W : World} (h : Sees w W) : NoView (World.upto w W) := by
  intro b x hx
  by_cases hlt : b < w.heap.size
  · rw [upto_old hlt] at hx; exact h.view b x hx
  · have hb := (Array.getElem?_eq_some_iff.1 hx).1
    have := upto_new (w := w) (W := W) (b := b) (by omega) (by rw [upto_size h.size] at hb; exact hb)
    unfold Psn at this
    rw [hx] at this; cases this; rfl
/-- The others' steps that turn no block of the view keep it. -/
theorem Sees.keep {w W W' : World} (h : Sees w W) (ho : W'.os = W.os) (ht : W'.tape = W.tape) (hs : W.heap.size ≤ W'.heap.size) (hk : ∀ b, b < w.heap.size → ¬ Psn w b → W'.heap[b]? = W.heap[b]?) : Sees w W' :=
  ⟨ho.trans h.os, ht.trans h.tape, Nat.le_trans h.size hs, fun b hb => by
    by_cases hp : Psn w b
    · exact .inl hp
    · exact .inr ((hk b hb hp).trans ((h.at_ b hb).resolve_left hp)), h.view⟩

/-- A STEP OF ONE's OWN IN THE WORLD OF ALL. -/
theorem own_step {P : Program} {main : Bool} {B : Nat} {g g' : Goroutine} {w w' W : World} {es : Array Event} (h : Sees w W) (ht : Tr P main B g (World.upto w W) g' w' es) (hv : NoView w') :
    ∃ W', stepG P main g W = .go g' W' es ∧ Sees w' W' ∧ w'.heap.size = W'.heap.size ∧ (W.heap.size ≤ W'.heap.size ∧ W'.output = W.output) ∧ W'.os = W.os ∧ W'.tape = W.tape ∧
      (∀ b, b < W.heap.size → (b < B ∨ Psn (World.upto w W) b) → W'.heap[b]? = W.heap[b]?) ∧
      (∀ b, b < W.heap.size → Psn (World.upto w W) b → Psn w' b) ∧ ∀ e ∈ es, EvM B (Psn (World.upto w W)) W'.heap.size e := by
  obtain ⟨⟨k1, k2, _⟩, ht⟩ := ht
  obtain ⟨W', h1, h2, h3, h4, h5⟩ := ht W h.over
  have hs := h2.size
  refine ⟨W', h1, ⟨h2.os, h2.tape, by omega, fun b hb => ?_, hv⟩, hs.symm, h4, ?_, ?_, h3, fun b _ hp => h2.pz b hp, h5⟩
  · by_cases hp : Psn (World.upto w W) b
    · exact .inl (h2.pz b hp)
    · exact .inr (h2.same b hp)
  · rw [h2.os, k1]; exact h.os.symm
  · rw [h2.tape, k2]; exact h.tape.symm

/-! ### What falls: the starter's rank; else one of the workers' ranks; else how many run -/
def GA (l l' : List Rk) : Prop := ∃ (i : Nat) (a b : Rk), l'[i]? = some b ∧ Rk.lt a b ∧ l = l'.set i a
theorem ga_cons {a : Rk} (ha : Acc Rk.lt a) : ∀ {l : List Rk}, Acc GA l → Acc GA (a :: l) := by
  induction ha with
  | intro a _ iha =>
    intro l hl
    induction hl with
    | intro l hl' ihl =>
      refine ⟨_, fun y hy => ?_⟩
      obtain ⟨i, x, b, hb, hlt, rfl⟩ := hy
      cases i with
      | zero =>
        simp only [List.getElem?_cons_zero, Option.some.injEq] at hb
        subst hb
        exact iha x hlt ⟨_, hl'⟩
      | succ i =>
        simp only [List.getElem?_cons_succ] at hb
        exact ihl _ ⟨i, x, b, hb, hlt, rfl⟩
theorem ga_wf : WellFounded GA := by
  refine ⟨fun l => ?_⟩
  induction l with
  | nil =>
    refine ⟨_, fun y hy => ?_⟩
    obtain ⟨i, x, b, hb, _⟩ := hy
    simp at hb
  | cons a l ih => exact ga_cons (Rk.wf.apply a) ih
abbrev Ms := Rk × (List Rk × Nat)
def Ms.lt : Ms → Ms → Prop := Prod.Lex Rk.lt (Prod.Lex GA (· < ·))
theorem Ms.wf : WellFounded Ms.lt := (Prod.lex ⟨Rk.lt, Rk.wf⟩ (Prod.lex ⟨GA, ga_wf⟩ Nat.lt_wfRel)).wf
theorem Ms.main {a a' : Rk} (h : Rk.lt a' a) (x y : List Rk × Nat) : Ms.lt (a', x) (a, y) := .left _ _ h
theorem Ms.work {a : Rk} {l l' : List Rk} (h : GA l' l) (n m : Nat) : Ms.lt (a, (l', n)) (a, (l, m)) := .right _ (.left _ _ h)
theorem Ms.runs {a : Rk} {l : List Rk} {n m : Nat} (h : n < m) : Ms.lt (a, (l, n)) (a, (l, m)) := .right _ (.right _ h)
end Go.Tx
/- Traces by blocks: who may touch which blocks; what a goroutine's own steps leave of that. -/
namespace Go.Tx
open Go.Conc Go.ConcN

def blk : Loc → Option Nat
  | .cell a => some a.block
  | .obj r => some r
  | _ => none

/-- Own k b: goroutine k knows every touch of the block b, and may touch it; Rds k b: it knows every write of it, and may read it. -/
structure TrB (Own Rds : Nat → Nat → Prop) (t : Trace) (hi : Nat) : Prop where
  own : ∀ k b l, Own k b → blk l = some b → Perm t k l
  rd : ∀ k b l, Rds k b → blk l = some b → PermW t k l
  nr : ∀ said, ¬ Race said t
  low : ∀ op ∈ t, ∀ x b, op.act.touch? = some x → blk x.loc = some b → b < hi

/-- The blocks lie apart. -/
structure ApB (Own Rds : Nat → Nat → Prop) : Prop where
  own : ∀ k k' b, Own k b → Own k' b → k = k'
  ownRd : ∀ k k' b, Own k b → Rds k' b → k = k'

/-- What goroutine k may list. -/
def OkB (Own Rds : Nat → Nat → Prop) (hi k : Nat) (op : MemOp) : Prop :=
  op.g = k ∧ ∀ x, op.act.touch? = some x → ∃ b, blk x.loc = some b ∧ b < hi ∧ (Own k b ∨ (Rds k b ∧ x.write = false))

theorem TrB.app {Own Rds : Nat → Nat → Prop} {t u : Trace} {hi hi' k : Nat} (A : ApB Own Rds) (h : TrB Own Rds t hi) (hh : hi ≤ hi') (hu : ∀ op ∈ u, OkB Own Rds hi' k op) : TrB Own Rds (t ++ u) hi' := by
  refine ⟨fun j b l hj hl => (h.own j b l hj hl).app fun op hop x hx e => ?_, fun j b l hj hl => (h.rd j b l hj hl).app fun op hop x hx e hw => ?_, fun said => ?_, fun op hop x b hx hb => ?_⟩
  · obtain ⟨hg, ho⟩ := hu op hop
    obtain ⟨c, h1, h2, h3⟩ := ho x hx
    rw [e, hl] at h1; cases h1
    rcases h3 with h3 | ⟨h3, _⟩
    · rw [hg]; exact A.own _ _ _ h3 hj
    · rw [hg]; exact (A.ownRd _ _ _ hj h3).symm
  · obtain ⟨hg, ho⟩ := hu op hop
    obtain ⟨c, h1, h2, h3⟩ := ho x hx
    rw [e, hl] at h1; cases h1
    rcases h3 with h3 | ⟨_, h3⟩
    · rw [hg]; exact A.ownRd _ _ _ h3 hj
    · rw [h3] at hw; cases hw
  · refine noRace_append (h.nr said) (fun op hop => (hu op hop).1) (fun i a ha op hop x hx hc => ?_)
    obtain ⟨c, h1, h2, h3⟩ := (hu op hop).2 x hx
    rcases h3 with h3 | ⟨h3, hw⟩
    · exact h.own k c x.loc h3 h1 i a ha hc.1
    · exact h.rd k c x.loc h3 h1 i a ha hc.1 (hc.2.2.1.resolve_right (by simp [hw]))
  · rcases Array.mem_append.1 hop with hop | hop
    · exact Nat.lt_of_lt_of_le (h.low op hop x b hx hb) hh
    · obtain ⟨c, h1, h2, _⟩ := (hu op hop).2 x hx
      rw [hb] at h1; cases h1
      exact h2

/-- A block that nobody has touched is whoever's. -/
theorem TrB.grow {Own Rds Own' : Nat → Nat → Prop} {t : Trace} {hi : Nat} (h : TrB Own Rds t hi) (hO : ∀ k b, Own' k b → Own k b ∨ hi ≤ b) : TrB Own' Rds t hi := by
  refine ⟨fun j b l hj hl i a ha e => ?_, h.rd, h.nr, h.low⟩
  rcases hO j b hj with hj | hj
  · exact h.own j b l hj hl i a ha e
  · obtain ⟨op, hop, hx⟩ := touch_of ha
    have := h.low op (Array.mem_of_getElem? hop) a b hx (by rw [e]; exact hl)
    omega
theorem TrB.less {Own Rds Own' Rds' : Nat → Nat → Prop} {t : Trace} {hi : Nat} (h : TrB Own Rds t hi) (hO : ∀ k b, Own' k b → Own k b) (hR : ∀ k b, Rds' k b → Rds k b ∨ Own k b) : TrB Own' Rds' t hi :=
  ⟨fun j b l hj hl => h.own j b l (hO j b hj) hl, fun j b l hj hl => (hR j b hj).elim (fun x => h.rd j b l x hl) (fun x => PermW.of (h.own j b l x hl)), h.nr, h.low⟩

/-- The entries of a step of one's own. -/
theorem okB_of_ev {Own Rds : Nat → Nat → Prop} {hi k B : Nat} {Pz : Nat → Prop} {fn : FuncId} {pos : String} {es : Array Event} (h : ∀ e ∈ es, EvM B Pz hi e) (hB : ∀ b, b < hi → ¬ Pz b → (B ≤ b → Own k b) ∧ (b < B → Rds k b)) :
    ∀ op ∈ MemOp.ofEvents k fn pos es, OkB Own Rds hi k op := by
  intro op hop
  have : ∃ e ∈ es, op = { g := k, fn, pos, act := .ofEvent e } := by
    unfold MemOp.ofEvents at hop
    split at hop
    · simp at hop
    · obtain ⟨e, he, rfl⟩ := Array.mem_map.1 hop; exact ⟨e, he, rfl⟩
  obtain ⟨e, he, rfl⟩ := this
  refine ⟨rfl, fun x hx => ?_⟩
  rcases h e he with ⟨l, b, wr, rfl, hl, hp, hw, h1⟩ | rfl
  · obtain ⟨h2, h3⟩ := hB b h1 hp
    have hx' : x = ⟨l, wr, .plain⟩ := by
      rcases hl with ⟨a, rfl, _⟩ | rfl <;> cases wr <;> simp [MemAct.ofEvent, MemAct.touch?] at hx <;> exact hx.symm
    subst hx'
    refine ⟨b, ?_, h1, ?_⟩
    · rcases hl with ⟨a, rfl, e⟩ | rfl
      · simp [blk, e]
      · rfl
    · rcases Nat.lt_or_ge b B with hlt | hge
      · refine .inr ⟨h3 hlt, ?_⟩
        cases wr with
        | false => rfl
        | true => have := hw rfl; omega
      · exact .inl (h2 hge)
  · simp [MemAct.ofEvent, MemAct.touch?] at hx
end Go.Tx
/- A team: goroutines whose views lie apart; a step of one's own keeps it. -/
namespace Go.Tx
open Go.Conc Go.ConcN

/-! ### A team: goroutines with views that lie apart -/
def Mine (ws : Nat → World) (Bs : Nat → Nat) (n k b : Nat) : Prop := k < n ∧ Bs k ≤ b ∧ b < (ws k).heap.size ∧ ¬ Psn (ws k) b
def Seen (ws : Nat → World) (Bs : Nat → Nat) (n k b : Nat) : Prop := k < n ∧ b < Bs k ∧ b < (ws k).heap.size ∧ ¬ Psn (ws k) b
variable [Old]
structure Team (ws : Nat → World) (Bs : Nat → Nat) (n : Nat) (W : World) (t : Trace) : Prop where
  sees : ∀ k, k < n → Sees (ws k) W
  apart : ∀ k j b, k ≠ j → j < n → Mine ws Bs n k b → b < (ws j).heap.size → Psn (ws j) b
  tr : TrB (Mine ws Bs n) (Seen ws Bs n) t W.heap.size
  old : Kept W
  lo : ∀ k, k < n → Old.b ≤ Bs k

theorem Team.ap {ws : Nat → World} {Bs : Nat → Nat} {n : Nat} {W : World} {t : Trace} (h : Team ws Bs n W t) : ApB (Mine ws Bs n) (Seen ws Bs n) := by
  refine ⟨fun k k' b h1 h2 => ?_, fun k k' b h1 h2 => ?_⟩
  · by_cases e : k = k'
    · exact e
    · exact absurd (h.apart k k' b e h2.1 h1 h2.2.2.1) h2.2.2.2
  · by_cases e : k = k'
    · exact e
    · exact absurd (h.apart k k' b e h2.1 h1 h2.2.2.1) h2.2.2.2

def upd {α : Type} (f : Nat → α) (k : Nat) (x : α) : Nat → α := fun j => if j = k then x else f j
omit [Old] in
theorem upd_same {α : Type} (f : Nat → α) (k : Nat) (x : α) : upd f k x k = x := if_pos rfl
omit [Old] in
theorem upd_ne {α : Type} (f : Nat → α) {k j : Nat} (x : α) (h : j ≠ k) : upd f k x j = f j := if_neg h

theorem Team.drew {ws : Nat → World} {Bs : Nat → Nat} {n : Nat} {W : World} {t : Trace} (h : Team ws Bs n W t) (d : Nat) : Team ws Bs n (W.at d) t :=
  ⟨fun k hk => let s := h.sees k hk; ⟨s.os, s.tape, s.size, s.at_, s.view⟩, h.apart, h.tr, ⟨h.old.out, h.old.le, h.old.at_⟩, h.lo⟩

/-- A STEP OF GOROUTINE k's OWN. -/
theorem Team.step {P : Program} {main : Bool} {ws : Nat → World} {Bs : Nat → Nat} {n k : Nat} {W w' : World} {t : Trace} {g g' : Goroutine} {es : Array Event} {fn : FuncId} {pos : String} (h : Team ws Bs n W t) (hk : k < n) (hBk : Bs k ≤ W.heap.size)
    (ht : Tr P main (Bs k) g (World.upto (ws k) W) g' w' es) (hv : NoView w') :
    ∃ W', stepG P main g W = .go g' W' es ∧ Team (upd ws k w') Bs n W' (t ++ MemOp.ofEvents k fn pos es) ∧ W.heap.size ≤ W'.heap.size := by
  have hS := h.sees k hk
  obtain ⟨W', h1, h2, h3, h4, h5, h6, h7, h8, h9⟩ := own_step hS ht hv
  have psn_up : ∀ b, b < (ws k).heap.size → (Psn (World.upto (ws k) W) b ↔ Psn (ws k) b) := fun b hb => by unfold Psn; rw [upto_old hb]
  -- an unpoisoned block of the new view: it was one of the old view, or it is new
  have from' : ∀ b, b < w'.heap.size → ¬ Psn w' b → (b < (ws k).heap.size ∧ ¬ Psn (ws k) b) ∨ W.heap.size ≤ b := by
    intro b hb hp
    rcases Nat.lt_or_ge b W.heap.size with hlt | hge
    · have hnp : ¬ Psn (World.upto (ws k) W) b := fun x => hp (h8 b hlt x)
      rcases Nat.lt_or_ge b (ws k).heap.size with hl2 | hg2
      · exact .inl ⟨hl2, fun x => hnp ((psn_up b hl2).2 x)⟩
      · exact absurd (upto_new hg2 hlt) hnp
    · exact .inr hge
  have hkp : Kept W' := h.old.keep h4.2 h4.1 fun c hc => h7 c (Nat.lt_of_lt_of_le hc h.old.le) (.inl (Nat.lt_of_lt_of_le hc (h.lo k hk)))
  refine ⟨W', h1, ⟨fun j hj => ?_, fun i j b hij hj hm hb => ?_, ?_, hkp, h.lo⟩, h4.1⟩
  · by_cases e : j = k
    · subst e; rw [upd_same]; exact h2
    · rw [upd_ne _ _ e]
      refine (h.sees j hj).keep h5 h6 h4.1 (fun b hb hp => ?_)
      have hbW : b < W.heap.size := Nat.lt_of_lt_of_le hb (h.sees j hj).size
      refine h7 b hbW ?_
      rcases Nat.lt_or_ge b (Bs k) with hlt | hge
      · exact .inl hlt
      · right
        rcases Nat.lt_or_ge b (ws k).heap.size with hl2 | hg2
        · by_cases hq : Psn (ws k) b
          · exact (psn_up b hl2).2 hq
          · exact absurd (h.apart k j b (fun x => e x.symm) hj ⟨hk, hge, hl2, hq⟩ hb) hp
        · exact upto_new hg2 hbW
  · obtain ⟨hi, m1, m2, m3⟩ := hm
    by_cases ei : i = k
    · subst ei
      rw [upd_same] at m2 m3
      rw [upd_ne _ _ (fun x => hij x.symm)] at hb ⊢
      rcases from' b m2 m3 with ⟨q1, q2⟩ | hge
      · exact h.apart i j b hij hj ⟨hi, m1, q1, q2⟩ hb
      · have := (h.sees j hj).size; omega
    · rw [upd_ne _ _ ei] at m2 m3
      by_cases ej : j = k
      · subst ej
        rw [upd_same] at hb ⊢
        by_cases hq : Psn w' b
        · exact hq
        · rcases from' b hb hq with ⟨q1, q2⟩ | hge
          · exact absurd (h.apart i j b hij hj ⟨hi, m1, m2, m3⟩ q1) q2
          · have := (h.sees i hi).size; omega
      · rw [upd_ne _ _ ej] at hb ⊢
        exact h.apart i j b hij hj ⟨hi, m1, m2, m3⟩ hb
  · -- the trace: first what is new is k's, then the entries, then what is left
    let O2 : Nat → Nat → Prop := fun j b => Mine ws Bs n j b ∨ (j = k ∧ W.heap.size ≤ b)
    have lim : ∀ j b, Mine ws Bs n j b → b < W.heap.size := fun j b hm => Nat.lt_of_lt_of_le hm.2.2.1 (h.sees j hm.1).size
    have limS : ∀ j b, Seen ws Bs n j b → b < W.heap.size := fun j b hm => Nat.lt_of_lt_of_le hm.2.2.1 (h.sees j hm.1).size
    have A2 : ApB O2 (Seen ws Bs n) := by
      refine ⟨fun i j b h1 h2 => ?_, fun i j b h1 h2 => ?_⟩
      · rcases h1 with h1 | ⟨e1, h1⟩ <;> rcases h2 with h2 | ⟨e2, h2⟩
        · exact h.ap.own i j b h1 h2
        · have := lim i b h1; omega
        · have := lim j b h2; omega
        · rw [e1, e2]
      · rcases h1 with h1 | ⟨e1, h1⟩
        · exact h.ap.ownRd i j b h1 h2
        · have := limS j b h2; omega
    have hu : ∀ op ∈ MemOp.ofEvents k fn pos es, OkB O2 (Seen ws Bs n) W'.heap.size k op := by
      refine okB_of_ev h9 (fun b hb hp => ?_)
      rcases Nat.lt_or_ge b W.heap.size with hlt | hge
      · have hl2 : b < (ws k).heap.size := by
          rcases Nat.lt_or_ge b (ws k).heap.size with hl2 | hg2
          · exact hl2
          · exact absurd (upto_new hg2 hlt) hp
        have hq : ¬ Psn (ws k) b := fun x => hp ((psn_up b hl2).2 x)
        exact ⟨fun hB => .inl ⟨hk, hB, hl2, hq⟩, fun hB => ⟨hk, hB, hl2, hq⟩⟩
      · exact ⟨fun _ => .inr ⟨rfl, hge⟩, fun hB => by omega⟩
    have t2 : TrB O2 (Seen ws Bs n) t W.heap.size := h.tr.grow (fun j b hO => hO.imp id fun x => x.2)
    have t3 := t2.app A2 h4.1 hu
    refine t3.less (fun j b hm => ?_) (fun j b hm => ?_)
    · obtain ⟨hj, m1, m2, m3⟩ := hm
      by_cases e : j = k
      · subst e
        rw [upd_same] at m2 m3
        rcases from' b m2 m3 with ⟨q1, q2⟩ | hge
        · exact .inl ⟨hj, m1, q1, q2⟩
        · exact .inr ⟨rfl, hge⟩
      · rw [upd_ne _ _ e] at m2 m3
        exact .inl ⟨hj, m1, m2, m3⟩
    · obtain ⟨hj, m1, m2, m3⟩ := hm
      by_cases e : j = k
      · subst e
        rw [upd_same] at m2 m3
        rcases from' b m2 m3 with ⟨q1, q2⟩ | hge
        · exact .inl ⟨hj, m1, q1, q2⟩
        · omega
      · rw [upd_ne _ _ e] at m2 m3
        exact .inl ⟨hj, m1, m2, m3⟩

/-- A go STATEMENT of goroutine 0: what it could touch it and its child may read from now on. -/
theorem Team.fork {ws : Nat → World} {Bs : Nat → Nat} {n : Nat} {W wc : World} {t : Trace} {x y : MemOp} (h : Team ws Bs n W t) (h0 : 0 < n) (hc : Sees wc W) (hsub : ∀ b, b < wc.heap.size → ¬ Psn wc b → b < (ws 0).heap.size ∧ ¬ Psn (ws 0) b)
    (hx : x.g = 0 ∧ x.act = .go n) (hy : y.g = n ∧ y.act = .start) (d0 : Deaf t 0 = 0) (dn : Deaf t n = 0) :
    Team (upd ws n wc) (upd (upd Bs 0 W.heap.size) n W.heap.size) (n + 1) W (t ++ #[x, y]) := by
  have hn0 : n ≠ 0 := by omega
  have hnt : ∀ op ∈ #[x, y], ∀ b, op.act.touch? = some b → False := by
    intro op hop b hb
    simp only [List.mem_toArray, List.mem_cons, List.not_mem_nil, or_false] at hop
    rcases hop with rfl | rfl
    · rw [hx.2] at hb; cases hb
    · rw [hy.2] at hb; cases hb
  have old : ∀ {i : Nat} {a : Touch}, touchAt (t ++ #[x, y]) i = some a → touchAt t i = some a := by
    intro i a ha
    obtain ⟨z, hz, hza⟩ := touch_of ha
    rcases getElem?_append_cases hz with ⟨_, hz'⟩ | ⟨_, hzu⟩
    · rw [touchAt_of hz']; exact hza
    · exact (hnt z hzu a hza).elim
  have mine : ∀ j b, Mine (upd ws n wc) (upd (upd Bs 0 W.heap.size) n W.heap.size) (n + 1) j b → j ≠ 0 ∧ j ≠ n ∧ Mine ws Bs n j b := by
    intro j b ⟨hj, m1, m2, m3⟩
    by_cases e : j = n
    · subst e; rw [upd_same] at m1 m2; have := hc.size; omega
    · rw [upd_ne _ _ e] at m1 m2 m3
      by_cases e0 : j = 0
      · subst e0; rw [upd_same] at m1; have := (h.sees 0 h0).size; omega
      · rw [upd_ne _ _ e0] at m1
        exact ⟨e0, e, by omega, m1, m2, m3⟩
  have know0 : ∀ b, b < (ws 0).heap.size → ¬ Psn (ws 0) b → ∀ l, blk l = some b → PermW t 0 l := by
    intro b hb hp l hl
    rcases Nat.lt_or_ge b (Bs 0) with hlt | hge
    · exact h.tr.rd 0 b l ⟨h0, hlt, hb, hp⟩ hl
    · exact PermW.of (h.tr.own 0 b l ⟨h0, hge, hb, hp⟩ hl)
  refine ⟨fun j hj => ?_, fun i j b hij hj hm hb => ?_, ⟨fun j b l hm hl => ?_, fun j b l hm hl => ?_, fun said => ?_, fun op hop z b hz hb => ?_⟩, h.old, fun j hj => ?_⟩
  · by_cases e : j = n
    · subst e; rw [upd_same]; exact hc
    · rw [upd_ne _ _ e]; exact h.sees j (by omega)
  · obtain ⟨e0, en, hm⟩ := mine i b hm
    by_cases e : j = n
    · subst e
      rw [upd_same] at hb ⊢
      by_cases hq : Psn wc b
      · exact hq
      · obtain ⟨q1, q2⟩ := hsub b hb hq
        exact absurd (h.apart i 0 b e0 h0 hm q1) q2
    · rw [upd_ne _ _ e] at hb ⊢
      exact h.apart i j b hij (by omega) hm hb
  · obtain ⟨e0, en, hm⟩ := mine j b hm
    exact (h.tr.own j b l hm hl).app fun op hop b' hb' _ => (hnt op hop b' hb').elim
  · obtain ⟨hj, m1, m2, m3⟩ := hm
    by_cases e : j = n
    · subst e
      rw [upd_same] at m1 m2 m3
      obtain ⟨q1, q2⟩ := hsub b m2 m3
      exact fun i a ha hla hw => fork_knows hx hy d0 dn (know0 b q1 q2 l hl i a (old ha) hla hw)
    · rw [upd_ne _ _ e] at m1 m2 m3
      refine PermW.app ?_ fun op hop b' hb' _ _ => (hnt op hop b' hb').elim
      by_cases e0 : j = 0
      · subst e0; exact know0 b m2 m3 l hl
      · rw [upd_ne _ _ e0] at m1
        exact h.tr.rd j b l ⟨by omega, m1, m2, m3⟩ hl
  · have e : t ++ #[x, y] = (t ++ #[x]) ++ #[y] := by apply Array.ext'; simp
    rw [e]
    refine noRace_append (g := n) (noRace_append (g := 0) (h.tr.nr said) (fun op hop => by simp at hop; rw [hop]; exact hx.1) (fun i a _ op hop b hb _ => (hnt op (by simp at hop ⊢; exact .inl hop) b hb).elim))
      (fun op hop => by simp at hop; rw [hop]; exact hy.1) (fun i a _ op hop b hb _ => (hnt op (by simp at hop ⊢; exact .inr hop) b hb).elim)
  · rcases Array.mem_append.1 hop with hop | hop
    · exact h.tr.low op hop z b hz hb
    · exact (hnt op hop z hz).elim
  · by_cases e : j = n
    · subst e; rw [upd_same]; exact h.old.le
    · rw [upd_ne _ _ e]
      by_cases e0 : j = 0
      · subst e0; rw [upd_same]; exact h.old.le
      · rw [upd_ne _ _ e0]; exact h.lo j (by omega)

/-- What touches nothing. -/
theorem Team.silent {ws : Nat → World} {Bs : Nat → Nat} {n k : Nat} {W : World} {t u : Trace} (h : Team ws Bs n W t) (hu : ∀ op ∈ u, op.g = k ∧ ∀ x, op.act.touch? ≠ some x) : Team ws Bs n W (t ++ u) :=
  ⟨h.sees, h.apart, h.tr.app h.ap (Nat.le_refl _) fun op hop => ⟨(hu op hop).1, fun x hx => absurd hx ((hu op hop).2 x)⟩, h.old, h.lo⟩
/-- An owner may let go of what it sees: blocks of its view are poisoned; and it may take a higher bound. -/
theorem Team.weaken {ws : Nat → World} {Bs : Nat → Nat} {n k B' : Nat} {W w' : World} {t : Trace} (h : Team ws Bs n W t) (hs : Sees w' W) (hsub : ∀ b, b < w'.heap.size → ¬ Psn w' b → b < (ws k).heap.size ∧ ¬ Psn (ws k) b) (hB : Bs k ≤ B') (hk : k < n) :
    Team (upd ws k w') (upd Bs k B') n W t := by
  have mine : ∀ j b, Mine (upd ws k w') (upd Bs k B') n j b → Mine ws Bs n j b := by
    intro j b ⟨hj, m1, m2, m3⟩
    by_cases e : j = k
    · subst e; rw [upd_same] at m1 m2 m3; obtain ⟨q1, q2⟩ := hsub b m2 m3; exact ⟨hj, by omega, q1, q2⟩
    · rw [upd_ne _ _ e] at m1 m2 m3; exact ⟨hj, m1, m2, m3⟩
  refine ⟨fun j hj => ?_, fun i j b hij hj hm hb => ?_, h.tr.less mine (fun j b hm => ?_), h.old, fun j hj => ?_⟩
  rotate_left 3
  · by_cases e : j = k
    · subst e; rw [upd_same]; exact Nat.le_trans (h.lo j hj) hB
    · rw [upd_ne _ _ e]; exact h.lo j hj
  · by_cases e : j = k
    · subst e; rw [upd_same]; exact hs
    · rw [upd_ne _ _ e]; exact h.sees j hj
  · have hm' := mine i b hm
    by_cases e : j = k
    · subst e
      rw [upd_same] at hb ⊢
      by_cases hq : Psn w' b
      · exact hq
      · obtain ⟨q1, q2⟩ := hsub b hb hq
        exact absurd (h.apart i j b hij hj hm' q1) q2
    · rw [upd_ne _ _ e] at hb ⊢; exact h.apart i j b hij hj hm' hb
  · obtain ⟨hj, m1, m2, m3⟩ := hm
    by_cases e : j = k
    · subst e
      rw [upd_same] at m1 m2 m3
      obtain ⟨q1, q2⟩ := hsub b m2 m3
      rcases Nat.lt_or_ge b (Bs j) with hlt | hge
      · exact .inl ⟨hj, hlt, q1, q2⟩
      · exact .inr ⟨hj, hge, q1, q2⟩
    · rw [upd_ne _ _ e] at m1 m2 m3; exact .inl ⟨hj, m1, m2, m3⟩
end Go.Tx
