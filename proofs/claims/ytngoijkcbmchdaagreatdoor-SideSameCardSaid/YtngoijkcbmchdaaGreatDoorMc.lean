/- The pool's machine, third part: small laws: jobs, touches, who is woken. -/
import Derived.Test.YtngoijkcbmchdaaGreatDoorMb
set_option linter.unusedVariables false
set_option linter.unusedSimpArgs false
namespace Go.Tx
open Go.Conc Go.ConcN
open Go.ConcR (KK wgBlock WgAt stA smA rd wr mk again_blocked)
variable [Old]

section
variable {ph : Ph} {j sent : Nat} {E : Nat → Nat × Nat} {S : Nat → Prop} {cs : Array Value}

omit [Old] in
/-- A worker is handed the next job. -/
theorem Jobs.take (h : Jobs ph j sent E S cs) {x b : Nat} (hx : x < j) (hE : E x = (0, b)) (hs : sent < ph.N) : Jobs ph j (sent + 1) (upd E x (1, sent)) S cs := by
  refine ⟨h.csz, hs, fun i hi => ?_, fun y i hy he => ?_, fun y z i hy hz h1 h2 => ?_, fun i hi => ⟨by have := (h.j4 i hi).1; omega, (h.j4 i hi).2⟩, fun y hy h0 => ?_⟩
  · rcases Nat.lt_or_ge i sent with hlt | hge
    · rcases h.j1 i hlt with hS | ⟨y, hy, he⟩
      · exact .inl hS
      · refine .inr ⟨y, hy, ?_⟩
        rw [upd_ne _ _ (fun e => by subst e; rw [hE] at he; cases he)]; exact he
    · exact .inr ⟨x, hx, by rw [upd_same, show i = sent by omega]⟩
  · by_cases e : y = x
    · subst e; rw [upd_same] at he; cases he
      exact ⟨by omega, fun hS => by have := (h.j4 _ hS).1; omega⟩
    · rw [upd_ne _ _ e] at he
      exact ⟨by have := (h.j2 y i hy he).1; omega, (h.j2 y i hy he).2⟩
  · by_cases e1 : y = x <;> by_cases e2 : z = x
    · rw [e1, e2]
    · subst e1; rw [upd_same] at h1; cases h1
      rw [upd_ne _ _ e2] at h2; have := (h.j2 z _ hz h2).1; omega
    · subst e2; rw [upd_same] at h2; cases h2
      rw [upd_ne _ _ e1] at h1; have := (h.j2 y _ hy h1).1; omega
    · rw [upd_ne _ _ e1] at h1; rw [upd_ne _ _ e2] at h2; exact h.j3 y z i hy hz h1 h2
  · by_cases e : y = x
    · subst e; rw [upd_same] at h0; cases h0
    · rw [upd_ne _ _ e] at h0 ⊢; have := h.lo y hy h0; omega

omit [Old] in
/-- One that has no job goes on. -/
theorem Jobs.idle (h : Jobs ph j sent E S cs) {x c i : Nat} (hx : x < j) (hE : (E x).1 ≠ 1) (hc : 2 ≤ c) : Jobs ph j sent (upd E x (c, i)) S cs := by
  refine ⟨h.csz, h.le, fun i' hi => ?_, fun y i' hy he => ?_, fun y z i' hy hz h1 h2 => ?_, h.j4, fun y hy h0 => ?_⟩
  · rcases h.j1 i' hi with hS | ⟨y, hy, he⟩
    · exact .inl hS
    · exact .inr ⟨y, hy, by rw [upd_ne _ _ (fun e => by subst e; rw [he] at hE; exact hE rfl)]; exact he⟩
  · by_cases e : y = x
    · subst e; rw [upd_same] at he; cases he; omega
    · rw [upd_ne _ _ e] at he; exact h.j2 y i' hy he
  · by_cases e1 : y = x
    · subst e1; rw [upd_same] at h1; cases h1; omega
    · by_cases e2 : z = x
      · subst e2; rw [upd_same] at h2; cases h2; omega
      · rw [upd_ne _ _ e1] at h1; rw [upd_ne _ _ e2] at h2; exact h.j3 y z i' hy hz h1 h2
  · by_cases e : y = x
    · subst e; rw [upd_same] at h0; simp only at h0; omega
    · rw [upd_ne _ _ e] at h0 ⊢; exact h.lo y hy h0

omit [Old] in
theorem Jobs.same (h : Jobs ph j sent E S cs) (x : Nat) : Jobs ph j sent (upd E x (E x)) S cs := by
  have e : upd E x (E x) = E := by funext y; unfold upd; split <;> simp_all
  rw [e]; exact h

omit [Old] in
theorem putAt_size (l : List Value) : ∀ (cs : Array Value) (o n : Nat), ((l.zipIdx n).foldl (fun cs p => cs.setIfInBounds (o + p.2) p.1) cs).size = cs.size := by
  induction l with
  | nil => intro cs o n; rfl
  | cons v l ih => intro cs o n; simp only [List.zipIdx_cons, List.foldl_cons]; rw [ih]; simp
omit [Old] in
theorem putAt_get (l : List Value) : ∀ (cs : Array Value) (o n i : Nat), o + n + l.length ≤ cs.size →
    ((l.zipIdx n).foldl (fun cs p => cs.setIfInBounds (o + p.2) p.1) cs)[i]? = if o + n ≤ i ∧ i < o + n + l.length then l[i - (o + n)]? else cs[i]? := by
  induction l with
  | nil => intro cs o n i _; simp only [List.zipIdx_nil, List.foldl_nil, List.length_nil]; rw [if_neg (by omega)]
  | cons v l ih =>
    intro cs o n i hsz
    simp only [List.length_cons] at hsz ⊢
    simp only [List.zipIdx_cons, List.foldl_cons]
    rw [ih _ o (n + 1) i (by simp; omega)]
    by_cases h1 : o + (n + 1) ≤ i ∧ i < o + (n + 1) + l.length
    · rw [if_pos h1, if_pos (by omega)]
      rw [show i - (o + n) = (i - (o + (n + 1))) + 1 by omega, List.getElem?_cons_succ]
    · rw [if_neg h1]
      by_cases h2 : i = o + n
      · subst h2
        rw [if_pos (by omega), Array.getElem?_setIfInBounds_self_of_lt (by omega), Nat.sub_self]; rfl
      · rw [if_neg (by omega), Array.getElem?_setIfInBounds_ne (by omega)]

/-- It has stored its job's result. -/
theorem Jobs.store (hp : PhOk ph) (h : Jobs ph j sent E S cs) {x i : Nat} (hx : x < j) (hE : E x = (1, i)) : Jobs ph j sent (upd E x (0, i + 1)) (fun k => S k ∨ k = i) (putAt cs (i * ph.cpe) (ph.F i)) := by
  obtain ⟨hi, hnS⟩ := h.j2 x i hx hE
  have hiN : i < ph.N := by have := h.le; omega
  have hl := hp.len i hiN
  have hfit : i * ph.cpe + 0 + (ph.F i).length ≤ cs.size := by
    rw [hl, h.csz]
    have : (i + 1) * ph.cpe ≤ ph.N * ph.cpe := Nat.mul_le_mul_right _ hiN
    rw [Nat.add_mul, Nat.one_mul] at this; omega
  refine ⟨by unfold putAt; rw [putAt_size, h.csz], h.le, fun i' hi' => ?_, fun y i' hy he => ?_, fun y z i' hy hz h1 h2 => ?_, fun i' hi' => ?_, fun y hy h0 => ?_⟩
  · by_cases e : i' = i
    · exact .inl (.inr e)
    · rcases h.j1 i' hi' with hS | ⟨y, hy, he⟩
      · exact .inl (.inl hS)
      · exact .inr ⟨y, hy, by rw [upd_ne _ _ (fun e' => by subst e'; rw [hE] at he; cases he; exact e rfl)]; exact he⟩
  · by_cases e : y = x
    · subst e; rw [upd_same] at he; cases he
    · rw [upd_ne _ _ e] at he
      refine ⟨(h.j2 y i' hy he).1, fun hS => ?_⟩
      rcases hS with hS | rfl
      · exact (h.j2 y i' hy he).2 hS
      · exact e (h.j3 y x _ hy hx he hE)
  · by_cases e1 : y = x
    · subst e1; rw [upd_same] at h1; cases h1
    · by_cases e2 : z = x
      · subst e2; rw [upd_same] at h2; cases h2
      · rw [upd_ne _ _ e1] at h1; rw [upd_ne _ _ e2] at h2; exact h.j3 y z i' hy hz h1 h2
  · rcases hi' with hS | rfl
    · obtain ⟨q1, q2⟩ := h.j4 i' hS
      refine ⟨q1, fun k hk => ?_⟩
      unfold putAt
      rw [putAt_get _ _ _ _ _ hfit, if_neg ?_]
      · exact q2 k hk
      · intro ⟨a1, a2⟩
        rw [hl] at a2
        have : i' = i := by
          rcases Nat.lt_trichotomy i' i with hlt | e | hgt
          · have : (i' + 1) * ph.cpe ≤ i * ph.cpe := Nat.mul_le_mul_right _ hlt
            rw [Nat.add_mul, Nat.one_mul] at this; omega
          · exact e
          · have : (i + 1) * ph.cpe ≤ i' * ph.cpe := Nat.mul_le_mul_right _ hgt
            rw [Nat.add_mul, Nat.one_mul] at this; omega
        subst this; exact hnS hS
    · refine ⟨hi, fun k hk => ?_⟩
      unfold putAt
      rw [putAt_get _ _ _ _ _ hfit, if_pos (by rw [hl]; omega)]
      congr 1; omega
  · by_cases e : y = x
    · subst e; rw [upd_same]; exact hi
    · rw [upd_ne _ _ e] at h0 ⊢; exact h.lo y hy h0

omit [Old] in
/-- One worker more. -/
theorem Jobs.more (h : Jobs ph j sent E S cs) : Jobs ph (j + 1) sent (upd E j (0, 0)) S cs := by
  have ne : ∀ {y : Nat}, y < j → y ≠ j := fun h => by omega
  refine ⟨h.csz, h.le, fun i hi => ?_, fun y i hy he => ?_, fun y z i hy hz h1 h2 => ?_, h.j4, fun y hy h0 => ?_⟩
  · rcases h.j1 i hi with hS | ⟨y, hy, he⟩
    · exact .inl hS
    · exact .inr ⟨y, by omega, by rw [upd_ne _ _ (ne hy)]; exact he⟩
  · by_cases e : y = j
    · subst e; rw [upd_same] at he; cases he
    · rw [upd_ne _ _ e] at he; exact h.j2 y i (by omega) he
  · by_cases e1 : y = j
    · subst e1; rw [upd_same] at h1; cases h1
    · by_cases e2 : z = j
      · subst e2; rw [upd_same] at h2; cases h2
      · rw [upd_ne _ _ e1] at h1; rw [upd_ne _ _ e2] at h2; exact h.j3 y z i (by omega) (by omega) h1 h2
  · by_cases e : y = j
    · subst e; rw [upd_same]; exact Nat.zero_le _
    · rw [upd_ne _ _ e] at h0 ⊢; exact h.lo y (by omega) h0

/-- All is stored. -/
theorem Jobs.all (hp : PhOk ph) (h : Jobs ph j ph.N E S cs) (hE : ∀ x, x < j → (E x).1 ≠ 1) : cs = allOf ph.F ph.N := by
  have hS : ∀ i, i < ph.N → S i := fun i hi => (h.j1 i hi).resolve_right fun ⟨x, hx, he⟩ => hE x hx (by rw [he])
  have key : ∀ n, n ≤ ph.N → ((List.range n).flatMap ph.F).length = n * ph.cpe ∧ ∀ i, i < n → ∀ k, k < ph.cpe → ((List.range n).flatMap ph.F)[i * ph.cpe + k]? = (ph.F i)[k]? := by
    intro n
    induction n with
    | zero => intro _; exact ⟨by simp, fun i hi => by omega⟩
    | succ n ih =>
      intro hn
      obtain ⟨i1, i2⟩ := ih (by omega)
      have hln := hp.len n (by omega)
      rw [List.range_succ, List.flatMap_append]
      simp only [List.flatMap_cons, List.flatMap_nil, List.append_nil]
      refine ⟨by rw [List.length_append, i1, hln, Nat.add_mul, Nat.one_mul], fun i hi k hk => ?_⟩
      by_cases e : i = n
      · subst e
        rw [List.getElem?_append_right (by omega), i1]; congr 1; omega
      · have : (i + 1) * ph.cpe ≤ n * ph.cpe := Nat.mul_le_mul_right _ (by omega)
        rw [Nat.add_mul, Nat.one_mul] at this
        rw [List.getElem?_append_left (by omega)]; exact i2 i (by omega) k hk
  obtain ⟨k1, k2⟩ := key ph.N (Nat.le_refl _)
  apply Array.ext_getElem?
  intro m
  have e2 : (allOf ph.F ph.N)[m]? = ((List.range ph.N).flatMap ph.F)[m]? := by unfold allOf; simp
  rw [e2]
  rcases Nat.lt_or_ge m (ph.N * ph.cpe) with hlt | hge
  · have hq : m / ph.cpe < ph.N := Nat.div_lt_of_lt_mul (by rw [Nat.mul_comm]; exact hlt)
    have hr := Nat.mod_lt m hp.cpe
    have em : m = m / ph.cpe * ph.cpe + m % ph.cpe := by rw [Nat.mul_comm]; exact (Nat.div_add_mod m ph.cpe).symm
    rw [em, (h.j4 _ (hS _ hq)).2 _ hr, k2 _ hq _ hr]
  · rw [Array.getElem?_eq_none (by rw [h.csz]; exact hge), List.getElem?_eq_none (by rw [k1]; exact hge)]
end

/-! ### The touches -/
section
variable {ph : Ph} {k0 j : Nat} {t u : Trace} {S S' : Nat → Prop}
omit [Old] in
theorem OldKn.app {i : Nat} (h : OldKn k0 j t i) : OldKn k0 j (t ++ u) i := ⟨h.1.app u, fun x hx => (h.2 x hx).app u⟩
omit [Old] in
theorem Tch.app (h : Tch ph k0 j t S) (hS : ∀ i, S i → S' i) (hr : ∀ op ∈ u, ∀ A, op.act ≠ .mark (.release A))
    (hu : ∀ op ∈ u, ∀ x, op.act.touch? = some x → (blk x.loc = some ph.Wg → x.kind ≠ .plain ∧ (x.kind = .said → op.g = 0)) ∧ (blk x.loc = some ph.ob → ∃ o, x.loc = .cell ⟨ph.ob, o, none⟩ ∧ S' (o / ph.cpe)) ∧ (blk x.loc = some ph.ch → x.kind ≠ .plain)) : Tch ph k0 j (t ++ u) S' := by
  refine ⟨fun A => (h.nor A).app fun op hop => hr op hop A, fun i x hx hb => ?_, fun i x hx hb => ?_, fun i x hx hb => ?_⟩
  · rcases touch_app hx with ⟨hlt, hx'⟩ | ⟨op, hop, ho, hx'⟩
    · rcases h.wg i x hx' hb with q | ⟨q1, q2⟩
      · exact .inl q.app
      · exact .inr ⟨q1, fun e => by rw [g?_old hlt]; exact q2 e⟩
    · obtain ⟨q1, q2⟩ := (hu op hop x hx').1 hb
      exact .inr ⟨q1, fun e => by rw [Trace.g?, ho]; simp [q2 e]⟩
  · rcases touch_app hx with ⟨hlt, hx'⟩ | ⟨op, hop, ho, hx'⟩
    · rcases h.ob i x hx' hb with q | ⟨o, q1, q2⟩
      · exact .inl q.app
      · exact .inr ⟨o, q1, hS _ q2⟩
    · exact .inr ((hu op hop x hx').2.1 hb)
  · rcases touch_app hx with ⟨hlt, hx'⟩ | ⟨op, hop, ho, hx'⟩
    · exact h.chn i x hx' hb
    · exact (hu op hop x hx').2.2 hb
omit [Old] in
theorem Tch.mute (h : Tch ph k0 j t S) (hu : ∀ op ∈ u, op.act.touch? = none) (hr : ∀ op ∈ u, ∀ A, op.act ≠ .mark (.release A)) : Tch ph k0 j (t ++ u) S :=
  h.app (fun _ x => x) hr fun op hop x hx => by rw [hu op hop] at hx; cases hx

omit [Old] in
/-- A touch of the group's block that is not plain: whoever makes it knows what conflicts with it. -/
theorem Tch.known (h : Tch ph k0 j t S) {k : Nat} (hk : k = 0 ∨ ∃ x, x < j ∧ k = k0 + x) {b : Touch} (hb : blk b.loc = some ph.Wg) (hp : b.kind ≠ .plain) (hs : b.kind = .said → k = 0) :
    ∀ said i a, touchAt t i = some a → a.conflicts said b → Knows t k i := by
  intro said i a ha hc
  obtain ⟨hloc, _, _, hkind⟩ := hc
  rcases h.wg i a ha (by rw [hloc]; exact hb) with ⟨q0, q⟩ | ⟨q1, q2⟩
  · rcases hk with rfl | ⟨x, hx, rfl⟩
    · exact q0
    · exact q x hx
  · rcases hkind with e | e | ⟨_, e1, e2⟩
    · exact absurd e q1
    · exact absurd e hp
    · have hg := q2 e1
      obtain ⟨op, ho, hg'⟩ := Option.map_eq_some_iff.1 hg
      have := knows_own ho
      rwa [hg', ← hs e2] at this
end

/-! ### Who is woken -/
section
variable {P : Program} {ph : Ph}
omit [Old] in
theorem rw_of {W W' : World} (hl : WgLive ph.tWg ph.Wg W') (h : Cst ph W) (h' : Cst ph W') : @RW ⟨ph.cty⟩ ph.tWg ph.Wg ph.C 1 0 0 W W' := by
  unfold Cst at h h'
  exact @RW.mk ⟨ph.cty⟩ _ _ _ _ _ _ _ _ (fun b hb => by omega) (fun _ => hl) (fun _ => ⟨_, h', rfl⟩) (by unfold World.cell?; rw [h, h'])

omit [Old] in
theorem WSt.rely {B dd : Nat} {cl snd : Bool} {e : Nat × Nat} {m : Wm} {g : Goroutine} {w W W' : World} (h : WSt P ph B cl snd dd e m g w W) (hr : @RW ⟨ph.cty⟩ ph.tWg ph.Wg ph.C 1 0 0 W W') : WSt P ph B cl snd dd e m g w W' := by
  cases h with
  | run h1 h2 h3 h4 => exact .run h1 h2 h3 h4
  | wait h1 h2 h3 h4 => exact .wait h1 h2 h3 h4
  | try_ h1 h2 h3 => exact .try_ h1 h2 h3
  | lib h1 h2 h3 => exact .lib h1 h2 (@WSit.rely ⟨ph.cty⟩ _ _ _ _ _ _ _ _ _ _ _ _ _ _ _ _ h3 hr)

omit [Old] in
theorem WSt.status {B dd : Nat} {cl snd : Bool} {e : Nat × Nat} {m : Wm} {g : Goroutine} {w W : World} (h : WSt P ph B cl snd dd e m g w W) : g.status = .running ∨ g.status = .finished ∨ (g.status = .blocked ∧ cl = false ∧ snd = false) := by
  cases h with
  | run h1 h2 h3 h4 => exact .inl h3
  | wait h1 h2 h3 h4 => exact .inr (.inr ⟨rfl, h3, h4⟩)
  | try_ h1 h2 h3 => exact .inl rfl
  | lib h1 h2 h3 => exact (@WSit.status ⟨ph.cty⟩ _ _ _ _ _ _ _ _ _ _ _ _ _ _ _ h3).imp id .inl

omit [Old] in
/-- Another's step leaves a worker as it stands, the channel being as it was. -/
theorem WSt.woken {B dd : Nat} {cl snd : Bool} {e : Nat × Nat} {m : Wm} {g a a' : Goroutine} {w W W' : World} {s r : Nat} {tm : Bool} (h : WSt P ph B cl snd dd e m g w W) (hc : W'.heap[ph.ch]? = some (.chan 0 #[] cl s r tm)) : Go.Conc.woken P a a' W' g = g := by
  cases h with
  | run h1 h2 h3 h4 => unfold Go.Conc.woken; split; exact again_running _ (.inl h3); rfl
  | wait h1 h2 h3 h4 => subst h3; exact woken_recv_open a a' hc
  | try_ h1 h2 h3 => unfold Go.Conc.woken; split; exact again_running _ (.inl rfl); rfl
  | lib h1 h2 h3 => exact @WSit.woken ⟨ph.cty⟩ _ _ _ _ _ _ _ _ _ _ _ _ _ _ _ h3 a a' W'
omit [Old] in
/-- The close: whoever waited tries again. -/
theorem WSt.closed {B dd : Nat} {e : Nat × Nat} {m : Wm} {g a a' : Goroutine} {w W W' : World} {s r : Nat} {tm : Bool} (h : WSt P ph B false false dd e m g w W) (hc : W'.heap[ph.ch]? = some (.chan 0 #[] true s r tm)) (hm : mayWake P a = true) (hs : a'.status = .running) :
    WSt P ph B true false dd e m (Go.Conc.woken P a a' W' g) w W := by
  have hw : Go.Conc.woken P a a' W' g = g.again W' := by unfold Go.Conc.woken; rw [if_pos (by simp [hm, hs])]
  rw [hw]
  cases h with
  | run h1 h2 h3 h4 => rw [again_running _ (.inl h3)]; exact .run h1 h2 h3 h4
  | wait h1 h2 h3 h4 => rw [again_recv_closed hc]; exact .try_ h1 h2 rfl
  | try_ h1 h2 h3 => cases h3
  | lib h1 h2 h3 => rw [again_running _ (@WSit.status ⟨ph.cty⟩ _ _ _ _ _ _ _ _ _ _ _ _ _ _ _ h3)]; exact .lib h1 h2 h3

omit [Old] in
theorem MSt.woken {B' : Nat} {Z : Goroutine → World → Prop} {a b c bl : Nat} {ρ : Rk} {g x x' : Goroutine} {w W' : World} {s r : Nat} {tm : Bool} (h : MSt P ph B' Z a b c bl ρ g w) (ha : a ≤ 16) (hZ : ∀ g w, Z g w → w.output = gho 17 0 0) (hc : W'.heap[ph.ch]? = some (.chan 0 #[] (clOf a) s r tm)) :
    ∃ bl', MSt P ph B' Z a b c bl' ρ (Go.Conc.woken P x x' W' g) w ∧ (bl' = bl ∨ (bl = 2 ∧ bl' = 0)) ∧ (mayWake P x = true → x'.status = .running → bl' ≠ 2) := by
  cases h with
  | run h1 h2 =>
    have hr : g.status = .running := by
      rcases h2.cases with h | h | h
      · have := hZ _ _ (h w (Push.refl w)); rw [h1] at this; have := (gho_inj this).1; omega
      · exact h.1
      · exact h.1
    refine ⟨0, ?_, .inl rfl, fun _ _ => by omega⟩
    have : Go.Conc.woken P x x' W' g = g := by unfold Go.Conc.woken; split; exact again_running _ (.inl hr); rfl
    rw [this]; exact .run h1 h2
  | send h1 h2 h3 =>
    refine ⟨1, ?_, .inl rfl, fun _ _ => by omega⟩
    rw [woken_send_open x x' (show W'.heap[ph.ch]? = some (.chan 0 #[] false s r tm) from hc)]
    exact .send h1 h2 h3
  | sema h1 h2 h3 h4 =>
    by_cases hk : (mayWake P x && x'.status != .blocked && x'.status != .waiting) = true
    · refine ⟨0, ?_, .inr ⟨rfl, rfl⟩, fun _ _ => by omega⟩
      rename_i g0
      have : Go.Conc.woken P x x' W' { g0 with status := .blocked } = g0 := by unfold Go.Conc.woken; rw [if_pos hk]; exact again_blocked h2 h3 W'
      rw [this]; exact .run h1 h4
    · refine ⟨2, ?_, .inl rfl, fun h1 h2 => absurd (by simp [h1, h2]) hk⟩
      rename_i g0
      have : Go.Conc.woken P x x' W' { g0 with status := .blocked } = { g0 with status := .blocked } := by unfold Go.Conc.woken; rw [if_neg hk]
      rw [this]; exact .sema h1 h2 h3 h4
end
end Go.Tx
