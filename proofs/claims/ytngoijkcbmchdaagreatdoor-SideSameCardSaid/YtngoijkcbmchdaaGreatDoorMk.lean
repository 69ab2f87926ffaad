/- The pool's machine, eleventh part: whoever steps, wherever; from the entry to the return. -/
import Derived.Test.YtngoijkcbmchdaaGreatDoorMj
set_option linter.unusedVariables false
set_option linter.unusedSimpArgs false
namespace Go.Tx
open Go.Conc Go.ConcN
open Go.ConcR (KK wgBlock WgAt stA smA rd wr again_blocked g_of_ofEvents ofEvent_mk Bk bk_of_mute ofEvent_loc_mark)
variable [Old]

/-- It stands at its return. -/
def Ret (P : Program) (Q : Value → World → Prop) (g : Goroutine) (w : World) : Prop :=
  g.status = .running ∧ ∃ v, (∀ W, Over (Psn w) w W → stepG P true g W = .ended (.done v) W #[]) ∧ Q v w

def ltP : Mz → Mz → Prop := Relation.TransGen Mz.lt
/-- One step of whoever is picked: it goes on; or it is the return, and all is well. -/
def Out (P : Program) (B0 : Nat) (Q : Value → World → Prop) (gs : Array Goroutine) (W : World) (sl : Option (Nat × Nat)) (i : Nat) (t : Trace) (μ : Mz) : Prop :=
  (∃ m' ops μ', runT P (crowd gs W sl) i = (.next m', ops) ∧ ltP μ' μ ∧ IAll P B0 (Ret P Q) μ' m' (t ++ ops)) ∨
  (∃ v w, runT P (crowd gs W sl) i = (.ended (.done v) W, #[]) ∧ Q v w ∧ (Sees w W ∧ Kept W) ∧ (∀ said, ¬ Race said t) ∧ t.HandedOver ∧ (∀ k g, gs[k]? = some g → k ≠ 0 → ∃ q, QuitsD P q (Deaf t k) g))

section
variable {P : Program} {ph : Ph} {B0 B' : Nat} {Zo : Goroutine → World → Prop} {Q : Value → World → Prop} {K : Goroutine → World → Prop} {lg : TypeId → Nat → Prop} {dead : Nat → Prop} {ws : Nat → World} {Bs : Nat → Nat} {k0 : Nat} {gs : Array Goroutine} {W W' : World} {sl : Option (Nat × Nat)} {t u : Trace}
  {E : Nat → Nat × Nat} {a b c bl : Nat} {S : Nat → Prop} {cs : Array Value} {st sm : Int} {ρ ρo : Rk} {L : List Wm} {mm : Mm}

theorem Out.less {i : Nat} {μ μ' : Mz} (h : Out P B0 Q gs W sl i t μ') (hl : ltP μ' μ) : Out P B0 Q gs W sl i t μ := by
  rcases h with ⟨m', ops, μ'', h1, h2, h3⟩ | h
  · exact .inl ⟨m', ops, μ'', h1, h2.trans hl, h3⟩
  · exact .inr h
theorem Res.out {i : Nat} {μ : Mz} (h : Res P gs W sl i t μ (IAll P B0 (Ret P Q))) : Out P B0 Q gs W sl i t μ :=
  let ⟨m', ops, μ', h1, h2, h3⟩ := h; .inl ⟨m', ops, μ', h1, .single h2, h3⟩

omit [Old] in
theorem mute_touch {e : Event} (h : Event.mute e = true) : (MemAct.ofEvent e).touch? = none ∧ ∀ A, MemAct.ofEvent e ≠ .mark (.release A) := by
  rcases bk_of_mute (Wg := 0) h with h1 | h1 | ⟨a, wr, rfl, _⟩
  · rw [ofEvent_loc_mark h1]; exact ⟨rfl, by simp⟩
  · rw [ofEvent_loc_mark h1]; exact ⟨rfl, by simp⟩
  · simp [Event.mute] at h

/-- A leaver's step beside a pool. -/
theorem PI.leave {Z : Goroutine → World → Prop} (hZ : ∀ g w, Z g w → w.output = gho 17 0 0) (h : PI P ph B' Z dead ws Bs k0 gs W t E a b c bl S cs st sm ρ L) {k : Nat} (hk1 : 1 ≤ k) (hk2 : k < k0) {g : Goroutine} (hg : gs[k]? = some g) (hrun : g.status = .running) :
    Res P gs W sl k t ((ρo, (0, ρ)), (L, runs gs)) (IPo P ph B' Z dead ρo) := by
  have hsz := h.sz
  have hk : k < gs.size := by omega
  obtain ⟨g1, q, e1, e2, e3⟩ := h.lv k hk1 hk2
  rw [hg] at e1; cases e1
  cases q with
  | zero => rw [e2.1] at hrun; cases hrun
  | succ q =>
    rcases e2 with ⟨hf, _⟩ | ⟨_, g', es, hmute, hstep, hq⟩
    · rw [hf] at hrun; cases hrun
    · have hne0 : (k == 0) = false := by simp; omega
      have hgo : stepG P (k == 0) g W = .go g' W es := by rw [hne0]; exact hstep W
      have hr := runT_crowd_go (P := P) (sl := sl) (i := k) hg hgo
      have hnt : ∀ op ∈ MemOp.ofEvents k g.frame.fn g.frame.place es, op.act.touch? = none ∧ ∀ A, op.act ≠ .mark (.release A) := by
        intro op hop
        rw [ofEvents_eq] at hop
        obtain ⟨e, he, rfl⟩ := Array.mem_map.1 hop
        exact mute_touch (hmute e he)
      have hgs : ∀ i, i ≠ k → ((gs.map (woken P g g' W)).setIfInBounds k g')[i]? = (gs[i]?).map (woken P g g' W) := fun i hi => get_map_set _ _ _ _ (Ne.symm hi)
      have hs' : ((gs.map (woken P g g' W)).setIfInBounds k g').size = gs.size := by simp
      obtain ⟨s, tm, hcW⟩ := h.wCh
      obtain ⟨g0, hg0, hm0⟩ := h.mn
      obtain ⟨bl', hm1, hbl, hwk⟩ := hm0.woken (x := g) (x' := g') (W' := W) (le16 h.ok) hZ hcW
      have hbl1 : (bl' == 1) = (bl == 1) := by rcases hbl with rfl | ⟨rfl, rfl⟩ <;> rfl
      refine ⟨_, _, ((ρo, (0, ρ)), (L.set (k - 1) (1, (rk0, q)), runs _)), hr, Mz.work (GAr.set e3 (.right _ (.right _ (Nat.lt_succ_self q)))) _ _, ws, Bs, k0, _, W, sl, E, a, b, c, bl', S, cs, st, sm, ρ, _, rfl, ?_, rfl⟩
      refine ⟨by rw [hs']; exact h.grp.mute (fun op hop => (hnt op hop).1) (fun op hop => by rw [g_of_ofEvents op hop]; exact hk), h.b0, h.bw, h.k1, by rw [hs']; exact hsz, by rw [hs', List.length_set]; exact h.len, fun i q1 q2 => ?_, fun y hy => ?_, by rw [Deaf_other t (by omega) _ g_of_ofEvents]; exact h.d0, ⟨_, by rw [hgs 0 (by omega), hg0]; rfl, hm1⟩, h.ok, by rw [hs']; exact h.hob, h.cC, h.wWg, h.mode.retag (tag_re hbl), h.wCh, h.wOb, h.jobs, h.opn, h.vb, fun y hy h3 => ?_, h.tch.mute (fun op hop => (hnt op hop).1) (fun op hop => (hnt op hop).2)⟩
      · by_cases e : i = k
        · subst e
          exact ⟨g', q, get_map_set_same _ _ _ hk, by rw [Deaf_own]; exact hq, List.getElem?_set_self (by have := h.len; omega)⟩
        · obtain ⟨g1, q', e1, e2, e3⟩ := h.lv i q1 q2
          exact ⟨g1, q', by rw [hgs i e, e1, Option.map_some, woken_quitsD e2], by rw [Deaf_other t (Ne.symm e) _ g_of_ofEvents]; exact e2, by rw [List.getElem?_set_ne (by omega)]; exact e3⟩
      · obtain ⟨g1, m1, e1, e2, e3⟩ := h.wk y hy
        refine ⟨g1, m1, by rw [hgs _ (by omega), e1, Option.map_some, e2.woken hcW], ?_, by rw [List.getElem?_set_ne (by omega)]; exact e3⟩
        rw [Deaf_other t (by omega) _ g_of_ofEvents, hbl1]; exact e2
      · obtain ⟨r, hr⟩ := h.rel y hy h3
        exact ⟨r, hr.appOther g_of_ofEvents (by omega)⟩

/-- A leaver's step outside the pools. -/
theorem SI.leave (h : SI P B0 Zo lg dead ws Bs gs W t L mm) (hrn : ∀ g, gs[0]? = some g → g.status = .running) {k : Nat} (hk1 : 1 ≤ k) {g : Goroutine} (hg : gs[k]? = some g) (hrun : g.status = .running) :
    Res P gs W sl k t (mm, (L, runs gs)) (ISo P B0 Zo) := by
  have hk : k < gs.size := (Array.getElem?_eq_some_iff.1 hg).1
  obtain ⟨g1, q, e1, e2, e3⟩ := h.lv k hk1 hk
  rw [hg] at e1; cases e1
  cases q with
  | zero => rw [e2.1] at hrun; cases hrun
  | succ q =>
    rcases e2 with ⟨hf, _⟩ | ⟨_, g', es, hmute, hstep, hq⟩
    · rw [hf] at hrun; cases hrun
    · have hne0 : (k == 0) = false := by simp; omega
      have hgo : stepG P (k == 0) g W = .go g' W es := by rw [hne0]; exact hstep W
      have hr := runT_crowd_go (P := P) (sl := sl) (i := k) hg hgo
      have hnt : ∀ op ∈ MemOp.ofEvents k g.frame.fn g.frame.place es, op.act.touch? = none ∧ ∀ A, op.act ≠ .mark (.release A) := by
        intro op hop
        rw [ofEvents_eq] at hop
        obtain ⟨e, he, rfl⟩ := Array.mem_map.1 hop
        exact mute_touch (hmute e he)
      have hgs : ∀ i, i ≠ k → ((gs.map (woken P g g' W)).setIfInBounds k g')[i]? = (gs[i]?).map (woken P g g' W) := fun i hi => get_map_set _ _ _ _ (Ne.symm hi)
      have hs' : ((gs.map (woken P g g' W)).setIfInBounds k g').size = gs.size := by simp
      obtain ⟨g0, hg0, hm0⟩ := h.mn
      have hw0 : woken P g g' W g0 = g0 := by unfold Go.Conc.woken; split; exact again_running _ (.inl (hrn g0 hg0)); rfl
      refine ⟨_, _, (mm, (L.set (k - 1) (1, (rk0, q)), runs _)), hr, Mz.work (GAr.set e3 (.right _ (.right _ (Nat.lt_succ_self q)))) _ _, _, W, sl, dead, ws, Bs, _, mm, lg, rfl, ?_, rfl⟩
      refine ⟨by rw [hs']; exact h.grp.mute (fun op hop => (hnt op hop).1) (fun op hop => by rw [g_of_ofEvents op hop]; exact hk), h.b0, by rw [hs']; exact h.n1, by rw [hs', List.length_set]; exact h.len, fun i q1 q2 => ?_, by rw [Deaf_other t (by omega) _ g_of_ofEvents]; exact h.d0, fun A => (h.nor A).app fun op hop => (hnt op hop).2 A, ⟨g0, by rw [hgs 0 (by omega), hg0, Option.map_some, hw0], hm0⟩, fun ch hch => ?_, by rw [hs']; exact h.wl⟩
      · by_cases e : i = k
        · subst e
          exact ⟨g', q, get_map_set_same _ _ _ hk, by rw [Deaf_own]; exact hq, List.getElem?_set_self (by have := h.len; omega)⟩
        · rw [hs'] at q2
          obtain ⟨g1, q', e1, e2, e3⟩ := h.lv i q1 q2
          exact ⟨g1, q', by rw [hgs i e, e1, Option.map_some, woken_quitsD e2], by rw [Deaf_other t (Ne.symm e) _ g_of_ofEvents]; exact e2, by rw [List.getElem?_set_ne (by omega)]; exact e3⟩
      · obtain ⟨q1, q2, q3, q4⟩ := h.chn ch hch
        rw [hs']
        refine ⟨q1, q2, q3, fun i x hx => ?_⟩
        rcases touch_app hx with ⟨_, hx'⟩ | ⟨op, hop, _, hx'⟩
        · exact q4 i x hx'
        · rw [(hnt op hop).1] at hx'; cases hx'

/-- The starter alone turns, outside the pools, by a step of its own. -/
theorem SI.own (h : SI P B0 Zo lg dead ws Bs gs W t L mm) {g g' : Goroutine} {w' : World} {es : Array Event} {mm' : Mm} (hg : gs[0]? = some g) (hT : Tr P true B0 g (World.upto (ws 0) W) g' w' es) (hv : NoView w')
    (hO : OSt P B0 Zo lg g' w' mm') (hlt : Mm.lt mm' mm) : Res P gs W sl 0 t (mm, (L, runs gs)) (ISo P B0 Zo) := by
  have hT' : Tr P true (Bs 0) g (World.upto (ws 0) W) g' w' es := by rw [h.b0]; exact hT
  obtain ⟨W', hgo, hG, hle, hhid, hlow, hops, hdm⟩ := h.grp.step (fn := g.frame.fn) (pos := g.frame.place) h.n1 (.inl rfl) hT' hv
  have hr := runT_crowd_go (P := P) (sl := sl) (i := 0) hg (by simpa using hgo)
  have hgs : ∀ i, i ≠ 0 → ((gs.map (woken P g g' W')).setIfInBounds 0 g')[i]? = (gs[i]?).map (woken P g g' W') := fun i hi => get_map_set _ _ _ _ (Ne.symm hi)
  have hs' : ((gs.map (woken P g g' W')).setIfInBounds 0 g').size = gs.size := by simp
  refine ⟨_, _, (mm', (L, runs _)), hr, Mz.main hlt _ _, _, W', sl, dead, upd ws 0 w', Bs, L, mm', lg, rfl, ?_, rfl⟩
  refine ⟨by rw [hs']; exact hG, h.b0, by rw [hs']; exact h.n1, by rw [hs']; exact h.len, fun i q1 q2 => ?_, by rw [Deaf_own, deafBehind_idle hdm]; exact h.d0, fun A => (h.nor A).app fun op hop => ?_, ⟨g', get_map_set_same _ _ _ h.n1, by rw [upd_same]; exact hO⟩, fun ch hch => ?_, fun ty b hl => ?_⟩
  · rw [hs'] at q2
    obtain ⟨g1, q', e1, e2, e3⟩ := h.lv i q1 q2
    exact ⟨g1, q', by rw [hgs i (by omega), e1, Option.map_some, woken_quitsD e2], by rw [Deaf_other t (by omega) _ g_of_ofEvents]; exact e2, e3⟩
  · rcases (hops op hop).2 with e | ⟨y, b', _, _, _, _, e, he⟩
    · rw [e]; simp
    · rw [he]; simp
  · rw [upd_same] at hch
    obtain ⟨⟨q1, q1b⟩, q2, ⟨tm, q3⟩, q4⟩ := h.chn ch (hT.1.2.2.symm.trans hch)
    rw [hs']
    refine ⟨by omega, (hhid ch q1 q2).2, ⟨tm, (hhid ch q1 q2).1.trans q3⟩, fun i x hx hb => ?_⟩
    rcases touch_app hx with ⟨_, hx'⟩ | ⟨op, hop, _, hx'⟩
    · exact q4 i x hx' hb
    · rcases (hops op hop).2 with e | ⟨y', b', hy', hpl, hbk, hnh, _⟩
      · rw [e] at hx'; cases hx'
      · rw [hy'] at hx'; cases hx'
        rw [hbk] at hb; cases hb; exact absurd q2 (hnh q1)
  · obtain ⟨q1, q2, st, sm, q3⟩ := h.wl ty b hl
    rw [hs']
    exact ⟨by omega, (hhid b q1 q2).2, st, sm, q3.of_block (hhid b q1 q2).1⟩

/-- The starter takes a step that turns nothing and says nothing. -/
theorem SI.idle (h : SI P B0 Zo lg dead ws Bs gs W t L mm) {g g' : Goroutine} {mm' : Mm} (hg : gs[0]? = some g) (hgo : stepG P true g W = .go g' W #[])
    (hO : OSt P B0 Zo lg g' (World.upto (ws 0) W) mm') (hlt : Mm.lt mm' mm) : Res P gs W sl 0 t (mm, (L, runs gs)) (ISo P B0 Zo) := by
  have hS := h.grp.team.sees 0 h.n1
  have hr := runT_crowd_go (P := P) (sl := sl) (i := 0) hg (show stepG P (0 == 0) g W = _ from hgo)
  have hgs : ∀ i, i ≠ 0 → ((gs.map (woken P g g' W)).setIfInBounds 0 g')[i]? = (gs[i]?).map (woken P g g' W) := fun i hi => get_map_set _ _ _ _ (Ne.symm hi)
  have hs' : ((gs.map (woken P g g' W)).setIfInBounds 0 g').size = gs.size := by simp
  refine ⟨_, _, (mm', (L, runs _)), hr, Mz.main hlt _ _, _, W, sl, dead, upd ws 0 (World.upto (ws 0) W), Bs, L, mm', lg, rfl, ?_, rfl⟩
  have e0 : t ++ MemOp.ofEvents 0 g.frame.fn g.frame.place #[] = t := by show t ++ #[] = t; simp
  rw [e0]
  refine ⟨by rw [hs']; exact h.grp.upto h.n1, h.b0, by rw [hs']; exact h.n1, by rw [hs']; exact h.len, fun i q1 q2 => ?_, h.d0, h.nor, ⟨g', get_map_set_same _ _ _ h.n1, by rw [upd_same]; exact hO⟩, fun ch hch => ?_, fun ty b hl => ?_⟩
  · rw [hs'] at q2
    obtain ⟨g1, q', e1, e2, e3⟩ := h.lv i q1 q2
    exact ⟨g1, q', by rw [hgs i (by omega), e1, Option.map_some, woken_quitsD e2], e2, e3⟩
  · rw [upd_same] at hch
    obtain ⟨q1, q2, q3⟩ := h.chn ch hch
    rw [hs']; exact ⟨q1, q2.review (upto_sub hS.size), q3⟩
  · obtain ⟨q1, q2, q3⟩ := h.wl ty b hl
    rw [hs']; exact ⟨q1, q2.review (upto_sub hS.size), q3⟩

/-- The starter makes a channel. -/
theorem SI.chan (h : SI P B0 Zo lg dead ws Bs gs W t L mm) {g g' : Goroutine} {mm' : Mm} {tm : Bool} (hg : gs[0]? = some g) (hgo : stepG P true g W = .go g' { W with heap := W.heap.push (.chan 0 #[] false 0 0 tm) } #[])
    (hO : OSt P B0 Zo lg g' { World.upto (ws 0) W with heap := (World.upto (ws 0) W).heap.push poison, output := gho 30 (World.upto (ws 0) W).heap.size 0 } mm') (hlt : Mm.lt mm' mm) : Res P gs W sl 0 t (mm, (L, runs gs)) (ISo P B0 Zo) := by
  have hS := h.grp.team.sees 0 h.n1
  have hus := upto_size hS.size
  have hr := runT_crowd_go (P := P) (sl := sl) (i := 0) hg (show stepG P (0 == 0) g W = _ from hgo)
  let W' : World := { W with heap := W.heap.push (.chan 0 #[] false 0 0 tm) }
  let w' : World := { World.upto (ws 0) W with heap := (World.upto (ws 0) W).heap.push poison, output := gho 30 (World.upto (ws 0) W).heap.size 0 }
  have hgs : ∀ i, i ≠ 0 → ((gs.map (woken P g g' W')).setIfInBounds 0 g')[i]? = (gs[i]?).map (woken P g g' W') := fun i hi => get_map_set _ _ _ _ (Ne.symm hi)
  have hs' : ((gs.map (woken P g g' W')).setIfInBounds 0 g').size = gs.size := by simp
  have hWs : W'.heap.size = W.heap.size + 1 := by simp [W']
  have hws : w'.heap.size = W.heap.size + 1 := by show ((World.upto (ws 0) W).heap.push poison).size = _; rw [Array.size_push, hus]
  have hWold : ∀ bb, bb < W.heap.size → W'.heap[bb]? = W.heap[bb]? := fun bb hb => by show (W.heap.push _)[bb]? = _; rw [Array.getElem?_push, if_neg (by omega)]
  have hwold : ∀ bb, bb < W.heap.size → w'.heap[bb]? = (World.upto (ws 0) W).heap[bb]? := fun bb hb => by show ((World.upto (ws 0) W).heap.push _)[bb]? = _; rw [Array.getElem?_push, if_neg (by rw [hus]; omega)]
  have hwnew : Psn w' W.heap.size := by unfold Psn; show ((World.upto (ws 0) W).heap.push _)[W.heap.size]? = _; rw [Array.getElem?_push, if_pos hus.symm]
  have hsub : ∀ bb, bb < w'.heap.size → ¬ Psn w' bb → bb < (ws 0).heap.size ∧ ¬ Psn (ws 0) bb := by
    intro bb hb hp
    rw [hws] at hb
    by_cases e : bb = W.heap.size
    · subst e; exact absurd hwnew hp
    · exact upto_sub hS.size bb (by rw [hus]; omega) (fun q => hp (by unfold Psn; rw [hwold bb (by omega)]; exact q))
  have hG : Grp (upd ws 0 w') Bs gs.size gs.size W' t dead := by
    have hmine : ∀ k bb, Mine (upd ws 0 w') Bs gs.size k bb → Mine ws Bs gs.size k bb := by
      intro k bb ⟨q0, q1, q2, q3⟩
      by_cases e : k = 0
      · subst e; rw [upd_same] at q2 q3; obtain ⟨p1, p2⟩ := hsub bb q2 q3; exact ⟨q0, q1, p1, p2⟩
      · rw [upd_ne _ _ e] at q2 q3; exact ⟨q0, q1, q2, q3⟩
    refine ⟨⟨fun k hk => ?_, fun i k bb hik hk hm hb => ?_, ⟨fun k bb l hm hl => h.grp.team.tr.own k bb l (hmine k bb hm) hl, fun k bb l hm hl => ?_, h.grp.team.tr.nr, fun op hop x bb hx hb => by have := h.grp.team.tr.low op hop x bb hx hb; omega⟩, h.grp.team.old.keep rfl (by omega) fun c hc => hWold c (Nat.lt_of_lt_of_le hc h.grp.team.old.le), h.grp.team.lo⟩, fun k hk => by have := h.grp.bs k hk; omega, h.grp.hand, h.grp.np, fun bb hb => ⟨by have := (h.grp.hid bb hb).1; omega, (h.grp.hid bb hb).2.review hsub⟩, h.grp.gsz⟩
    · by_cases e : k = 0
      · subst e; rw [upd_same]
        refine ⟨hS.os, hS.tape, by rw [hws, hWs]; exact Nat.le_refl _, fun bb hb => ?_, fun bb o ho => ?_⟩
        · rw [hws] at hb
          by_cases e : bb = W.heap.size
          · subst e; exact .inl hwnew
          · by_cases hq : Psn (World.upto (ws 0) W) bb
            · left; unfold Psn; rw [hwold bb (by omega)]; exact hq
            · right; rw [hWold bb (by omega), hwold bb (by omega)]; exact hS.over.same bb hq
        · have hb : bb < w'.heap.size := (Array.getElem?_eq_some_iff.1 ho).1
          rw [hws] at hb
          by_cases e : bb = W.heap.size
          · subst e; unfold Psn at hwnew; rw [hwnew] at ho; cases ho; rfl
          · rw [hwold bb (by omega)] at ho; exact hS.noView bb o ho
      · rw [upd_ne _ _ e]
        exact (h.grp.team.sees k hk).keep rfl rfl (by omega) (fun bb hb _ => hWold bb (Nat.lt_of_lt_of_le hb (h.grp.team.sees k hk).size))
    · have hm' := hmine i bb hm
      by_cases e : k = 0
      · subst e
        rw [upd_same] at hb ⊢
        by_cases hq : Psn w' bb
        · exact hq
        · obtain ⟨p1, p2⟩ := hsub bb hb hq
          exact absurd (h.grp.team.apart i 0 bb hik hk hm' p1) p2
      · rw [upd_ne _ _ e] at hb ⊢; exact h.grp.team.apart i k bb hik hk hm' hb
    · by_cases e : k = 0
      · subst e
        have q2 := hm.2.2.1; have q3 := hm.2.2.2
        rw [upd_same] at q2 q3
        obtain ⟨p1, p2⟩ := hsub bb q2 q3
        exact h.grp.team.tr.rd 0 bb l ⟨hm.1, hm.2.1, p1, p2⟩ hl
      · have q2 := hm.2.2.1; have q3 := hm.2.2.2
        rw [upd_ne _ _ e] at q2 q3
        exact h.grp.team.tr.rd k bb l ⟨hm.1, hm.2.1, q2, q3⟩ hl
  refine ⟨_, _, (mm', (L, runs _)), hr, Mz.main hlt _ _, _, W', sl, dead, upd ws 0 w', Bs, L, mm', lg, rfl, ?_, rfl⟩
  have e0 : t ++ MemOp.ofEvents 0 g.frame.fn g.frame.place #[] = t := by show t ++ #[] = t; simp
  rw [e0]
  refine ⟨by rw [hs']; exact hG, h.b0, by rw [hs']; exact h.n1, by rw [hs']; exact h.len, fun i q1 q2 => ?_, h.d0, h.nor, ⟨g', get_map_set_same _ _ _ h.n1, by rw [upd_same]; exact hO⟩, fun ch hch => ?_, fun ty b hl => ?_⟩
  · rw [hs'] at q2
    obtain ⟨g1, q', e1, e2, e3⟩ := h.lv i q1 q2
    exact ⟨g1, q', by rw [hgs i (by omega), e1, Option.map_some, woken_quitsD e2], e2, e3⟩
  · rw [upd_same] at hch
    have : ch = W.heap.size := by have := (gho_inj (show gho 30 (World.upto (ws 0) W).heap.size 0 = gho 30 ch 0 from hch)).2.1; rw [hus] at this; exact this.symm
    subst this
    rw [hs']
    refine ⟨⟨by omega, h.grp.team.old.le⟩, fun k hk hb => ?_, ⟨tm, ?_⟩, fun i x hx hb => ?_⟩
    · by_cases e : k = 0
      · subst e; rw [upd_same]; exact hwnew
      · rw [upd_ne _ _ e] at hb; have := (h.grp.team.sees k hk).size; omega
    · show (W.heap.push _)[W.heap.size]? = _; simp
    · obtain ⟨op, ho, hoa⟩ := touch_of hx
      have := h.grp.team.tr.low op (Array.mem_of_getElem? ho) x _ hoa hb
      omega
  · obtain ⟨q1, q2, st, sm, q3⟩ := h.wl ty b hl
    rw [hs']
    exact ⟨by omega, q2.review hsub, st, sm, q3.of_block (hWold b q1)⟩
end
end Go.Tx
