/- The pool's machine, fifth part: a worker inside the library's Done. -/
import Derived.Test.YtngoijkcbmchdaaGreatDoorMd
set_option linter.unusedVariables false
set_option linter.unusedSimpArgs false
namespace Go.Tx
open Go.Conc Go.ConcN
open Go.ConcR (KK wgBlock WgAt stA smA rd wr mk again_blocked g_of_ofEvents Bk ofEvent_loc_mark ofEvent_cell ofEvent_mk bk_of_mute)
variable [Old]

omit [Old] in
theorem upd_id {α : Type} (f : Nat → α) (k : Nat) : upd f k (f k) = f := by funext j; unfold upd; split <;> simp_all
omit [Old] in
theorem upd_id' {α : Type 1} (f : Nat → α) (k : Nat) (x : α) (h : x = f k) : (fun j => if j = k then x else f j) = f := by funext j; split <;> simp_all

/-- An entry of the library's: it touches nothing, or the group's block, not plainly. -/
def EvG (ph : Ph) (k : Nat) (e : Event) : Prop :=
  (∀ x, (MemAct.ofEvent e).touch? = some x → blk x.loc = some ph.Wg ∧ x.kind ≠ .plain ∧ (x.kind = .said → k = 0)) ∧ ∀ A, MemAct.ofEvent e ≠ .mark (.release A)
omit [Old] in
theorem evG_of_bk {ph : Ph} {k : Nat} {e : Event} (h : Bk ph.Wg e) : EvG ph k e := by
  rcases h with h | h | ⟨a, wr, rfl, ha⟩
  · rw [EvG, ofEvent_loc_mark h]; exact ⟨fun x hx => (by cases hx), by simp⟩
  · rw [EvG, ofEvent_loc_mark h]; exact ⟨fun x hx => (by cases hx), by simp⟩
  · rw [EvG, ofEvent_cell]
    refine ⟨fun x hx => ?_, by simp⟩
    simp only [MemAct.touch?, Option.some.injEq] at hx
    subst hx
    exact ⟨by simp [blk, ha], by simp, by simp⟩

section
variable {ph : Ph} {ws : Nat → World} {Bs : Nat → Nat} {k0 j n k : Nat} {W W' : World} {t : Trace} {dead : Nat → Prop} {S : Nat → Prop} {es : Array Event} {fn : FuncId} {pos : String}
theorem Grp.evG (h : Grp ws Bs k0 n W t (deadOf ph dead)) (hT : Tch ph k0 j t S) (hk : k < n) (hk0 : k = 0 ∨ ∃ x, x < j ∧ k = k0 + x) (he : ∀ e ∈ es, EvG ph k e) :
    Grp ws Bs k0 n W (t ++ MemOp.ofEvents k fn pos es) (deadOf ph dead) := by
  refine h.mark hk (hk0.imp id fun ⟨x, _, e⟩ => by omega) g_of_ofEvents fun op hop x hx => ?_
  rw [ofEvents_eq] at hop
  obtain ⟨e, hee, rfl⟩ := Array.mem_map.1 hop
  obtain ⟨q1, q2, q3⟩ := (he e hee).1 x hx
  refine ⟨fun b hb => ?_, fun _ => ⟨_, q1, .inr (.inl rfl)⟩, hT.known hk0 q1 q2 q3⟩
  rw [q1] at hb; cases hb
  exact h.hid _ (.inr (.inl rfl))
omit [Old] in
theorem Tch.evG (hT : Tch ph k0 j t S) (hwo : ph.Wg ≠ ph.ob) (he : ∀ e ∈ es, EvG ph k e) : Tch ph k0 j (t ++ MemOp.ofEvents k fn pos es) S := by
  refine hT.app (fun _ x => x) (fun op hop => ?_) fun op hop x hx => ?_
  · rw [ofEvents_eq] at hop
    obtain ⟨e, hee, rfl⟩ := Array.mem_map.1 hop
    exact (he e hee).2
  · rw [ofEvents_eq] at hop
    obtain ⟨e, hee, rfl⟩ := Array.mem_map.1 hop
    obtain ⟨q1, q2, q3⟩ := (he e hee).1 x hx
    exact ⟨fun _ => ⟨q2, q3⟩, fun hb => absurd (Option.some.inj (q1.symm.trans hb)) hwo, fun _ => q2⟩
theorem Apt.aside (h : Aside ph.Wg W W') (hh : Hid ws n ph.Wg) (hb : Old.b ≤ ph.Wg) : Apt ws n W W' := ⟨h.os, h.tape, h.size, fun b _ hn => h.block b fun e => hn (by rw [e]; exact hh), fun k => k.keep h.output (by rw [h.size]; exact Nat.le_refl _) fun c hc => h.block c (by omega)⟩
end

omit [Old] in
theorem wds_upd (E : Nat → Nat × Nat) (x : Nat) (e : Nat × Nat) : wds (upd E x e) = ConcN.upd (wds E) x ⟨stageOf e.1, 0, 0⟩ := by
  funext y
  by_cases h : y = x
  · subst h; simp [wds, upd, ConcN.upd]
  · simp [wds, upd, ConcN.upd, h]
omit [Old] in
theorem cnt_wds (E : Nat → Nat × Nat) (x : Nat) : cnt (wds E x) = if (E x).1 ≤ 4 then 1 else 0 := by
  unfold cnt wds stageOf
  simp only
  by_cases h : (E x).1 ≤ 2
  · simp [h]; omega
  · rw [if_neg h]
    by_cases h4 : (E x).1 ≤ 4
    · rw [if_pos h4, if_pos (by omega)]
    · rw [if_neg h4, if_neg (by omega)]
omit [Old] in
theorem vc_upd_le {j x : Nat} (E : Nat → Nat × Nat) (e : Nat × Nat) (hx : x < j) (h : (E x).1 ≤ e.1) : Vc j (wds (upd E x e)) ≤ Vc j (wds E) := by
  have := Vc_upd (wds E) (⟨stageOf e.1, 0, 0⟩ : WD) hx
  rw [← wds_upd] at this
  have c1 : cnt (⟨stageOf e.1, 0, 0⟩ : WD) ≤ cnt (wds E x) := by
    unfold cnt wds stageOf; simp only
    split <;> split <;> (try split) <;> (try split) <;> omega
  omega
omit [Old] in
theorem stage_le {s : Nat} (h : 1 ≤ s) (h' : s ≤ 6) : stageOf (9 - s) = s := by unfold stageOf; rw [if_neg (by omega)]; omega

section
variable {P : Program} {ph : Ph} {B' : Nat} {Z : Goroutine → World → Prop} {dead : Nat → Prop} {ws : Nat → World} {Bs : Nat → Nat} {k0 : Nat} {gs : Array Goroutine} {W : World} {sl : Option (Nat × Nat)} {t : Trace}
  {E : Nat → Nat × Nat} {a b c bl : Nat} {S : Nat → Prop} {cs : Array Value} {st sm : Int} {ρ ρo : Rk} {L : List Wm}

omit [Old] in
/-- Those that are started, and the one whose Add is made already, are n at most. -/
theorem pend_le (hok : OkG ph.n ph.N a b c) : jOf ph.n a b + pend (tagOf a b bl) ≤ ph.n := by
  unfold OkG at hok
  unfold jOf tagOf
  rcases hok with ⟨rfl, h, _⟩ | ⟨h1, h2, h3, _⟩ | ⟨h1, h2, _⟩
  · simp [pend]; exact h
  · rw [if_pos (by omega)]
    by_cases ha : a ≤ 1
    · simp [ha, pend]; omega
    · simp [ha, h2, pend]; omega
  · rw [if_neg (by omega), if_neg (by omega), if_neg (by omega)]
    have : pend (if a = 10 then CTag.kd else if a = 11 then .anch else if a = 12 then .w2 b else if a = 13 then (if bl = 2 then .blk else .w3) else if a = 15 then .w4 else if a = 14 then .ke else if a = 16 then .acq else .ret) = 0 := by
      (repeat' split) <;> rfl
    omega

omit [Old] in
theorem tag_re {bl' : Nat} (hbl : bl' = bl ∨ (bl = 2 ∧ bl' = 0)) : tagOf a b bl' = tagOf a b bl ∨ (tagOf a b bl = .blk ∧ tagOf a b bl' = .w3) := by
  rcases hbl with rfl | ⟨rfl, rfl⟩
  · exact .inl rfl
  · unfold tagOf
    (repeat' split) <;> first | exact .inl rfl | exact .inr ⟨rfl, rfl⟩ | omega

set_option maxHeartbeats 1600000 in
theorem PI.workLib (hp : PhOk ph) (hZ : ∀ g w, Z g w → w.output = gho 17 0 0) (h : PI P ph B' Z dead ws Bs k0 gs W t E a b c bl S cs st sm ρ L) {x s f d i : Nat} (hx : x < jOf ph.n a b) {g : Goroutine}
    (hg : gs[k0 + x]? = some g) (hrun : g.status = .running) (h1s : 1 ≤ s) (hs6 : s ≤ 6) (hE : E x = (9 - s, i)) (hW : @WSit ⟨ph.cty⟩ P ph.tWg ph.Wg ph.C 1 NoL NoL 0 1 ph.cv s f d g W) (hd : Deaf t (k0 + x) = d) (hm : L[k0 + x - 1]? = some (s, (rk0, f))) :
    Res P gs W sl (k0 + x) t ((ρo, (0, ρ)), (L, runs gs)) (IPo P ph B' Z dead ρo) := by
  letI : Go.ConcR.Payload := ⟨ph.cty⟩
  have hk : k0 + x < gs.size := by rw [h.sz]; omega
  have hdW : Hid ws gs.size ph.Wg := (h.grp.hid ph.Wg (.inr (.inl rfl))).2
  have hEs : (wds E x).stage = s := by unfold wds; rw [hE]; exact stage_le h1s hs6
  obtain ⟨r0, hr0⟩ := h.rel x hx (by rw [hE]; simp only; omega)
  have hcl : clOf a = true := by
    cases hc : clOf a with
    | true => rfl
    | false => have := h.opn hc x hx; rw [hE] at this; simp only at this; omega
  have bookG : ∀ {g' : Goroutine} {W' : World} {es : Array Event} {s' f' d' : Nat} {st' sm' : Int}, stepG P false g W = .go g' W' es → Aside ph.Wg W W' → WgAt ph.tWg ph.Wg W' st' sm' → (∀ e ∈ es, Bk ph.Wg e) →
      (∀ jx e, es[jx]? = some e → (MemAct.ofEvent e).touch? = none ∨ 0 < deafBehind d (es.extract 0 jx)) → WSit P ph.tWg ph.Wg ph.C 1 NoL NoL 0 1 ph.cv s' f' d' g' W' → deafBehind d es = d' → 1 ≤ s' → s' ≤ s →
      (∀ bl', (bl' = bl ∨ (bl = 2 ∧ bl' = 0)) → (mayWake P g = true → g'.status = .running → bl' ≠ 2) → ConcN.Mode (jOf ph.n a b) (wds (upd E x (9 - s', i))) (tagOf a b bl') st' sm') →
      (s' < s ∨ (s' = s ∧ f' < f)) → Res P gs W sl (k0 + x) t ((ρo, (0, ρ)), (L, runs gs)) (IPo P ph B' Z dead ρo) := by
    intro g' W' es s' f' d' st' sm' hgo hAs hwg' hbk hdf hs' hdd h1' hle hmode' hlt
    have hAp : Apt ws gs.size W W' := Apt.aside hAs hdW hp.lW
    have hC' : Cst ph W' := (hAs.block ph.C hp.cW).trans h.cC.2
    have hEv : ∀ e ∈ es, EvG ph (k0 + x) e := fun e he => evG_of_bk (hbk e he)
    refine PI.workGo (w' := ws (k0 + x)) hZ h hx hg hgo (by rw [upd_id]; exact (h.grp.evG h.tch hk (.inr ⟨x, hx, rfl⟩) hEv).apt hAp) (by rw [upd_id, hAp.size]; exact h.hob) hC' hwg' (hAs.block _ (Ne.symm hp.wc)) ((hAs.block _ (Ne.symm hp.wo)).trans h.wOb)
      (.lib h1' (by omega) (by rw [hd, hdd]; exact hs')) (h.jobs.idle hx (by rw [hE]; simp only; omega) (by omega)) (fun hc => by rw [hcl] at hc; cases hc) (vc_upd_le E _ hx (by rw [hE]; simp only; omega)) hmode'
      (fun _ => ⟨r0, hr0.book hd _ _ hbk hdf⟩) (h.tch.evG hp.wo hEv) hm ?_
    rcases hlt with hlt | ⟨rfl, hlt⟩
    · exact .left _ _ hlt
    · exact .right _ (.right _ hlt)
  have book : ∀ {g' : Goroutine} {W' : World} {es : Array Event} {s' f' d' : Nat} {st' sm' : Int}, stepG P false g W = .go g' W' es → Aside ph.Wg W W' → WgAt ph.tWg ph.Wg W' st' sm' → (∀ e ∈ es, Bk ph.Wg e) →
      (∀ jx e, es[jx]? = some e → (MemAct.ofEvent e).touch? = none ∨ 0 < deafBehind d (es.extract 0 jx)) → WSit P ph.tWg ph.Wg ph.C 1 NoL NoL 0 1 ph.cv s' f' d' g' W' → deafBehind d es = d' → 1 ≤ s' → s' ≤ s →
      ConcN.Mode (jOf ph.n a b) (wds (upd E x (9 - s', i))) (tagOf a b bl) st' sm' →
      (s' < s ∨ (s' = s ∧ f' < f)) → Res P gs W sl (k0 + x) t ((ρo, (0, ρ)), (L, runs gs)) (IPo P ph B' Z dead ρo) :=
    fun hgo hAs hwg' hbk hdf hs' hdd h1' hle hmode' hlt => bookG hgo hAs hwg' hbk hdf hs' hdd h1' hle (fun _ hb _ => hmode'.retag (tag_re hb)) hlt
  have same : ConcN.Mode (jOf ph.n a b) (wds (upd E x (9 - s, i))) (tagOf a b bl) st sm := by rw [← hE, upd_id]; exact h.mode
  have idle : ∀ {g' : Goroutine} {f' : Nat}, stepG P false g W = .go g' W #[] → WSit P ph.tWg ph.Wg ph.C 1 NoL NoL 0 1 ph.cv s f' d g' W → f' < f → Res P gs W sl (k0 + x) t ((ρo, (0, ρ)), (L, runs gs)) (IPo P ph B' Z dead ρo) :=
    fun hgo hs' hlt => book hgo (.refl ph.Wg W) h.wWg (by simp) (by simp) hs' rfl h1s (Nat.le_refl _) same (.inr ⟨rfl, hlt⟩)
  have hb := pend_le (bl := bl) h.ok
  have hn1 := hp.n1
  have hwg := h.wWg
  have hmode := h.mode
  have hV := Vc_le (jOf ph.n a b) (wds E)
  have eU : ∀ s' : Nat, 1 ≤ s' → s' ≤ 6 → wds (upd E x (9 - s', i)) = ConcN.upd (wds E) x ⟨s', 0, 0⟩ := fun s' p q => by rw [wds_upd, stage_le p q]
  cases hW with
  | r0 _ => omega
  | k1 h =>
    rcases Goes.cases h with hstop | ⟨m', rfl, hstep⟩
    · obtain ⟨_, g', hgo, m₂, hk'⟩ := hstop W (RW.refl W)
      refine book hgo (.refl ph.Wg W) hwg (by intro e he; simp at he; subst he; exact .inl rfl) (by intro jx e he; exact .inl (by have := Array.mem_of_getElem? he; simp at this; subst this; rfl)) (.d1 hk') rfl (by omega) (by omega) ?_ (.inl (by omega))
      rw [eU 5 (by omega) (by omega)]
      exact hmode.counted hx (by omega) (.inr rfl) _ _
    · obtain ⟨g', w', es, hgo, ⟨rfl, rfl⟩, hg'⟩ := hstep W (RW.refl W)
      exact idle hgo (.k1 hg') (by omega)
  | d1 h =>
    rcases Goes.cases h with hstop | ⟨m', rfl, hstep⟩
    · obtain ⟨_, hall⟩ := hstop W (RW.refl W)
      have hc1 : cnt (wds E x) = 1 := by simp [cnt, hEs]
      have hV1 : 1 ≤ Vc (jOf ph.n a b) (wds E) := by have := le_sumTo (f := fun y => cnt (wds E y)) hx; simp only [Vc]; omega
      have bk2 : ∀ e ∈ #[rd (stA ph.Wg), wr (stA ph.Wg)], Bk ph.Wg e := by intro e he; simp at he; rcases he with rfl | rfl <;> exact bk_cell _ _ rfl
      have df2 : ∀ jx e, (#[rd (stA ph.Wg), wr (stA ph.Wg)] : Array Event)[jx]? = some e → (MemAct.ofEvent e).touch? = none ∨ 0 < deafBehind 1 ((#[rd (stA ph.Wg), wr (stA ph.Wg)] : Array Event).extract 0 jx) := by
        intro jx e he
        match jx, he with
        | 0, _ => exact .inr (by simp [deafBehind])
        | 1, _ => exact .inr (by simp [deafBehind, rd])
        | jx + 2, he => simp at he
      have opq : OpenSt (jOf ph.n a b) (wds E) → OpenSt (jOf ph.n a b) (ConcN.upd (wds E) x ⟨1, 0, 0⟩) := fun h y hy => by
        by_cases e : y = x
        · subst e; rw [ConcN.upd_same]; simp
        · rw [ConcN.upd_ne _ _ e]; exact h y hy
      have hvu := Vc_upd (wds E) (⟨1, 0, 0⟩ : WD) hx
      have hq0 : cnt (⟨1, 0, 0⟩ : WD) = 0 := rfl
      generalize hT : tagOf a b bl = tag at hmode
      cases hmode with
      | opn h1 h2 h3 =>
        subst hT
        obtain ⟨v, hv⟩ : ∃ v, Vc (jOf ph.n a b) (wds E) + pend (tagOf a b bl) = v + 1 := ⟨Vc (jOf ph.n a b) (wds E) + pend (tagOf a b bl) - 1, by omega⟩
        rw [hv] at hwg
        have hw1 : WgAt ph.tWg ph.Wg W (((v : Nat) + 1) * KK + ((0 : Nat) : Int)) 0 := by simpa using hwg
        obtain ⟨g', hgo, _, hq⟩ := hall v 0 (by omega) (by omega) hw1
        obtain ⟨q, hq⟩ := hq (by omega)
        refine book hgo (aside_setCell W (stA ph.Wg) _) (hwg.setSt _) bk2 df2 (.quit hq) rfl (by omega) (by omega) ?_ (.inl (by omega))
        rw [eU 1 (by omega) (by omega)]
        have hv' : Vc (jOf ph.n a b) (ConcN.upd (wds E) x ⟨1, 0, 0⟩) + pend (tagOf a b bl) = v := by omega
        have e : ((v : Nat) : Int) * KK + ((0 : Nat) : Int) = ((Vc (jOf ph.n a b) (ConcN.upd (wds E) x ⟨1, 0, 0⟩) + pend (tagOf a b bl) : Nat) : Int) * KK := by rw [hv']; simp
        rw [e]
        exact .opn h1 (opq h2) (fun vs ev => by have := h3 vs ev; omega)
      | reg h1 h2 h3 =>
        subst hT
        obtain ⟨v, hv⟩ : ∃ v, Vc (jOf ph.n a b) (wds E) = v + 1 := ⟨Vc (jOf ph.n a b) (wds E) - 1, by omega⟩
        rw [hv] at hwg
        have hw1 : WgAt ph.tWg ph.Wg W (((v : Nat) + 1) * KK + ((1 : Nat) : Int)) 0 := by simpa using hwg
        obtain ⟨g', hgo, hl, hq⟩ := hall v 1 (by omega) (by omega) hw1
        by_cases hv0 : v = 0
        · subst hv0
          obtain ⟨m₂, hk'⟩ := hl ⟨rfl, rfl⟩
          refine book hgo (aside_setCell W (stA ph.Wg) _) (hwg.setSt _) bk2 df2 (.d2 hk') rfl (by omega) (by omega) ?_ (.inl (by omega))
          rw [eU 4 (by omega) (by omega)]
          have hoth : ∀ y, y < jOf ph.n a b → y ≠ x → (wds E y).stage = 1 := fun y hy e => by
            have c0 := others_uncounted hx hv hc1 y hy e
            have := h2 y hy
            simp only [cnt] at c0
            split at c0 <;> omega
          have := ConcN.Mode.last (j := jOf ph.n a b) (D := ConcN.upd (wds E) x ⟨4, 0, 0⟩) (tag := tagOf a b bl) x h1 hx (by rw [ConcN.upd_same]; simp) (fun y hy e => by rw [ConcN.upd_ne _ _ e]; exact hoth y hy e)
          rw [ConcN.upd_same] at this
          simpa using this
        · obtain ⟨q, hq⟩ := hq (by omega)
          refine book hgo (aside_setCell W (stA ph.Wg) _) (hwg.setSt _) bk2 df2 (.quit hq) rfl (by omega) (by omega) ?_ (.inl (by omega))
          rw [eU 1 (by omega) (by omega)]
          have hv' : Vc (jOf ph.n a b) (ConcN.upd (wds E) x ⟨1, 0, 0⟩) = v := by omega
          have e : ((v : Nat) : Int) * KK + ((1 : Nat) : Int) = ((Vc (jOf ph.n a b) (ConcN.upd (wds E) x ⟨1, 0, 0⟩) : Nat) : Int) * KK + 1 := by rw [hv']; simp
          rw [e]
          exact .reg h1 (opq h2) (by omega)
      | last L' _ h2 h3 h4 =>
        by_cases e : x = L'
        · subst e; omega
        · have := h4 x hx e; omega
      | sema h2 => have := h2 x hx; omega
      | fin _ h2 => have := h2 x hx; omega
    · obtain ⟨g', w', es, hgo, ⟨rfl, rfl⟩, hg'⟩ := hstep W (RW.refl W)
      exact idle hgo (.d1 hg') (by omega)
  | d2 h =>
    rcases Goes.cases h with hstop | ⟨m', rfl, hstep⟩
    · obtain ⟨_, hx'⟩ := hstop W (RW.refl W)
      obtain ⟨hW3, hoth, est, esm⟩ := hmode.isLast hx (by omega)
      simp only [hEs] at est
      subst esm
      obtain ⟨g', hgo, m₂, hk'⟩ := hx' (by rw [est] at hwg; simpa using hwg)
      refine book hgo (.refl ph.Wg W) hwg (by intro e he; simp at he; subst he; exact bk_cell _ _ rfl) (by intro jx e he; match jx, he with | 0, _ => exact .inr (by simp [deafBehind]) | jx + 1, he => simp at he) (.d3 hk') rfl (by omega) (by omega) ?_ (.inl (by omega))
      rw [eU 3 (by omega) (by omega)]
      have := ConcN.Mode.last (j := jOf ph.n a b) (D := ConcN.upd (wds E) x ⟨3, 0, 0⟩) (tag := tagOf a b bl) x hW3 hx (by rw [ConcN.upd_same]; simp) (fun y hy e => by rw [ConcN.upd_ne _ _ e]; exact hoth y hy e)
      rw [ConcN.upd_same] at this
      rw [est]
      simpa using this
    · obtain ⟨g', w', es, hgo, ⟨rfl, rfl⟩, hg'⟩ := hstep W (RW.refl W)
      exact idle hgo (.d2 hg') (by omega)
  | d3 h =>
    rcases Goes.cases h with hstop | ⟨m', rfl, hstep⟩
    · obtain ⟨_, hx'⟩ := hstop W (RW.refl W)
      obtain ⟨hW3, hoth, est, esm⟩ := hmode.isLast hx (by omega)
      simp only [hEs] at est
      subst esm
      obtain ⟨g', hgo, m₂, hk'⟩ := hx' (by rw [est] at hwg; simpa using hwg)
      refine book hgo (aside_setCell W (stA ph.Wg) _) (hwg.setSt 0) (by intro e he; simp at he; subst he; exact bk_cell _ _ rfl) (by intro jx e he; match jx, he with | 0, _ => exact .inr (by simp [deafBehind]) | jx + 1, he => simp at he) (.d4 hk') rfl (by omega) (by omega) ?_ (.inl (by omega))
      rw [eU 2 (by omega) (by omega)]
      have := ConcN.Mode.last (j := jOf ph.n a b) (D := ConcN.upd (wds E) x ⟨2, 0, 0⟩) (tag := tagOf a b bl) x hW3 hx (by rw [ConcN.upd_same]; simp) (fun y hy e => by rw [ConcN.upd_ne _ _ e]; exact hoth y hy e)
      rw [ConcN.upd_same] at this
      simpa using this
    · obtain ⟨g', w', es, hgo, ⟨rfl, rfl⟩, hg'⟩ := hstep W (RW.refl W)
      exact idle hgo (.d3 hg') (by omega)
  | d4 h =>
    rcases Goes.cases h with hstop | ⟨m', rfl, hstep⟩
    · obtain ⟨_, hmw, hx'⟩ := hstop W (RW.refl W)
      obtain ⟨hW3, hoth, est, esm⟩ := hmode.isLast hx (by omega)
      simp only [hEs] at est
      subst esm
      obtain ⟨g', hgo, q, hq⟩ := hx' (by rw [est] at hwg; simpa using hwg)
      have hrun' : g'.status = .running := by
        cases q with
        | zero => exact absurd hq.2 (by decide)
        | succ q => exact hq.elim (fun x => absurd x.2 (by decide)) (fun x => x.1)
      rw [est] at hwg
      refine bookG hgo (aside_setCell W (smA ph.Wg) _) (hwg.setSm 1) (es := semEvents (smA ph.Wg)) ?_ ?_ (.quit hq) (by simp [deafBehind, semEvents]) (by omega) (by omega) ?_ (.inl (by omega))
      · intro e he
        simp [semEvents] at he
        rcases he with rfl | rfl | rfl | rfl
        · exact .inl rfl
        · exact bk_cell _ _ rfl
        · exact bk_cell _ _ rfl
        · exact .inr (.inl rfl)
      · intro jx e he
        match jx, he with
        | 0, he => simp [semEvents] at he; subst he; exact .inl rfl
        | 1, _ => exact .inr (by simp [deafBehind, semEvents])
        | 2, _ => exact .inr (by simp [deafBehind, semEvents])
        | 3, he => simp [semEvents] at he; subst he; exact .inl rfl
        | jx + 4, he => simp [semEvents] at he
      · intro bl' hb' hw'
        have hnb := hw' hmw hrun'
        have e3 : tagOf a b bl' = .w3 := by
          revert hW3
          unfold tagOf
          (repeat' split) <;> first | exact fun _ => rfl | exact fun h => h.elim | (intro _; omega) | exact absurd ‹_› hnb
        rw [e3, eU 1 (by omega) (by omega)]
        simp only [if_true]
        exact .sema fun y hy => by
          by_cases e : y = x
          · subst e; rw [ConcN.upd_same]
          · rw [ConcN.upd_ne _ _ e]; exact hoth y hy e
    · obtain ⟨g', w', es, hgo, ⟨rfl, rfl⟩, hg'⟩ := hstep W (RW.refl W)
      exact idle hgo (.d4 hg') (by omega)
  | quit h =>
    cases f with
    | zero => rw [h.1] at hrun; cases hrun
    | succ q =>
      rcases h with ⟨hf, _⟩ | ⟨_, g', es, hmute, hstep, hq⟩
      · rw [hf] at hrun; cases hrun
      · have hbk : ∀ e ∈ es, Bk ph.Wg e := fun e he => bk_of_mute (hmute e he)
        have hno : ∀ jx e, es[jx]? = some e → (MemAct.ofEvent e).touch? = none ∨ 0 < deafBehind d (es.extract 0 jx) := fun jx e he => .inl (by
          rcases bk_of_mute (Wg := ph.Wg) (hmute e (Array.mem_of_getElem? he)) with h1 | h1 | ⟨a, wr, rfl, _⟩
          · rw [ofEvent_loc_mark h1]; rfl
          · rw [ofEvent_loc_mark h1]; rfl
          · have := hmute _ (Array.mem_of_getElem? he); simp [Event.mute] at this)
        exact book (hstep W) (.refl ph.Wg W) hwg hbk hno (.quit hq) rfl (by omega) (by omega) same (.inr ⟨rfl, by omega⟩)
end
end Go.Tx
