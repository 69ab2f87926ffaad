/- The pool's machine, ninth part: the starter sends and closes. -/
import Derived.Test.YtngoijkcbmchdaaGreatDoorMh
set_option linter.unusedVariables false
set_option linter.unusedSimpArgs false
namespace Go.Tx
open Go.Conc Go.ConcN
open Go.ConcR (KK wgBlock WgAt stA smA rd wr again_blocked g_of_ofEvents ofEvent_mk Bk)
variable [Old]

omit [Old] in
theorem set_comm {gs : Array Goroutine} {i j : Nat} (h : i ≠ j) (x y : Goroutine) : (gs.setIfInBounds i x).setIfInBounds j y = (gs.setIfInBounds j y).setIfInBounds i x := by
  apply Array.ext_getElem?
  intro k
  by_cases h1 : i = k
  · subst h1
    rw [Array.getElem?_setIfInBounds_ne (Ne.symm h)]
    by_cases hl : i < gs.size
    · rw [Array.getElem?_setIfInBounds_self_of_lt hl, Array.getElem?_setIfInBounds_self_of_lt (by simpa using hl)]
    · rw [Array.getElem?_eq_none (by simpa using hl), Array.getElem?_eq_none (by simpa using hl)]
  · by_cases h2 : j = k
    · subst h2
      rw [Array.getElem?_setIfInBounds_ne h1]
      by_cases hl : j < gs.size
      · rw [Array.getElem?_setIfInBounds_self_of_lt hl, Array.getElem?_setIfInBounds_self_of_lt (by simpa using hl)]
      · rw [Array.getElem?_eq_none (by simpa using hl), Array.getElem?_eq_none (by simpa using hl)]
    · rw [Array.getElem?_setIfInBounds_ne h2, Array.getElem?_setIfInBounds_ne h1, Array.getElem?_setIfInBounds_ne h1, Array.getElem?_setIfInBounds_ne h2]

section
variable {P : Program} {ph : Ph} {B' : Nat} {Z : Goroutine → World → Prop} {dead : Nat → Prop} {ws : Nat → World} {Bs : Nat → Nat} {k0 : Nat} {gs : Array Goroutine} {W W' : World} {sl : Option (Nat × Nat)} {t u : Trace}
  {E : Nat → Nat × Nat} {a b c bl : Nat} {S : Nat → Prop} {cs : Array Value} {st sm : Int} {ρ ρo : Rk} {L : List Wm}

/-- Who offers to receive: a worker that waits. -/
theorem PI.recvs (h : PI P ph B' Z dead ws Bs k0 gs W t E a b c bl S cs st sm ρ L) {g0 : Goroutine} (h0 : gs[0]? = some g0) (hr0 : g0.status ≠ .blocked) {j : Nat} {g : Goroutine} {k : Nat} (hg : gs[j]? = some g) (hk : k ∈ offersAt g ph.ch false) :
    k = 0 ∧ ∃ x lo ρw gw, j = k0 + x ∧ x < jOf ph.n a b ∧ E x = (0, lo) ∧ Deaf t j = 0 ∧ L[j - 1]? = some (7, (ρw, 0)) ∧ g = parked (core gw) #[rcase ph.ch ph.z] (.recv true) ∧ (ws j).output = gho 0 lo 0 ∧ ActH P false (Bs j) (WAc P ph) NoZ ρw gw (ws j) ∧ clOf a = false ∧ (bl == 1) = false := by
  have hlt : j < gs.size := (Array.getElem?_eq_some_iff.1 hg).1
  by_cases hj0 : j = 0
  · subst hj0; rw [h0] at hg; cases hg
    rw [offersAt_of_not_blocked hr0] at hk; cases hk
  · rcases Nat.lt_or_ge j k0 with hl | hge
    · obtain ⟨g1, q, e1, e2, _⟩ := h.lv j (by omega) hl
      rw [hg] at e1; cases e1
      rw [offers_lv e2] at hk; cases hk
    · obtain ⟨g1, m, e1, e2, e3⟩ := h.wk (j - k0) (by have := h.sz; omega)
      have ej : k0 + (j - k0) = j := by omega
      rw [ej] at e1 e2 e3
      rw [hg] at e1; cases e1
      generalize hd : Deaf t j = dd at e2
      generalize hE : E (j - k0) = ee at e2
      cases e2 with
      | run h1 h2 h3 h4 => rw [offersAt_of_not_blocked (by rw [h3]; simp)] at hk; cases hk
      | wait h1 h2 h3 h4 =>
        rw [offersAt_parked_recv] at hk
        simp at hk
        refine ⟨hk, j - k0, _, _, _, ej.symm, by have := h.sz; omega, hE, rfl, e3, rfl, h1, h2, h3, h4⟩
      | try_ h1 h2 h3 => rw [offersAt_of_not_blocked (by simp [parked])] at hk; cases hk
      | lib h1 h2 h3 => rw [offersAt_of_not_blocked (by rcases @WSit.status ⟨ph.cty⟩ _ _ _ _ _ _ _ _ _ _ _ _ _ _ _ h3 with h | h <;> rw [h] <;> simp)] at hk; cases hk

/-- The starter's send. -/
theorem PI.send (hp : PhOk ph) (h : PI P ph B' Z dead ws Bs k0 gs W t E 0 ph.n c 0 S cs st sm ρ L) {g : Goroutine} {z : Value} {ρ' : Rk} (hg : gs[0]? = some g) (hrun : g.status = .running) (hc : c < ph.N)
    (hst : stepG P true g W = .comm (core g) #[scase ph.ch (ph.jv c) z] true .send W #[]) (hlt : Rk.lt ρ' ρ) (hR : RunR P true B' (MAc P ph B') Z ρ' (Conc.served (core g) undef) ((World.upto (ws 0) W).say 0 ph.n (c + 1))) :
    Res P gs W sl 0 t ((ρo, (0, ρ)), (L, runs gs)) (IPo P ph B' Z dead ρo) := by
  have k1 := h.k1
  have hsz := h.sz
  have ej : jOf ph.n 0 ph.n = ph.n := rfl
  rw [ej] at hsz
  have h0 : 0 < gs.size := by omega
  obtain ⟨s, tm, hch⟩ := h.wCh
  have hch' : W.heap[ph.ch]? = some (.chan 0 #[] false s s tm) := hch
  have hS := h.grp.team.sees 0 h0
  have hsub := upto_sub hS.size
  have hev0 : ∀ pos, MemOp.ofEvents 0 g.frame.fn pos #[] = #[] := fun _ => rfl
  have hst' : stepG P (0 == 0) g W = .comm (core g) #[scase ph.ch (ph.jv c) z] true .send W #[] := hst
  have hG0 : Grp (upd ws 0 ((World.upto (ws 0) W).say 0 ph.n (c + 1))) Bs k0 gs.size W t (deadOf ph dead) := h.grp.say h0 0 ph.n (c + 1)
  by_cases hne : partners (gs.setIfInBounds 0 Conc.ph) ph.ch false = []
  · -- nobody waits: the starter does
    have hw : ∀ cc ∈ #[scase ph.ch (ph.jv c) z], NoWays W (gs.setIfInBounds 0 Conc.ph) cc := by
      intro cc hcc
      simp at hcc; subst hcc
      exact ways_send_none hch' (by simp) hne
    have hr := crowd_waits (sl := sl) hg hst' hw
    rw [hev0] at hr
    have hgs : ∀ k, k ≠ 0 → (gs.setIfInBounds 0 (parked (core g) #[scase ph.ch (ph.jv c) z] .send))[k]? = gs[k]? := fun k hk => Array.getElem?_setIfInBounds_ne (Ne.symm hk)
    have hs' : (gs.setIfInBounds 0 (parked (core g) #[scase ph.ch (ph.jv c) z] .send)).size = gs.size := by simp
    refine ⟨_, _, ((ρo, (0, ρ)), (L, runs _)), hr, Mz.runs (runs_park hg hrun (by simp [parked])), upd ws 0 (World.upto (ws 0) W), Bs, k0, _, W, sl, E, 0, ph.n, c, 1, S, cs, st, sm, ρ, L, rfl, ?_, rfl⟩
    have hGu : Grp (upd ws 0 (World.upto (ws 0) W)) Bs k0 gs.size W t (deadOf ph dead) := h.grp.upto h0
    have e0 : t ++ (#[] : Trace) = t := by simp
    rw [e0]
    refine ⟨by rw [hs']; exact hGu, h.b0, h.bw, h.k1, by rw [hs']; exact hsz, by rw [hs']; exact h.len, fun k q1 q2 => ?_, fun y hy => ?_, h.d0, ⟨_, Array.getElem?_setIfInBounds_self_of_lt h0, ?_⟩, h.ok, by rw [hs']; exact ⟨h.hob.1, h.hob.2.review hsub⟩, h.cC, h.wWg, h.mode, h.wCh, h.wOb, h.jobs, h.opn, h.vb, h.rel, h.tch⟩
    · obtain ⟨g1, q, e1, e2, e3⟩ := h.lv k q1 q2
      exact ⟨g1, q, by rw [hgs k (by omega)]; exact e1, e2, e3⟩
    · obtain ⟨g1, m1, e1, e2, e3⟩ := h.wk y hy
      refine ⟨g1, m1, by rw [hgs _ (by omega)]; exact e1, ?_, e3⟩
      rw [upd_ne _ _ (by omega)]
      have e2' : WSt P ph (Bs (k0 + y)) false false (Deaf t (k0 + y)) (E y) m1 g1 (ws (k0 + y)) W := e2
      show WSt P ph (Bs (k0 + y)) false true (Deaf t (k0 + y)) (E y) m1 g1 (ws (k0 + y)) W
      generalize Deaf t (k0 + y) = dd at e2' ⊢
      generalize E y = ee at e2' ⊢
      cases e2' with
      | run h1 h2 h3 h4 => exact .run h1 h2 h3 h4
      | wait h1 h2 h3 h4 =>
        exfalso
        have : (k0 + y, 0) ∈ partners (gs.setIfInBounds 0 Conc.ph) ph.ch false := mem_partners.2 ⟨_, stand_get (i := 0) (by omega) e1, by rw [offersAt_parked_recv]; simp⟩
        rw [hne] at this; cases this
      | try_ h1 h2 h3 => cases h3
      | lib h1 h2 h3 => exact .lib h1 h2 h3
    · rw [upd_same]
      exact .send hc hlt hR
  · obtain ⟨j, gj, zj, shj, d, hij, hj, hr⟩ := crowd_send_meets_some (sl := sl) hg hst' hch' hne (fun j k hm => by
      obtain ⟨g1, e1, e2⟩ := mem_partners.1 hm
      rcases getElem?_stand _ _ _ _ e1 with ⟨_, rfl⟩ | ⟨hne', e1'⟩
      · rw [offersAt_ph] at e2; cases e2
      · obtain ⟨hk, x, lo, ρw, gw, _, _, _, _, _, e, _⟩ := h.recvs hg (by rw [hrun]; simp) e1' e2
        exact ⟨hk, hne', core gw, ph.z, .recv true, by rw [e1', e]⟩)
    have hoff : (0 : Nat) ∈ offersAt (parked gj #[rcase ph.ch zj] shj) ph.ch false := by rw [offersAt_parked_recv]; simp
    obtain ⟨_, x, lo, ρw, gw, ejx, hx, hE, hd, hm, hpk, hout, hH, _, _⟩ := h.recvs hg (by rw [hrun]; simp) hj hoff
    rw [ej] at hx
    subst ejx
    have hf : gj.frame = (core gw).frame := by have := congrArg (fun x : Goroutine => x.frame) hpk; exact this
    have hcl' : gj.callers = (core gw).callers := by have := congrArg (fun x : Goroutine => x.callers) hpk; exact this
    have hdy : gj.dying = (core gw).dying := by have := congrArg (fun x : Goroutine => x.dying) hpk; exact this
    have ho : shj = .recv true := by have := congrArg Goroutine.offers hpk; simp [parked] at this; exact this.2
    subst ho
    have hsv : ∀ v, Conc.served gj v = Conc.served (core gw) v := fun v => by
      unfold Conc.served
      obtain ⟨f1, c1, s1, d1, o1⟩ := gj
      simp only at hf hcl' hdy
      subst hf hcl' hdy
      rfl
    rw [finishComm_recv, finishComm_send, hev0, set_comm (by omega), hsv] at hr
    have hkx : k0 + x < gs.size := by omega
    have hSx := h.grp.team.sees (k0 + x) hkx
    obtain ⟨K, hK, hcont⟩ := hH _ hSx.push hSx.noView
    cases hK with
    | idle hw hdo => have := (gho_inj (hout.symm.trans hw)).1; omega
    | store hw hst => have := (gho_inj (hout.symm.trans hw)).1; omega
    | rel hw hst => have := (gho_inj (hout.symm.trans hw)).1; omega
    | recv hw hst hjj hcc =>
      obtain ⟨_, rfl, _⟩ := gho_inj (hout.symm.trans hw)
      have hle := h.jobs.lo x hx (by rw [hE])
      rw [hE] at hle
      obtain ⟨ρw', hltw, hRw⟩ := hcont _ _ (hjj c hle hc)
      refine h.meet hp (by omega) (x := x) (d := d) hx hc hr ?_ hch' (w0' := (World.upto (ws 0) W).say 0 ph.n (c + 1)) ?_ ?_ hE hm rfl hR hlt rfl rfl hRw hd (fun y g m hy hne e1 e2 => e2)
      · intro op hop
        simp at hop
        rcases hop with rfl | rfl | rfl | rfl
        · exact ⟨h0, rfl, by simp⟩
        · exact ⟨hkx, rfl, by simp⟩
        · exact ⟨h0, rfl, by simp⟩
        · exact ⟨hkx, rfl, by simp⟩
      · have := hG0.say hkx 1 c 0
        rwa [upd_ne _ _ (by omega)] at this
      · refine (h.hob.2.review (w' := (World.upto (ws 0) W).say 0 ph.n (c + 1)) hsub).review (fun b h1 h2 => ?_)
        rw [upd_ne _ _ (by omega)]
        exact upto_sub hSx.size b h1 h2

/-- The starter's close. -/
theorem PI.close (hp : PhOk ph) (h : PI P ph B' Z dead ws Bs k0 gs W t E 0 ph.n ph.N 0 S cs st sm ρ L) {g g' : Goroutine} {s : Nat} {tm : Bool} {ρ' : Rk} (hg : gs[0]? = some g)
    (hch : W.heap[ph.ch]? = some (.chan 0 #[] false s s tm)) (hgo : stepG P true g W = .go g' (W.shut ph.ch s s tm) #[⟨.obj ph.ch, false, true⟩, ⟨.obj ph.ch, true, true⟩]) (hmw : mayWake P g = true) (hs' : g'.status = .running)
    (hlt : Rk.lt ρ' ρ) (hR : RunR P true B' (MAc P ph B') Z ρ' g' ((World.upto (ws 0) W).say 10 0 0)) :
    Res P gs W sl 0 t ((ρo, (0, ρ)), (L, runs gs)) (IPo P ph B' Z dead ρo) := by
  have k1 := h.k1
  have hsz := h.sz
  have ej : jOf ph.n 0 ph.n = ph.n := rfl
  have ej' : jOf ph.n 10 0 = ph.n := rfl
  rw [ej] at hsz
  have h0 : 0 < gs.size := by omega
  have hS := h.grp.team.sees 0 h0
  have hsub := upto_sub hS.size
  have hlc : ph.ch < W.heap.size := (Array.getElem?_eq_some_iff.1 hch).1
  have hrun := runT_crowd_go (P := P) (sl := sl) (i := 0) hg (by simpa using hgo)
  have hgs : ∀ k, k ≠ 0 → ((gs.map (woken P g g' (W.shut ph.ch s s tm))).setIfInBounds 0 g')[k]? = (gs[k]?).map (woken P g g' (W.shut ph.ch s s tm)) := fun k hk => get_map_set _ _ _ _ (Ne.symm hk)
  have hsz' : ((gs.map (woken P g g' (W.shut ph.ch s s tm))).setIfInBounds 0 g').size = gs.size := by simp
  have hops : MemOp.ofEvents 0 g.frame.fn g.frame.place #[⟨.obj ph.ch, false, true⟩, ⟨.obj ph.ch, true, true⟩] = #[{ g := 0, fn := g.frame.fn, pos := g.frame.place, act := .access ⟨.obj ph.ch, false, true⟩ }, { g := 0, fn := g.frame.fn, pos := g.frame.place, act := .close ph.ch }] := by rw [ofEvents_eq]; simp [MemAct.ofEvent]
  rw [hops] at hrun
  generalize hu : (#[({ g := 0, fn := g.frame.fn, pos := g.frame.place, act := .access ⟨.obj ph.ch, false, true⟩ } : MemOp), { g := 0, fn := g.frame.fn, pos := g.frame.place, act := .close ph.ch }] : Trace) = u at hrun
  have hg0 : ∀ op ∈ u, op.g = 0 := by intro op hop; subst hu; simp at hop; rcases hop with rfl | rfl <;> rfl
  have hnm : ∀ op ∈ u, ∀ m, op.act ≠ .mark m := by intro op hop; subst hu; simp at hop; rcases hop with rfl | rfl <;> simp
  have htc : ∀ op ∈ u, ∀ x, op.act.touch? = some x → blk x.loc = some ph.ch ∧ x.kind = .atomic := by
    intro op hop x hx; subst hu; simp at hop
    rcases hop with rfl | rfl
    · simp only [MemAct.touch?, Option.some.injEq] at hx; subst hx; exact ⟨rfl, rfl⟩
    · cases hx
  have hstill : ∀ k, Deaf (t ++ u) k = Deaf t k := fun k => Deaf_still t k u fun op hop => ⟨hnm op hop _, hnm op hop _⟩
  have hother : ∀ bb, bb ≠ ph.ch → (W.shut ph.ch s s tm).heap[bb]? = W.heap[bb]? := fun bb hb => by
    show (W.heap.setIfInBounds ph.ch _)[bb]? = _
    rw [Array.getElem?_setIfInBounds_ne (Ne.symm hb)]
  have hcW : (W.shut ph.ch s s tm).heap[ph.ch]? = some (.chan 0 #[] true s s tm) := by
    show (W.heap.setIfInBounds ph.ch _)[ph.ch]? = _
    rw [Array.getElem?_setIfInBounds_self_of_lt hlc]
  have hG0 : Grp (upd ws 0 ((World.upto (ws 0) W).say 10 0 0)) Bs k0 gs.size W t (deadOf ph dead) := h.grp.say h0 10 0 0
  have hdC : Hid (upd ws 0 ((World.upto (ws 0) W).say 10 0 0)) gs.size ph.ch := (hG0.hid ph.ch (.inr (.inr rfl))).2
  have hAp : Apt (upd ws 0 ((World.upto (ws 0) W).say 10 0 0)) gs.size W (W.shut ph.ch s s tm) := Apt.put W hdC hp.lC _
  have hC' : Cst ph (W.shut ph.ch s s tm) := (hother _ hp.cC).trans h.cC.2
  have hwg' : WgAt ph.tWg ph.Wg (W.shut ph.ch s s tm) st sm := h.wWg.of_block (hother _ hp.wc)
  refine ⟨_, _, ((ρo, (0, ρ')), (L, runs _)), hrun, Mz.main (.right _ (.right _ hlt)) _ _, upd ws 0 ((World.upto (ws 0) W).say 10 0 0), Bs, k0, _, _, sl, E, 10, 0, 0, 0, S, cs, st, sm, ρ', L, rfl, ?_, rfl⟩
  refine ⟨by rw [hsz']; exact (hG0.apt hAp).mark h0 (.inl rfl) hg0 (fun op hop x hx => ⟨fun b hb => (by obtain ⟨q1, _⟩ := htc op hop x hx; rw [q1] at hb; cases hb; exact (hG0.apt hAp).hid _ (.inr (.inr rfl))), fun _ => ⟨_, (htc op hop x hx).1, .inr (.inr rfl)⟩, fun said i a ha hc => absurd (show a.kind = .plain from (hc.2.2.2.resolve_right (by rw [(htc op hop x hx).2]; simp))) (h.tch.chn i a ha (by rw [hc.1]; exact (htc op hop x hx).1))⟩), h.b0, h.bw, h.k1, by rw [hsz', ej']; exact hsz, by rw [hsz']; exact h.len, fun k q1 q2 => ?_, fun y hy => ?_, by rw [hstill]; exact h.d0, ⟨g', get_map_set_same _ _ _ h0, by rw [upd_same]; exact .run rfl hR⟩, .inr (.inr ⟨by omega, by omega, rfl⟩), by rw [hsz', hAp.size]; exact ⟨h.hob.1, h.hob.2.review hsub⟩, ⟨h.cC.1, hC'⟩, hwg', ?_, ⟨s, tm, hcW⟩, (hother _ (Ne.symm hp.co)).trans h.wOb, ?_, fun hcl => (by cases hcl), fun ha => by omega, fun y hy h3 => ?_, h.tch.app (fun _ x => x) (fun op hop A => hnm op hop _) fun op hop x hx => ⟨fun hb => absurd (Option.some.inj (hb.symm.trans (htc op hop x hx).1)) hp.wc, fun hb => absurd (Option.some.inj ((htc op hop x hx).1.symm.trans hb)) hp.co, fun _ => by rw [(htc op hop x hx).2]; simp⟩⟩
  · obtain ⟨g1, q, e1, e2, e3⟩ := h.lv k q1 q2
    exact ⟨g1, q, by rw [hgs k (by omega), e1, Option.map_some, woken_quitsD e2], by rw [hstill]; exact e2, e3⟩
  · obtain ⟨g1, m1, e1, e2, e3⟩ := h.wk y hy
    refine ⟨_, m1, by rw [hgs _ (by omega), e1]; rfl, ?_, e3⟩
    rw [upd_ne _ _ (by omega), hstill]
    exact (WSt.closed e2 hcW hmw hs').rely (rw_of ⟨_, _, hwg'⟩ h.cC.2 hC')
  · exact h.mode
  · exact h.jobs
  · obtain ⟨r, hr⟩ := h.rel y hy h3
    exact ⟨r, hr.appOther hg0 (by omega)⟩
end
end Go.Tx
